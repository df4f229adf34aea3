/- Functions that the law FnExactAreSameForm comes to, as Lean functions, with the proof that the Go code does what they say: written by a program of this session over the kit's print. No condition but those named. -/
import Derived.Test.YtjmpanikfomgeaaQFnExactAreSameFormx0
namespace Go.Proofs.Ytjmpanikfomgeaa.QFnExactAreSameForm
open Go.RowKit Go.Proofs.YtjmpanikfomgeaaW.PrintWords Go.Proofs.YtjmpanikfomgeaaW.PrintLast Go.Proofs.YtjmpanikfomgeaaW.PrintMore Go.Proofs.Ytjmpanikfomgeaa.Short
attribute [local go_sem] max2_int min2_int max_two min_two max_three min_three max_four min_four   -- for this text's walks alone
set_option linter.unusedVariables false
set_option linter.unusedSimpArgs false

/-! ### spec_l1Put: function 74 -/
section
open Kd
def spec_l1Put.l0 : Nat → List Int → Int → Int → Option (List Int)
 | 0,_,_,_=>none
 | k + 1,x0,x1,x5=>if x5 < (x0.length : Int) then (if 0 ≤ x5 then (if (rd x0 x5) < x1 then (spec_l1Put.l0 k x0 x1 (wrap64 (x5 + 1))) else (if (rd x0 x5) = x1 then (none) else ((some (([] : List Int) : List Int)).bind fun y131=>(if x5 ≤ (x0.length : Int) then (if y131.length + (x0.take (x5 : Int).toNat).length < 17592186044416 then ((some (y131 ++ (x0.take (x5 : Int).toNat) : List Int)).bind fun y135=>((some (([x1] : List Int) : List Int)).bind fun y138=>(if y135.length + y138.length < 17592186044416 then ((some (y135 ++ y138 : List Int)).bind fun y141=>(if y141.length + (x0.drop (x5 : Int).toNat).length < 17592186044416 then (some (y141 ++ (x0.drop (x5 : Int).toNat))) else (none))) else (none)))) else (none)) else (none))))) else (none)) else ((some (([] : List Int) : List Int)).bind fun y148=>(if 0 ≤ x5 then (if x5 ≤ (x0.length : Int) then (if y148.length + (x0.take (x5 : Int).toNat).length < 17592186044416 then ((some (y148 ++ (x0.take (x5 : Int).toNat) : List Int)).bind fun y152=>((some (([x1] : List Int) : List Int)).bind fun y155=>(if y152.length + y155.length < 17592186044416 then ((some (y152 ++ y155 : List Int)).bind fun y158=>(if y158.length + (x0.drop (x5 : Int).toNat).length < 17592186044416 then (some (y158 ++ (x0.drop (x5 : Int).toNat))) else (none))) else (none)))) else (none)) else (none)) else (none)))
def spec_l1Put.f (k : Nat) (l0 : List Int) (a1 : Int) : Option (List Int):=spec_l1Put.l0 k l0 a1 0
theorem spec_l1Put.mono_l : ∀ k,(∀ y0 y1 y2,LeO (spec_l1Put.l0 k y0 y1 y2) (spec_l1Put.l0 (k + 1) y0 y1 y2))
 | 0=>fun _ _ _ r h=>by simp [spec_l1Put.l0] at h
 | k + 1=>by
  have ih0:=spec_l1Put.mono_l k
  ·intro y0 y1 y2
   unfold spec_l1Put.l0
   repeat' first
   | (with_reducible exact ih0 _ _ _)
   | (with_reducible exact LeO.refl _)
   | (with_reducible exact LeO.none _)
   | (with_reducible refine LeO.ite ?_ ?_)
   | (with_reducible refine LeO.bind ?_ (fun _=>?_))
   | exact ih0 _ _ _
   | exact LeO.none _
   | refine LeO.ite ?_ ?_
   | refine LeO.bind ?_ (fun _=>?_)
theorem spec_l1Put.mono : ∀ a0 a1 k,LeO (spec_l1Put.f k a0 a1) (spec_l1Put.f (k + 1) a0 a1):=by
 intro a0 a1 k
 have ih0:=spec_l1Put.mono_l k
 unfold spec_l1Put.f
 repeat' first
   | (with_reducible exact ih0 _ _ _)
   | (with_reducible exact LeO.refl _)
   | (with_reducible exact LeO.none _)
   | (with_reducible refine LeO.ite ?_ ?_)
   | (with_reducible refine LeO.bind ?_ (fun _=>?_))
   | exact ih0 _ _ _
   | exact LeO.none _
   | refine LeO.ite ?_ ?_
   | refine LeO.bind ?_ (fun _=>?_)
def spec_l1Put.T6 : Bool × List (List Nat × List Nat):=(true,[([],[]),([],[]),([],[]),([1,2],[1,2]),([0,3],[0,3]),([],[]),([5],[5]),([4,6,4],[4,6]),([],[]),([],[]),([8,9],[8,9]),([7,10,7],[7,10]),([11,11,0,1,2,3,4,5,6,7,8,9,10,11],[11])])
def spec_l1Put.B6 : List Nat:=[0,0,0,6,15,0,32,127,0,0,768,2047,4095]
theorem spec_l1Put.tab6 : rtab .any (opsOf Try.f74 6) = spec_l1Put.T6:=by kernel_rfl
theorem spec_l1Put.bits6 : waitsOk spec_l1Put.T6.2 spec_l1Put.B6 = true:=by kernel_rfl
set_option maxHeartbeats 8000000 in
set_option maxRecDepth 100000 in
theorem spec_l1Put.calls (k : Nat) (A0 : Option Addr) (c0 : Nat) (l0 : List Int) (a1 : Int) (r : List Int) (w : World) (hr0 : Kd.C (Kd.int .i64) w A0 l0.length l0) (hc0 : l0.length ≤ c0) (h : spec_l1Put.f k l0 a1 = some r) :
  Calls Try.prog 74 #[.slice A0 l0.length c0,.int .i64 a1] w fun e w'=>∃ v0_ : Value,e = .returned (v0_) ∧ Kd.R (Kd.int .i64) 3 w' w.heap.size (fun _=>True) v0_ r ∧ Below w.heap.size w w':=by
 have HR0:=Aside0.mk hr0
 have HC0:=Aside0.mk hc0
 clear hr0 hc0
 have HB:=Aside0.mk (Below.refl w.heap.size w)
 have H : (spec_l1Put.l0 k l0 a1 0) = some r:=h
 clear h
 have H':=Aside0.mk H
 clear H
 go_enter Try.func74,Try.ntmps74
 go_wp2
 go_loopg [5] k (fun kq v5 w'=>∃ (x5_1 : Int),v5 = .int .i64 x5_1 ∧ Aside0 (spec_l1Put.l0 kq l0 a1 x5_1 = some r) ∧ Aside0 (kq ≤ k) ∧ Aside0 (Below w.heap.size w w'))
 case atStart=>exact ⟨(0),(by first|rfl|(simp;done)|(simp [*];done)),H',⟨Nat.le_refl _⟩,⟨hm HB.out⟩⟩
 clear H'
 try clear p2
 obtain ⟨x5_1,rfl,HA,HK1,HB⟩:=hrel
 cases gk with
 | zero=>exact absurd HA.out (by simp [spec_l1Put.l0])
 | succ k1 =>
  have H:=HA.out
  clear HA
  simp only [spec_l1Put.l0] at H
  by_cases c3 : x5_1 < (l0.length : Int)
  rotate_left
  ·rw [if_neg c3] at H
   have c3b0 : decide (x5_1 < (l0.length : Int)) = false:=decide_eq_false c3
   clear c3
   obtain ⟨y148,hy148⟩ : ∃ y_ : List Int,y_ = (([] : List Int)):=⟨_,rfl⟩
   replace H : (if 0 ≤ x5_1 then (if x5_1 ≤ (l0.length : Int) then (if y148.length + (l0.take (x5_1 : Int).toNat).length < 17592186044416 then ((some (y148 ++ (l0.take (x5_1 : Int).toNat) : List Int)).bind fun y152=>((some (([a1] : List Int) : List Int)).bind fun y155=>(if y152.length + y155.length < 17592186044416 then ((some (y152 ++ y155 : List Int)).bind fun y158=>(if y158.length + (l0.drop (x5_1 : Int).toNat).length < 17592186044416 then (some (y158 ++ (l0.drop (x5_1 : Int).toNat))) else (none))) else (none)))) else (none)) else (none)) else (none)) = some r:=by first|(rw [hy148];with_reducible exact H)|(have H2_:=(Option.bind_some _ _).symm.trans H;rw [hy148];with_reducible exact H2_)|(have H2_:=(Option.bind_some _ _).symm.trans H;with_reducible exact H2_)|with_reducible exact H|(rw [hy148];exact H)|exact H
   have Ny148:=Aside0.mk hy148
   clear hy148
   by_cases c26 : 0 ≤ x5_1
   rotate_left
   ·rw [if_neg c26] at H
    exact absurd H (by simp)
   rw [if_pos c26] at H
   have c26b0:=eq_true c26
   have c26b1 : decide (0 ≤ x5_1) = true:=decide_eq_true c26
   clear c26
   by_cases c27 : x5_1 ≤ (l0.length : Int)
   rotate_left
   ·rw [if_neg c27] at H
    exact absurd H (by simp)
   rw [if_pos c27] at H
   have c27b0:=eq_true c27
   have c27b1 : decide (x5_1 ≤ (l0.length : Int)) = true:=decide_eq_true c27
   clear c27
   by_cases c28 : y148.length + (l0.take (x5_1 : Int).toNat).length < 17592186044416
   rotate_left
   ·rw [if_neg c28] at H
    exact absurd H (by simp)
   rw [if_pos c28] at H
   have LMc28:=Aside0.mk c28
   clear c28
   obtain ⟨y152,hy152⟩ : ∃ y_ : List Int,y_ = (y148 ++ (l0.take (x5_1 : Int).toNat)):=⟨_,rfl⟩
   replace H : ((some (([a1] : List Int) : List Int)).bind fun y155=>(if y152.length + y155.length < 17592186044416 then ((some (y152 ++ y155 : List Int)).bind fun y158=>(if y158.length + (l0.drop (x5_1 : Int).toNat).length < 17592186044416 then (some (y158 ++ (l0.drop (x5_1 : Int).toNat))) else (none))) else (none))) = some r:=by first|(rw [hy152];with_reducible exact H)|(have H2_:=(Option.bind_some _ _).symm.trans H;rw [hy152];with_reducible exact H2_)|(have H2_:=(Option.bind_some _ _).symm.trans H;with_reducible exact H2_)|with_reducible exact H|(rw [hy152];exact H)|exact H
   have Ny152:=Aside0.mk hy152
   clear hy152
   obtain ⟨y155,hy155⟩ : ∃ y_ : List Int,y_ = (([a1] : List Int)):=⟨_,rfl⟩
   replace H : (if y152.length + y155.length < 17592186044416 then ((some (y152 ++ y155 : List Int)).bind fun y158=>(if y158.length + (l0.drop (x5_1 : Int).toNat).length < 17592186044416 then (some (y158 ++ (l0.drop (x5_1 : Int).toNat))) else (none))) else (none)) = some r:=by first|(rw [hy155];with_reducible exact H)|(have H2_:=(Option.bind_some _ _).symm.trans H;rw [hy155];with_reducible exact H2_)|(have H2_:=(Option.bind_some _ _).symm.trans H;with_reducible exact H2_)|with_reducible exact H|(rw [hy155];exact H)|exact H
   have Ny155:=Aside0.mk hy155
   clear hy155
   by_cases c29 : y152.length + y155.length < 17592186044416
   rotate_left
   ·rw [if_neg c29] at H
    exact absurd H (by simp)
   rw [if_pos c29] at H
   have LMc29:=Aside0.mk c29
   clear c29
   obtain ⟨y158,hy158⟩ : ∃ y_ : List Int,y_ = (y152 ++ y155):=⟨_,rfl⟩
   replace H : (if y158.length + (l0.drop (x5_1 : Int).toNat).length < 17592186044416 then (some (y158 ++ (l0.drop (x5_1 : Int).toNat))) else (none)) = some r:=by first|(rw [hy158];with_reducible exact H)|(have H2_:=(Option.bind_some _ _).symm.trans H;rw [hy158];with_reducible exact H2_)|(have H2_:=(Option.bind_some _ _).symm.trans H;with_reducible exact H2_)|with_reducible exact H|(rw [hy158];exact H)|exact H
   have Ny158:=Aside0.mk hy158
   clear hy158
   have c30b0:=eq_true (od : 0 ≤ x5_1)
   have c31b0:=eq_true (od : x5_1 ≤ (l0.length : Int))
   by_cases c32 : y158.length + (l0.drop (x5_1 : Int).toNat).length < 17592186044416
   rotate_left
   ·rw [if_neg c32] at H
    exact absurd H (by simp)
   rw [if_pos c32] at H
   have LMc32:=Aside0.mk c32
   clear c32
   obtain ⟨y162,hy162⟩ : ∃ y_ : List Int,y_ = (y158 ++ (l0.drop (x5_1 : Int).toNat)):=⟨_,rfl⟩
   replace H : (some y162) = some r:=by first|(rw [hy162];with_reducible exact H)|(have H2_:=(Option.bind_some _ _).symm.trans H;rw [hy162];with_reducible exact H2_)|(have H2_:=(Option.bind_some _ _).symm.trans H;with_reducible exact H2_)|with_reducible exact H|(rw [hy162];exact H)|exact H
   have Ny162:=Aside0.mk hy162
   clear hy162
   obtain rfl:=Option.some.inj H
   try go_wp2
   have n0_:=Aside0.mk (below_drew1 HB.out)
   clear HB
   have HB:=n0_
   clear n0_
   obtain ⟨i034,hi034,_,hsz34,_⟩:=info_parts info3
   obtain ⟨hcut34,hA34,hC34⟩:=print_take_of (P:=Try.prog) (Value.int .i64) 0 22 3 .i64 Try.underlying22 hi034 hsz34 A0 c0 l0 x5_1 (od) (od) HC0.out
   have HR151:=Aside0.mk (C_of_reads (h1:=fun _=>rfl) (hA34 _ (Kd.reads_of_C HR0.out)))
   have HC151:=Aside0.mk hC34
   clear hA34 hC34 hi034 hsz34
   obtain ⟨i035,hi035,_,hsz35,_⟩:=info_parts info3
   obtain ⟨A35,hcut35,hA35,hC35⟩:=print_drop_of (P:=Try.prog) (Value.int .i64) 0 22 3 .i64 Try.underlying22 hi035 hsz35 A0 c0 l0 x5_1 (od) (od) HC0.out
   have HR161:=Aside0.mk (C_of_reads (h1:=fun _=>rfl) (hA35 _ (Kd.reads_of_C HR0.out)))
   have HC161:=Aside0.mk hC35
   clear hA35 hC35 hi035 hsz35
   refine start_ (n:=13) (S:=fun w'=>True) (ds:=[]) (lb 13 0) (by kernel_rfl) rfl rfl trivial (fun hHeld=>?_);refine with_tabW spec_l1Put.tab6 spec_l1Put.bits6 (fun HT_ HW_=>?_)
   generalize wr.drew = w33 at HB HR151 HR161 hHeld ⊢
   refine pu 1 (N:=some 34) (v:=?_) (a':=?_) (lb 13 2) HT_ (by kernel_rfl) rfl rfl rfl (fun _ _ _ h=>h) ?_ ?_ ?_
   rotate_left
   ·intro w'
    go_simp
    with_reducible rfl
   rotate_left
   ·simp only [ap]
    rfl
   refine pu 2 (N:=some 35) (v:=?_) (a':=?_) (lb 13 6) HT_ (by kernel_rfl) rfl rfl rfl (fun _ _ _ h=>h) ?_ ?_ ?_
   rotate_left
   ·intro w'
    go_simp
    with_reducible rfl
   rotate_left
   ·simp only [ap]
    rfl
   refine pu 3 (N:=some 36) (v:=?_) (a':=?_) (lb 13 14) HT_ (by kernel_rfl) rfl rfl rfl (fun _ _ _ h=>h) ?_ ?_ ?_
   rotate_left
   ·intro w'
    go_simp
    with_reducible rfl
   rotate_left
   ·simp only [ap]
    rfl
   refine pu 5 (N:=some 38) (v:=?_) (a':=?_) (lb 13 46) HT_ (by kernel_rfl) rfl rfl rfl (fun _ _ _ h=>h) ?_ ?_ ?_
   rotate_left
   ·intro w'
    go_simp
    with_reducible rfl
   rotate_left
   ·simp only [ap]
    rfl
   refine pu 8 (N:=some 41) (v:=?_) (a':=?_) (lb 13 302) HT_ (by kernel_rfl) rfl rfl rfl (fun _ _ _ h=>h) ?_ ?_ ?_
   rotate_left
   ·intro w'
    go_simp
    with_reducible rfl
   rotate_left
   ·simp only [ap]
    rfl
   refine pu 9 (N:=some 42) (v:=?_) (a':=?_) (lb 13 814) HT_ (by kernel_rfl) rfl rfl rfl (fun _ _ _ h=>h) ?_ ?_ ?_
   rotate_left
   ·intro w'
    go_simp
    with_reducible rfl
   rotate_left
   ·simp only [ap]
    rfl
   refine pu 10 (N:=some 43) (v:=?_) (a':=?_) (lb 13 1838) HT_ (by kernel_rfl) rfl rfl rfl (fun _ _ _ h=>h) ?_ ?_ ?_
   rotate_left
   ·intro w'
    go_simp
    with_reducible rfl
   rotate_left
   ·simp only [ap]
    rfl
   refine join_ (σ:=Value × Value × Value) 3 (lb 13 1919) (fun s_=>[(33,s_.1),(37,s_.2.1),(39,s_.2.2)]) (fun s_ w'=>(Kd.R (Kd.int .i64) 3 w' w.heap.size (fun k_=>some k_ ≠ (s_.2.2 : Value).ownBlock) s_.2.1 y152) ∧ (Kd.R (Kd.int .i64) 3 w' w.heap.size (fun k_=>some k_ ≠ (s_.2.1 : Value).ownBlock) s_.2.2 y155) ∧ (Below w.heap.size w w')) ?_ ?_
   rotate_left
   ·intro hCont
    refine two_ (i:=0) (j:=6) (Ni:=some 33) (Nj:=some 39) (lb 13 1839) (lb 13 1902) rfl rfl rfl rfl (two_of HT_.out (by kernel_rfl)) (by decide) (by decide) (fun K hK=>?_) (fun K hK=>?_)
    rotate_left
    ·skip
     refine R_lit_step (Kd.int .i64) _ 3 ?hg (N:=39) ?hd (xs:=([a1] : List Int)) (inner:=[.int .i64 a1]) (ok:=fun _=>True) (okp:=fun _=>True) ?hr ?hp (fun _ hk=>hk) trivial (Below.refl _ _) (Nat.le_refl _) (by simp) ?_;(case hd=>rfl);(case hg=>rfl);(case hr=>first|(go_simp;done)|(go_simp;rfl));(case hp=>exact (Reps.one (show Kd.M (Kd.int .i64) _ _ _ a1 [.int .i64 a1] from rfl) (Reps.none _ _)))
     intro v156 w36 ho37 hb hg_ hnew_
     clear hg_ hnew_
     (first|rw [← Ny155.out] at ho37|(simp only [Int.reduceToNat] at ho37;rw [← Ny155.out] at ho37))
     have n0_:=Aside0.mk (R_lower ho37 (below_size (hm HB.out)))
     have n1_:=Aside0.mk (below_step (hm HB.out) hb)
     clear HB
     have HO157:=n0_
     have HB:=n1_
     clear n0_ n1_
     clear hb ho37
     refine hK.out _ _ trivial (fun hHeld=>?_)
     clear hK K
     refine norm_ (a':=?_) ?_ ?_
     rotate_left
     ·show Act.put _ (some 39) _ = _
      simp only [ap]
      rfl
     refine one_ (i:=0) (N:=some 33) (lb 13 1903) rfl rfl (one_of HT_.out (by kernel_rfl)) (by decide) (fun K hK=>?_)
     refine R_lit_step (Kd.int .i64) _ 3 ?hg (N:=33) ?hd (xs:=([] : List Int)) (inner:=[]) (ok:=fun _=>True) (okp:=fun _=>True) ?hr ?hp (fun _ hk=>hk) trivial (Below.refl _ _) (Nat.le_refl _) (by simp) ?_;(case hd=>rfl);(case hg=>rfl);(case hr=>first|(go_simp;done)|(go_simp;rfl));(case hp=>exact (Reps.none _ _))
     intro v149 w38 ho39 hb hg_ hnew_
     clear hg_ hnew_
     (first|rw [← Ny148.out] at ho39|(simp only [Int.reduceToNat] at ho39;rw [← Ny148.out] at ho39))
     have n0_:=Aside0.mk (R_elder' (rm HO157.out) (R_base ho39) hb)
     have n1_:=Aside0.mk (R_lower (R_new' ho39 (R_lt (rm HO157.out))) (below_size (hm HB.out)))
     have n2_:=Aside0.mk (below_step (hm HB.out) hb)
     clear HO157
     clear HB
     have HO157:=n0_
     have HO150:=n1_
     have HB:=n2_
     clear n0_ n1_ n2_
     clear hb ho39
     refine hK.out _ _ trivial (fun hHeld=>?_)
     clear hK K
     refine norm_ (a':=?_) ?_ ?_
     rotate_left
     ·show Act.put _ (some 33) _ = _
      simp only [ap]
      rfl
     refine one_ (i:=4) (N:=some 37) (lb 13 1919) rfl rfl (one_of HT_.out (by kernel_rfl)) (by decide) (fun K hK=>?_)
     refine R_append_rows_step (Kd.int .i64) (w0:=w) w.heap.size (by rfl) (.tmp 33) (.tmp 36) 22 3 (.int .i64 0) 8 rfl Try.underlying22 info3 rfl (by decide) (by omega) v149 y148 (l0.take (x5_1 : Int).toNat) _ _ _ (fun k_=>some k_ ≠ (v156 : Value).ownBlock) (fun _=>False) rfl rfl ?aO ?aR (fun _ _ h=>h) (fun _ h=>h.elim) ?aF ?aB ?aS ?aL ?_
     (case aR=>first|(have e_:=(C_below HR151.out HB.out);have l_:=(show (l0.take (x5_1 : Int).toNat).length = x5_1.toNat from (by rw [List.length_take];have h_ : (x5_1 : Int) ≤ (l0.length : Int):=od;omega));rw [l_] at e_;exact e_)|(rw [← show (l0.take (x5_1 : Int).toNat).length = x5_1.toNat from (by rw [List.length_take];have h_ : (x5_1 : Int) ≤ (l0.length : Int):=od;omega)];exact cm (C_below HR151.out HB.out))|(exact cm (C_below HR151.out HB.out)))
     (case aB=>exact (hm HB.out))
     (case aF=>exact (fun k_ hk=>Kd.fresh' (R_lt (rm HO157.out)) k_ hk))
     (case aO=>exact (rm (R_mono HO150.out (fun _ hk=>hk.2))))
     (case aS=>exact (below_size (hm HB.out)))
     (case aL=>have:=LMc28.out;have hlx_:=(show (l0.take (x5_1 : Int).toNat).length = x5_1.toNat from (by rw [List.length_take];have h_ : (x5_1 : Int) ≤ (l0.length : Int):=od;omega));omega)
     intro v153 w40 ho hb hg hat
     rw [← Ny152.out] at ho
     have n0_:=Aside0.mk (R_after (ok:=(fun _=>True)) (rm HO157.out) hg hat)
     have n1_:=Aside0.mk (hb)
     have n2_:=Aside0.mk (ho)
     clear HO157
     clear HB
     clear HO150
     have HO157:=n0_
     have HB:=n1_
     have HO154:=n2_
     clear n0_ n1_ n2_
     clear ho hb hg hat
     refine hK.out _ _ trivial (fun hHeld=>?_)
     clear hK K
     refine norm_ (a':=?_) ?_ ?_
     rotate_left
     ·show Act.put _ (some 37) _ = _
      simp only [ap]
      rfl
     exact norm_ (by simp only [putAll,Act.put,List.setIfInBounds_toArray,List.set_cons_zero,List.set_cons_succ]) (hCont (v149,v153,v156) _ ⟨(rm HO154.out),(rm (R_mono HO157.out (fun _ hk=>hk.2))),(hm HB.out)⟩)
    skip
    refine R_lit_step (Kd.int .i64) _ 3 ?hg (N:=33) ?hd (xs:=([] : List Int)) (inner:=[]) (ok:=fun _=>True) (okp:=fun _=>True) ?hr ?hp (fun _ hk=>hk) trivial (Below.refl _ _) (Nat.le_refl _) (by simp) ?_;(case hd=>rfl);(case hg=>rfl);(case hr=>first|(go_simp;done)|(go_simp;rfl));(case hp=>exact (Reps.none _ _))
    intro v149 w36 ho37 hb hg_ hnew_
    clear hg_ hnew_
    (first|rw [← Ny148.out] at ho37|(simp only [Int.reduceToNat] at ho37;rw [← Ny148.out] at ho37))
    have n0_:=Aside0.mk (R_lower ho37 (below_size (hm HB.out)))
    have n1_:=Aside0.mk (below_step (hm HB.out) hb)
    clear HB
    have HO150:=n0_
    have HB:=n1_
    clear n0_ n1_
    clear hb ho37
    refine hK.out _ _ trivial (fun hHeld=>?_)
    clear hK K
    refine norm_ (a':=?_) ?_ ?_
    rotate_left
    ·show Act.put _ (some 33) _ = _
     simp only [ap]
     rfl
    refine two_ (i:=4) (j:=6) (Ni:=some 37) (Nj:=some 39) (lb 13 1855) (lb 13 1903) rfl rfl rfl rfl (two_of HT_.out (by kernel_rfl)) (by decide) (by decide) (fun K hK=>?_) (fun K hK=>?_)
    ·skip
     refine R_append_rows_step (Kd.int .i64) (w0:=w) w.heap.size (by rfl) (.tmp 33) (.tmp 36) 22 3 (.int .i64 0) 8 rfl Try.underlying22 info3 rfl (by decide) (by omega) v149 y148 (l0.take (x5_1 : Int).toNat) _ _ _ (fun _=>True) (fun _=>False) rfl rfl ?aO ?aR (fun _ _ h=>h) (fun _ h=>h.elim) ?aF ?aB ?aS ?aL ?_
     (case aR=>first|(have e_:=(C_below HR151.out HB.out);have l_:=(show (l0.take (x5_1 : Int).toNat).length = x5_1.toNat from (by rw [List.length_take];have h_ : (x5_1 : Int) ≤ (l0.length : Int):=od;omega));rw [l_] at e_;exact e_)|(rw [← show (l0.take (x5_1 : Int).toNat).length = x5_1.toNat from (by rw [List.length_take];have h_ : (x5_1 : Int) ≤ (l0.length : Int):=od;omega)];exact cm (C_below HR151.out HB.out))|(exact cm (C_below HR151.out HB.out)))
     (case aB=>exact (hm HB.out))
     (case aF=>exact (fun _ _=>trivial))
     (case aO=>exact (rm HO150.out))
     (case aS=>exact (below_size (hm HB.out)))
     (case aL=>have:=LMc28.out;have hlx_:=(show (l0.take (x5_1 : Int).toNat).length = x5_1.toNat from (by rw [List.length_take];have h_ : (x5_1 : Int) ≤ (l0.length : Int):=od;omega));omega)
     intro v153 w38 ho hb hg hat
     rw [← Ny152.out] at ho
     have n0_:=Aside0.mk (hb)
     have n1_:=Aside0.mk (ho)
     clear HB
     clear HO150
     have HB:=n0_
     have HO154:=n1_
     clear n0_ n1_
     clear ho hb hg hat
     refine hK.out _ _ trivial (fun hHeld=>?_)
     clear hK K
     refine norm_ (a':=?_) ?_ ?_
     rotate_left
     ·show Act.put _ (some 37) _ = _
      simp only [ap]
      rfl
     refine one_ (i:=6) (N:=some 39) (lb 13 1919) rfl rfl (one_of HT_.out (by kernel_rfl)) (by decide) (fun K hK=>?_)
     refine R_lit_step (Kd.int .i64) _ 3 ?hg (N:=39) ?hd (xs:=([a1] : List Int)) (inner:=[.int .i64 a1]) (ok:=fun _=>True) (okp:=fun _=>True) ?hr ?hp (fun _ hk=>hk) trivial (Below.refl _ _) (Nat.le_refl _) (by simp) ?_;(case hd=>rfl);(case hg=>rfl);(case hr=>first|(go_simp;done)|(go_simp;rfl));(case hp=>exact (Reps.one (show Kd.M (Kd.int .i64) _ _ _ a1 [.int .i64 a1] from rfl) (Reps.none _ _)))
     intro v156 w39 ho40 hb hg_ hnew_
     clear hg_ hnew_
     (first|rw [← Ny155.out] at ho40|(simp only [Int.reduceToNat] at ho40;rw [← Ny155.out] at ho40))
     have n0_:=Aside0.mk (R_elder' (rm HO154.out) (R_base ho40) hb)
     have n1_:=Aside0.mk (R_lower (R_new' ho40 (R_lt (rm HO154.out))) (below_size (hm HB.out)))
     have n2_:=Aside0.mk (below_step (hm HB.out) hb)
     clear HO154
     clear HB
     have HO154:=n0_
     have HO157:=n1_
     have HB:=n2_
     clear n0_ n1_ n2_
     clear hb ho40
     refine hK.out _ _ trivial (fun hHeld=>?_)
     clear hK K
     refine norm_ (a':=?_) ?_ ?_
     rotate_left
     ·show Act.put _ (some 39) _ = _
      simp only [ap]
      rfl
     exact norm_ (by simp only [putAll,Act.put,List.setIfInBounds_toArray,List.set_cons_zero,List.set_cons_succ]) (hCont (v149,v153,v156) _ ⟨(rm (R_mono HO154.out (fun _ hk=>hk.2))),(rm (R_mono HO157.out (fun _ hk=>hk.2))),(hm HB.out)⟩)
    skip
    refine R_lit_step (Kd.int .i64) _ 3 ?hg (N:=39) ?hd (xs:=([a1] : List Int)) (inner:=[.int .i64 a1]) (ok:=fun _=>True) (okp:=fun _=>True) ?hr ?hp (fun _ hk=>hk) trivial (Below.refl _ _) (Nat.le_refl _) (by simp) ?_;(case hd=>rfl);(case hg=>rfl);(case hr=>first|(go_simp;done)|(go_simp;rfl));(case hp=>exact (Reps.one (show Kd.M (Kd.int .i64) _ _ _ a1 [.int .i64 a1] from rfl) (Reps.none _ _)))
    intro v156 w38 ho39 hb hg_ hnew_
    clear hg_ hnew_
    (first|rw [← Ny155.out] at ho39|(simp only [Int.reduceToNat] at ho39;rw [← Ny155.out] at ho39))
    have n0_:=Aside0.mk (R_elder' (rm HO150.out) (R_base ho39) hb)
    have n1_:=Aside0.mk (R_lower (R_new' ho39 (R_lt (rm HO150.out))) (below_size (hm HB.out)))
    have n2_:=Aside0.mk (below_step (hm HB.out) hb)
    clear HO150
    clear HB
    have HO150:=n0_
    have HO157:=n1_
    have HB:=n2_
    clear n0_ n1_ n2_
    clear hb ho39
    refine hK.out _ _ trivial (fun hHeld=>?_)
    clear hK K
    refine norm_ (a':=?_) ?_ ?_
    rotate_left
    ·show Act.put _ (some 39) _ = _
     simp only [ap]
     rfl
    refine one_ (i:=4) (N:=some 37) (lb 13 1919) rfl rfl (one_of HT_.out (by kernel_rfl)) (by decide) (fun K hK=>?_)
    refine R_append_rows_step (Kd.int .i64) (w0:=w) w.heap.size (by rfl) (.tmp 33) (.tmp 36) 22 3 (.int .i64 0) 8 rfl Try.underlying22 info3 rfl (by decide) (by omega) v149 y148 (l0.take (x5_1 : Int).toNat) _ _ _ (fun k_=>some k_ ≠ (v156 : Value).ownBlock) (fun _=>False) rfl rfl ?aO ?aR (fun _ _ h=>h) (fun _ h=>h.elim) ?aF ?aB ?aS ?aL ?_
    (case aR=>first|(have e_:=(C_below HR151.out HB.out);have l_:=(show (l0.take (x5_1 : Int).toNat).length = x5_1.toNat from (by rw [List.length_take];have h_ : (x5_1 : Int) ≤ (l0.length : Int):=od;omega));rw [l_] at e_;exact e_)|(rw [← show (l0.take (x5_1 : Int).toNat).length = x5_1.toNat from (by rw [List.length_take];have h_ : (x5_1 : Int) ≤ (l0.length : Int):=od;omega)];exact cm (C_below HR151.out HB.out))|(exact cm (C_below HR151.out HB.out)))
    (case aB=>exact (hm HB.out))
    (case aF=>exact (fun k_ hk=>Kd.fresh' (R_lt (rm HO157.out)) k_ hk))
    (case aO=>exact (rm (R_mono HO150.out (fun _ hk=>hk.2))))
    (case aS=>exact (below_size (hm HB.out)))
    (case aL=>have:=LMc28.out;have hlx_:=(show (l0.take (x5_1 : Int).toNat).length = x5_1.toNat from (by rw [List.length_take];have h_ : (x5_1 : Int) ≤ (l0.length : Int):=od;omega));omega)
    intro v153 w40 ho hb hg hat
    rw [← Ny152.out] at ho
    have n0_:=Aside0.mk (R_after (ok:=(fun _=>True)) (rm HO157.out) hg hat)
    have n1_:=Aside0.mk (hb)
    have n2_:=Aside0.mk (ho)
    clear HO157
    clear HB
    clear HO150
    have HO157:=n0_
    have HB:=n1_
    have HO154:=n2_
    clear n0_ n1_ n2_
    clear ho hb hg hat
    refine hK.out _ _ trivial (fun hHeld=>?_)
    clear hK K
    refine norm_ (a':=?_) ?_ ?_
    rotate_left
    ·show Act.put _ (some 37) _ = _
     simp only [ap]
     rfl
    exact norm_ (by simp only [putAll,Act.put,List.setIfInBounds_toArray,List.set_cons_zero,List.set_cons_succ]) (hCont (v149,v153,v156) _ ⟨(rm HO154.out),(rm (R_mono HO157.out (fun _ hk=>hk.2))),(hm HB.out)⟩)
   rintro ⟨v149,v153,v156⟩ w41 ⟨h0_,h1_,h2_⟩
   have n0_ : Aside0 (Kd.R (Kd.int .i64) 3 w41 w.heap.size (fun k_=>some k_ ≠ (v156 : Value).ownBlock) v153 y152):=⟨h0_⟩
   have n1_ : Aside0 (Kd.R (Kd.int .i64) 3 w41 w.heap.size (fun k_=>some k_ ≠ (v153 : Value).ownBlock) v156 y155):=⟨h1_⟩
   have n2_ : Aside0 (Below w.heap.size w w41):=⟨h2_⟩
   clear HB
   clear h0_ h1_ h2_
   have HO154:=n0_
   have HO157:=n1_
   have HB:=n2_
   clear n0_ n1_ n2_
   have hHeld:=trivial
   obtain ⟨Ao43,co43,eo43⟩:=R_slice HO157.out
   (first|subst eo43|(injection eo43 with f1_ f2_ f3_;have f4_:=f1_.symm;have f5_:=f3_.symm;clear f1_ f2_ f3_;subst f4_;subst f5_))
   refine norm_ (a':=?_) ?_ ?_
   rotate_left
   ·simp only [putAll,Act.put,List.setIfInBounds_toArray,List.set_cons_zero,List.set_cons_succ]
    rfl
   refine one_ (i:=7) (N:=some 40) (lb 13 2047) rfl rfl (one_of HT_.out (by kernel_rfl)) (by decide) (fun K hK=>?_)
   refine R_append_rows_step (Kd.int .i64) (w0:=w) w.heap.size (by rfl) (.tmp 37) (.tmp 39) 22 3 (.int .i64 0) 8 rfl Try.underlying22 info3 rfl (by decide) (by omega) v153 y152 y155 _ _ _ (fun k_=>some k_ ≠ (.slice Ao43 y155.length co43 : Value).ownBlock) (fun _=>False) rfl rfl ?aO ?aR (fun _ _ h=>h) (fun _ h=>h.elim) ?aF ?aB ?aS ?aL ?_
   (case aR=>exact cm (R_reads' HO157.out).2.2)
   (case aB=>exact (hm HB.out))
   (case aF=>exact (fun k_ hk=>Kd.fresh' (R_lt (rm HO157.out)) k_ hk))
   (case aO=>exact (rm HO154.out))
   (case aS=>exact (below_size (hm HB.out)))
   (case aL=>have:=LMc29.out;omega)
   intro v159 w42 ho hb hg hat
   rw [← Ny158.out] at ho
   have n0_:=Aside0.mk (R_after (ok:=(fun _=>True)) (rm (R_mono HO157.out (fun _ hk=>⟨trivial,hk⟩))) hg hat)
   have n1_:=Aside0.mk (hb)
   have n2_:=Aside0.mk (ho)
   clear HO157
   clear HB
   clear HO154
   have HO157:=n0_
   have HB:=n1_
   have HO160:=n2_
   clear n0_ n1_ n2_
   clear ho hb hg hat
   refine hK.out _ _ trivial (fun hHeld=>?_)
   clear hK K
   refine norm_ (a':=?_) ?_ ?_
   rotate_left
   ·show Act.put _ (some 40) _ = _
    simp only [ap]
    rfl
   refine one_ (i:=11) (N:=some 44) (lb 13 4095) rfl rfl (one_of HT_.out (by kernel_rfl)) (by decide) (fun K hK=>?_)
   refine R_append_rows_step (Kd.int .i64) (w0:=w) w.heap.size (by rfl) (.tmp 40) (.tmp 43) 22 3 (.int .i64 0) 8 rfl Try.underlying22 info3 rfl (by decide) (by omega) v159 y158 (l0.drop (x5_1 : Int).toNat) _ _ _ (fun k_=>some k_ ≠ (.slice Ao43 y155.length co43 : Value).ownBlock) (fun _=>False) rfl rfl ?aO ?aR (fun _ _ h=>h) (fun _ h=>h.elim) ?aF ?aB ?aS ?aL ?_
   (case aR=>first|(rw [← show (l0.drop (x5_1 : Int).toNat).length = (l0.length - x5_1.toNat) from List.length_drop];exact cm (C_below HR161.out HB.out))|(exact cm (C_below HR161.out HB.out)))
   (case aB=>exact (hm HB.out))
   (case aF=>exact (fun k_ hk=>Kd.fresh' (R_lt (rm HO157.out)) k_ hk))
   (case aO=>exact (rm HO160.out))
   (case aS=>exact (below_size (hm HB.out)))
   (case aL=>have:=LMc32.out;have hlx_:=(show (l0.drop (x5_1 : Int).toNat).length = (l0.length - x5_1.toNat) from List.length_drop);omega)
   intro v163 w44 ho hb hg hat
   rw [← Ny162.out] at ho
   have n0_:=Aside0.mk (R_after (ok:=(fun _=>True)) (rm HO157.out) hg hat)
   have n1_:=Aside0.mk (hb)
   have n2_:=Aside0.mk (ho)
   clear HO157
   clear HB
   clear HO160
   have HO157:=n0_
   have HB:=n1_
   have HO164:=n2_
   clear n0_ n1_ n2_
   clear ho hb hg hat
   refine hK.out _ _ trivial (fun hHeld=>?_)
   clear hK K
   refine norm_ (a':=?_) ?_ ?_
   rotate_left
   ·show Act.put _ (some 44) _ = _
    simp only [ap]
    rfl
   refine pu 12 (N:=some 4) (v:=?_) (a':=?_) (lb 13 8191) HT_ (by kernel_rfl) rfl rfl rfl (fun _ _ _ h=>h) ?_ ?_ ?_
   rotate_left
   ·intro w'
    go_simp
    with_reducible rfl
   rotate_left
   ·simp only [ap]
    rfl
   refine done_ (done_of HT_.out (by kernel_rfl)) ?_
   try go_wp2
   go_ret
   exact ⟨_,by first|rfl|(simp [errW_none,errW_some] <;> rfl)|(simp [*,errW_none,errW_some] <;> rfl),rm (R_mono HO164.out (fun _ hk=>trivial)),hm HB.out⟩
  rw [if_pos c3] at H
  have c3b0 : decide (x5_1 < (l0.length : Int)) = true:=decide_eq_true c3
  clear c3
  by_cases c4 : 0 ≤ x5_1
  rotate_left
  ·rw [if_neg c4] at H
   exact absurd H (by simp)
  rw [if_pos c4] at H
  have c4b0 : decide (0 ≤ x5_1) = true:=decide_eq_true c4
  clear c4
  by_cases c5 : (rd l0 x5_1) < a1
  ·rw [if_pos c5] at H
   have c5b0 : decide ((rd l0 x5_1) < a1) = true:=decide_eq_true c5
   clear c5
   have H':=Aside0.mk H
   clear H
   have p129 : 0 ≤ (x5_1 : Int):=od
   have q129 : x5_1 < (l0.length : Int):=od
   obtain ⟨ad129,e129,hx129_0⟩:=Kd.at_int HR0.out x5_1 p129 q129
   cases e129
   replace hx129_0:=(HB.out.cell (World.block_lt_of_cell? w _ hx129_0)).trans hx129_0
   replace p129:=eq_true p129
   replace q129:=eq_true q129
   go_wp2
   go_roundg k1
   case measure=>have:=HK1.out;omega
   case rel=>exact ⟨(wrap64 (x5_1 + 1)),(by first|rfl|(simp;done)|(simp [*];done)),H',⟨by have:=HK1.out;omega⟩,⟨hm HB.out⟩⟩
  rw [if_neg c5] at H
  have c5b0 : decide ((rd l0 x5_1) < a1) = false:=decide_eq_false c5
  clear c5
  by_cases c6 : (rd l0 x5_1) = a1
  ·rw [if_pos c6] at H
   exact absurd H (by simp)
  rw [if_neg c6] at H
  have c6b0 : ((rd l0 x5_1) == a1) = false:=beq_eq_false_iff_ne.mpr c6
  have c6b1 : ((rd l0 x5_1) != a1) = true:=bne_iff_ne.mpr c6
  obtain ⟨y131,hy131⟩ : ∃ y_ : List Int,y_ = (([] : List Int)):=⟨_,rfl⟩
  replace H : (if x5_1 ≤ (l0.length : Int) then (if y131.length + (l0.take (x5_1 : Int).toNat).length < 17592186044416 then ((some (y131 ++ (l0.take (x5_1 : Int).toNat) : List Int)).bind fun y135=>((some (([a1] : List Int) : List Int)).bind fun y138=>(if y135.length + y138.length < 17592186044416 then ((some (y135 ++ y138 : List Int)).bind fun y141=>(if y141.length + (l0.drop (x5_1 : Int).toNat).length < 17592186044416 then (some (y141 ++ (l0.drop (x5_1 : Int).toNat))) else (none))) else (none)))) else (none)) else (none)) = some r:=by first|(rw [hy131];with_reducible exact H)|(have H2_:=(Option.bind_some _ _).symm.trans H;rw [hy131];with_reducible exact H2_)|(have H2_:=(Option.bind_some _ _).symm.trans H;with_reducible exact H2_)|with_reducible exact H|(rw [hy131];exact H)|exact H
  have Ny131:=Aside0.mk hy131
  clear hy131
  have c7b0:=eq_true (od : 0 ≤ x5_1)
  by_cases c8 : x5_1 ≤ (l0.length : Int)
  rotate_left
  ·rw [if_neg c8] at H
   exact absurd H (by simp)
  rw [if_pos c8] at H
  have c8b0:=eq_true c8
  have c8b1 : decide (x5_1 ≤ (l0.length : Int)) = true:=decide_eq_true c8
  clear c8
  by_cases c9 : y131.length + (l0.take (x5_1 : Int).toNat).length < 17592186044416
  rotate_left
  ·rw [if_neg c9] at H
   exact absurd H (by simp)
  rw [if_pos c9] at H
  have LMc9:=Aside0.mk c9
  clear c9
  obtain ⟨y135,hy135⟩ : ∃ y_ : List Int,y_ = (y131 ++ (l0.take (x5_1 : Int).toNat)):=⟨_,rfl⟩
  replace H : ((some (([a1] : List Int) : List Int)).bind fun y138=>(if y135.length + y138.length < 17592186044416 then ((some (y135 ++ y138 : List Int)).bind fun y141=>(if y141.length + (l0.drop (x5_1 : Int).toNat).length < 17592186044416 then (some (y141 ++ (l0.drop (x5_1 : Int).toNat))) else (none))) else (none))) = some r:=by first|(rw [hy135];with_reducible exact H)|(have H2_:=(Option.bind_some _ _).symm.trans H;rw [hy135];with_reducible exact H2_)|(have H2_:=(Option.bind_some _ _).symm.trans H;with_reducible exact H2_)|with_reducible exact H|(rw [hy135];exact H)|exact H
  have Ny135:=Aside0.mk hy135
  clear hy135
  obtain ⟨y138,hy138⟩ : ∃ y_ : List Int,y_ = (([a1] : List Int)):=⟨_,rfl⟩
  replace H : (if y135.length + y138.length < 17592186044416 then ((some (y135 ++ y138 : List Int)).bind fun y141=>(if y141.length + (l0.drop (x5_1 : Int).toNat).length < 17592186044416 then (some (y141 ++ (l0.drop (x5_1 : Int).toNat))) else (none))) else (none)) = some r:=by first|(rw [hy138];with_reducible exact H)|(have H2_:=(Option.bind_some _ _).symm.trans H;rw [hy138];with_reducible exact H2_)|(have H2_:=(Option.bind_some _ _).symm.trans H;with_reducible exact H2_)|with_reducible exact H|(rw [hy138];exact H)|exact H
  have Ny138:=Aside0.mk hy138
  clear hy138
  by_cases c10 : y135.length + y138.length < 17592186044416
  rotate_left
  ·rw [if_neg c10] at H
   exact absurd H (by simp)
  rw [if_pos c10] at H
  have LMc10:=Aside0.mk c10
  clear c10
  obtain ⟨y141,hy141⟩ : ∃ y_ : List Int,y_ = (y135 ++ y138):=⟨_,rfl⟩
  replace H : (if y141.length + (l0.drop (x5_1 : Int).toNat).length < 17592186044416 then (some (y141 ++ (l0.drop (x5_1 : Int).toNat))) else (none)) = some r:=by first|(rw [hy141];with_reducible exact H)|(have H2_:=(Option.bind_some _ _).symm.trans H;rw [hy141];with_reducible exact H2_)|(have H2_:=(Option.bind_some _ _).symm.trans H;with_reducible exact H2_)|with_reducible exact H|(rw [hy141];exact H)|exact H
  have Ny141:=Aside0.mk hy141
  clear hy141
  have c11b0:=eq_true (od : 0 ≤ x5_1)
  have c12b0:=eq_true (od : x5_1 ≤ (l0.length : Int))
  by_cases c13 : y141.length + (l0.drop (x5_1 : Int).toNat).length < 17592186044416
  rotate_left
  ·rw [if_neg c13] at H
   exact absurd H (by simp)
  rw [if_pos c13] at H
  have LMc13:=Aside0.mk c13
  clear c13
  obtain ⟨y145,hy145⟩ : ∃ y_ : List Int,y_ = (y141 ++ (l0.drop (x5_1 : Int).toNat)):=⟨_,rfl⟩
  replace H : (some y145) = some r:=by first|(rw [hy145];with_reducible exact H)|(have H2_:=(Option.bind_some _ _).symm.trans H;rw [hy145];with_reducible exact H2_)|(have H2_:=(Option.bind_some _ _).symm.trans H;with_reducible exact H2_)|with_reducible exact H|(rw [hy145];exact H)|exact H
  have Ny145:=Aside0.mk hy145
  clear hy145
  obtain rfl:=Option.some.inj H
  have p129 : 0 ≤ (x5_1 : Int):=od
  have q129 : x5_1 < (l0.length : Int):=od
  obtain ⟨ad129,e129,hx129_0⟩:=Kd.at_int HR0.out x5_1 p129 q129
  cases e129
  replace hx129_0:=(HB.out.cell (World.block_lt_of_cell? w _ hx129_0)).trans hx129_0
  replace p129:=eq_true p129
  replace q129:=eq_true q129
  have p130 : 0 ≤ (x5_1 : Int):=od
  have q130 : x5_1 < (l0.length : Int):=od
  obtain ⟨ad130,e130,hx130_0⟩:=Kd.at_int HR0.out x5_1 p130 q130
  obtain rfl : ad129 = ad130:=(by injection e130)
  replace hx130_0:=(HB.out.cell (World.block_lt_of_cell? w _ hx130_0)).trans hx130_0
  replace p130:=eq_true p130
  replace q130:=eq_true q130
  try go_wp2
  have n0_:=Aside0.mk (below_drew1 HB.out)
  clear HB
  have HB:=n0_
  clear n0_
  obtain ⟨i015,hi015,_,hsz15,_⟩:=info_parts info3
  obtain ⟨hcut15,hA15,hC15⟩:=print_take_of (P:=Try.prog) (Value.int .i64) 0 22 3 .i64 Try.underlying22 hi015 hsz15 (some ad129) c0 l0 x5_1 (od) (od) HC0.out
  have HR134:=Aside0.mk (C_of_reads (h1:=fun _=>rfl) (hA15 _ (Kd.reads_of_C HR0.out)))
  have HC134:=Aside0.mk hC15
  clear hA15 hC15 hi015 hsz15
  obtain ⟨i016,hi016,_,hsz16,_⟩:=info_parts info3
  obtain ⟨A16,hcut16,hA16,hC16⟩:=print_drop_of (P:=Try.prog) (Value.int .i64) 0 22 3 .i64 Try.underlying22 hi016 hsz16 (some ad129) c0 l0 x5_1 (od) (od) HC0.out
  have HR144:=Aside0.mk (C_of_reads (h1:=fun _=>rfl) (hA16 _ (Kd.reads_of_C HR0.out)))
  have HC144:=Aside0.mk hC16
  clear hA16 hC16 hi016 hsz16
  refine start_ (n:=13) (S:=fun w'=>True) (ds:=[]) (lb 13 0) (by kernel_rfl) rfl rfl trivial (fun hHeld=>?_);refine with_tabW spec_l1Put.tab6 spec_l1Put.bits6 (fun HT_ HW_=>?_)
  generalize wr.drew = w14 at HB HR134 HR144 hHeld ⊢
  refine pu 1 (N:=some 34) (v:=?_) (a':=?_) (lb 13 2) HT_ (by kernel_rfl) rfl rfl rfl (fun _ _ _ h=>h) ?_ ?_ ?_
  rotate_left
  ·intro w'
   go_simp
   with_reducible rfl
  rotate_left
  ·simp only [ap]
   rfl
  refine pu 2 (N:=some 35) (v:=?_) (a':=?_) (lb 13 6) HT_ (by kernel_rfl) rfl rfl rfl (fun _ _ _ h=>h) ?_ ?_ ?_
  rotate_left
  ·intro w'
   go_simp
   with_reducible rfl
  rotate_left
  ·simp only [ap]
   rfl
  refine pu 3 (N:=some 36) (v:=?_) (a':=?_) (lb 13 14) HT_ (by kernel_rfl) rfl rfl rfl (fun _ _ _ h=>h) ?_ ?_ ?_
  rotate_left
  ·intro w'
   go_simp
   with_reducible rfl
  rotate_left
  ·simp only [ap]
   rfl
  refine pu 5 (N:=some 38) (v:=?_) (a':=?_) (lb 13 46) HT_ (by kernel_rfl) rfl rfl rfl (fun _ _ _ h=>h) ?_ ?_ ?_
  rotate_left
  ·intro w'
   go_simp
   with_reducible rfl
  rotate_left
  ·simp only [ap]
   rfl
  refine pu 8 (N:=some 41) (v:=?_) (a':=?_) (lb 13 302) HT_ (by kernel_rfl) rfl rfl rfl (fun _ _ _ h=>h) ?_ ?_ ?_
  rotate_left
  ·intro w'
   go_simp
   with_reducible rfl
  rotate_left
  ·simp only [ap]
   rfl
  refine pu 9 (N:=some 42) (v:=?_) (a':=?_) (lb 13 814) HT_ (by kernel_rfl) rfl rfl rfl (fun _ _ _ h=>h) ?_ ?_ ?_
  rotate_left
  ·intro w'
   go_simp
   with_reducible rfl
  rotate_left
  ·simp only [ap]
   rfl
  refine pu 10 (N:=some 43) (v:=?_) (a':=?_) (lb 13 1838) HT_ (by kernel_rfl) rfl rfl rfl (fun _ _ _ h=>h) ?_ ?_ ?_
  rotate_left
  ·intro w'
   go_simp
   with_reducible rfl
  rotate_left
  ·simp only [ap]
   rfl
  refine join_ (σ:=Value × Value × Value) 3 (lb 13 1919) (fun s_=>[(33,s_.1),(37,s_.2.1),(39,s_.2.2)]) (fun s_ w'=>(Kd.R (Kd.int .i64) 3 w' w.heap.size (fun k_=>some k_ ≠ (s_.2.2 : Value).ownBlock) s_.2.1 y135) ∧ (Kd.R (Kd.int .i64) 3 w' w.heap.size (fun k_=>some k_ ≠ (s_.2.1 : Value).ownBlock) s_.2.2 y138) ∧ (Below w.heap.size w w')) ?_ ?_
  rotate_left
  ·intro hCont
   refine two_ (i:=0) (j:=6) (Ni:=some 33) (Nj:=some 39) (lb 13 1839) (lb 13 1902) rfl rfl rfl rfl (two_of HT_.out (by kernel_rfl)) (by decide) (by decide) (fun K hK=>?_) (fun K hK=>?_)
   rotate_left
   ·skip
    refine R_lit_step (Kd.int .i64) _ 3 ?hg (N:=39) ?hd (xs:=([a1] : List Int)) (inner:=[.int .i64 a1]) (ok:=fun _=>True) (okp:=fun _=>True) ?hr ?hp (fun _ hk=>hk) trivial (Below.refl _ _) (Nat.le_refl _) (by simp) ?_;(case hd=>rfl);(case hg=>rfl);(case hr=>first|(go_simp;done)|(go_simp;rfl));(case hp=>exact (Reps.one (show Kd.M (Kd.int .i64) _ _ _ a1 [.int .i64 a1] from rfl) (Reps.none _ _)))
    intro v139 w17 ho18 hb hg_ hnew_
    clear hg_ hnew_
    (first|rw [← Ny138.out] at ho18|(simp only [Int.reduceToNat] at ho18;rw [← Ny138.out] at ho18))
    have n0_:=Aside0.mk (R_lower ho18 (below_size (hm HB.out)))
    have n1_:=Aside0.mk (below_step (hm HB.out) hb)
    clear HB
    have HO140:=n0_
    have HB:=n1_
    clear n0_ n1_
    clear hb ho18
    refine hK.out _ _ trivial (fun hHeld=>?_)
    clear hK K
    refine norm_ (a':=?_) ?_ ?_
    rotate_left
    ·show Act.put _ (some 39) _ = _
     simp only [ap]
     rfl
    refine one_ (i:=0) (N:=some 33) (lb 13 1903) rfl rfl (one_of HT_.out (by kernel_rfl)) (by decide) (fun K hK=>?_)
    refine R_lit_step (Kd.int .i64) _ 3 ?hg (N:=33) ?hd (xs:=([] : List Int)) (inner:=[]) (ok:=fun _=>True) (okp:=fun _=>True) ?hr ?hp (fun _ hk=>hk) trivial (Below.refl _ _) (Nat.le_refl _) (by simp) ?_;(case hd=>rfl);(case hg=>rfl);(case hr=>first|(go_simp;done)|(go_simp;rfl));(case hp=>exact (Reps.none _ _))
    intro v132 w19 ho20 hb hg_ hnew_
    clear hg_ hnew_
    (first|rw [← Ny131.out] at ho20|(simp only [Int.reduceToNat] at ho20;rw [← Ny131.out] at ho20))
    have n0_:=Aside0.mk (R_elder' (rm HO140.out) (R_base ho20) hb)
    have n1_:=Aside0.mk (R_lower (R_new' ho20 (R_lt (rm HO140.out))) (below_size (hm HB.out)))
    have n2_:=Aside0.mk (below_step (hm HB.out) hb)
    clear HO140
    clear HB
    have HO140:=n0_
    have HO133:=n1_
    have HB:=n2_
    clear n0_ n1_ n2_
    clear hb ho20
    refine hK.out _ _ trivial (fun hHeld=>?_)
    clear hK K
    refine norm_ (a':=?_) ?_ ?_
    rotate_left
    ·show Act.put _ (some 33) _ = _
     simp only [ap]
     rfl
    refine one_ (i:=4) (N:=some 37) (lb 13 1919) rfl rfl (one_of HT_.out (by kernel_rfl)) (by decide) (fun K hK=>?_)
    refine R_append_rows_step (Kd.int .i64) (w0:=w) w.heap.size (by rfl) (.tmp 33) (.tmp 36) 22 3 (.int .i64 0) 8 rfl Try.underlying22 info3 rfl (by decide) (by omega) v132 y131 (l0.take (x5_1 : Int).toNat) _ _ _ (fun k_=>some k_ ≠ (v139 : Value).ownBlock) (fun _=>False) rfl rfl ?aO ?aR (fun _ _ h=>h) (fun _ h=>h.elim) ?aF ?aB ?aS ?aL ?_
    (case aR=>first|(have e_:=(C_below HR134.out HB.out);have l_:=(show (l0.take (x5_1 : Int).toNat).length = x5_1.toNat from (by rw [List.length_take];have h_ : (x5_1 : Int) ≤ (l0.length : Int):=od;omega));rw [l_] at e_;exact e_)|(rw [← show (l0.take (x5_1 : Int).toNat).length = x5_1.toNat from (by rw [List.length_take];have h_ : (x5_1 : Int) ≤ (l0.length : Int):=od;omega)];exact cm (C_below HR134.out HB.out))|(exact cm (C_below HR134.out HB.out)))
    (case aB=>exact (hm HB.out))
    (case aF=>exact (fun k_ hk=>Kd.fresh' (R_lt (rm HO140.out)) k_ hk))
    (case aO=>exact (rm (R_mono HO133.out (fun _ hk=>hk.2))))
    (case aS=>exact (below_size (hm HB.out)))
    (case aL=>have:=LMc9.out;have hlx_:=(show (l0.take (x5_1 : Int).toNat).length = x5_1.toNat from (by rw [List.length_take];have h_ : (x5_1 : Int) ≤ (l0.length : Int):=od;omega));omega)
    intro v136 w21 ho hb hg hat
    rw [← Ny135.out] at ho
    have n0_:=Aside0.mk (R_after (ok:=(fun _=>True)) (rm HO140.out) hg hat)
    have n1_:=Aside0.mk (hb)
    have n2_:=Aside0.mk (ho)
    clear HO140
    clear HB
    clear HO133
    have HO140:=n0_
    have HB:=n1_
    have HO137:=n2_
    clear n0_ n1_ n2_
    clear ho hb hg hat
    refine hK.out _ _ trivial (fun hHeld=>?_)
    clear hK K
    refine norm_ (a':=?_) ?_ ?_
    rotate_left
    ·show Act.put _ (some 37) _ = _
     simp only [ap]
     rfl
    exact norm_ (by simp only [putAll,Act.put,List.setIfInBounds_toArray,List.set_cons_zero,List.set_cons_succ]) (hCont (v132,v136,v139) _ ⟨(rm HO137.out),(rm (R_mono HO140.out (fun _ hk=>hk.2))),(hm HB.out)⟩)
   skip
   refine R_lit_step (Kd.int .i64) _ 3 ?hg (N:=33) ?hd (xs:=([] : List Int)) (inner:=[]) (ok:=fun _=>True) (okp:=fun _=>True) ?hr ?hp (fun _ hk=>hk) trivial (Below.refl _ _) (Nat.le_refl _) (by simp) ?_;(case hd=>rfl);(case hg=>rfl);(case hr=>first|(go_simp;done)|(go_simp;rfl));(case hp=>exact (Reps.none _ _))
   intro v132 w17 ho18 hb hg_ hnew_
   clear hg_ hnew_
   (first|rw [← Ny131.out] at ho18|(simp only [Int.reduceToNat] at ho18;rw [← Ny131.out] at ho18))
   have n0_:=Aside0.mk (R_lower ho18 (below_size (hm HB.out)))
   have n1_:=Aside0.mk (below_step (hm HB.out) hb)
   clear HB
   have HO133:=n0_
   have HB:=n1_
   clear n0_ n1_
   clear hb ho18
   refine hK.out _ _ trivial (fun hHeld=>?_)
   clear hK K
   refine norm_ (a':=?_) ?_ ?_
   rotate_left
   ·show Act.put _ (some 33) _ = _
    simp only [ap]
    rfl
   refine two_ (i:=4) (j:=6) (Ni:=some 37) (Nj:=some 39) (lb 13 1855) (lb 13 1903) rfl rfl rfl rfl (two_of HT_.out (by kernel_rfl)) (by decide) (by decide) (fun K hK=>?_) (fun K hK=>?_)
   ·skip
    refine R_append_rows_step (Kd.int .i64) (w0:=w) w.heap.size (by rfl) (.tmp 33) (.tmp 36) 22 3 (.int .i64 0) 8 rfl Try.underlying22 info3 rfl (by decide) (by omega) v132 y131 (l0.take (x5_1 : Int).toNat) _ _ _ (fun _=>True) (fun _=>False) rfl rfl ?aO ?aR (fun _ _ h=>h) (fun _ h=>h.elim) ?aF ?aB ?aS ?aL ?_
    (case aR=>first|(have e_:=(C_below HR134.out HB.out);have l_:=(show (l0.take (x5_1 : Int).toNat).length = x5_1.toNat from (by rw [List.length_take];have h_ : (x5_1 : Int) ≤ (l0.length : Int):=od;omega));rw [l_] at e_;exact e_)|(rw [← show (l0.take (x5_1 : Int).toNat).length = x5_1.toNat from (by rw [List.length_take];have h_ : (x5_1 : Int) ≤ (l0.length : Int):=od;omega)];exact cm (C_below HR134.out HB.out))|(exact cm (C_below HR134.out HB.out)))
    (case aB=>exact (hm HB.out))
    (case aF=>exact (fun _ _=>trivial))
    (case aO=>exact (rm HO133.out))
    (case aS=>exact (below_size (hm HB.out)))
    (case aL=>have:=LMc9.out;have hlx_:=(show (l0.take (x5_1 : Int).toNat).length = x5_1.toNat from (by rw [List.length_take];have h_ : (x5_1 : Int) ≤ (l0.length : Int):=od;omega));omega)
    intro v136 w19 ho hb hg hat
    rw [← Ny135.out] at ho
    have n0_:=Aside0.mk (hb)
    have n1_:=Aside0.mk (ho)
    clear HB
    clear HO133
    have HB:=n0_
    have HO137:=n1_
    clear n0_ n1_
    clear ho hb hg hat
    refine hK.out _ _ trivial (fun hHeld=>?_)
    clear hK K
    refine norm_ (a':=?_) ?_ ?_
    rotate_left
    ·show Act.put _ (some 37) _ = _
     simp only [ap]
     rfl
    refine one_ (i:=6) (N:=some 39) (lb 13 1919) rfl rfl (one_of HT_.out (by kernel_rfl)) (by decide) (fun K hK=>?_)
    refine R_lit_step (Kd.int .i64) _ 3 ?hg (N:=39) ?hd (xs:=([a1] : List Int)) (inner:=[.int .i64 a1]) (ok:=fun _=>True) (okp:=fun _=>True) ?hr ?hp (fun _ hk=>hk) trivial (Below.refl _ _) (Nat.le_refl _) (by simp) ?_;(case hd=>rfl);(case hg=>rfl);(case hr=>first|(go_simp;done)|(go_simp;rfl));(case hp=>exact (Reps.one (show Kd.M (Kd.int .i64) _ _ _ a1 [.int .i64 a1] from rfl) (Reps.none _ _)))
    intro v139 w20 ho21 hb hg_ hnew_
    clear hg_ hnew_
    (first|rw [← Ny138.out] at ho21|(simp only [Int.reduceToNat] at ho21;rw [← Ny138.out] at ho21))
    have n0_:=Aside0.mk (R_elder' (rm HO137.out) (R_base ho21) hb)
    have n1_:=Aside0.mk (R_lower (R_new' ho21 (R_lt (rm HO137.out))) (below_size (hm HB.out)))
    have n2_:=Aside0.mk (below_step (hm HB.out) hb)
    clear HO137
    clear HB
    have HO137:=n0_
    have HO140:=n1_
    have HB:=n2_
    clear n0_ n1_ n2_
    clear hb ho21
    refine hK.out _ _ trivial (fun hHeld=>?_)
    clear hK K
    refine norm_ (a':=?_) ?_ ?_
    rotate_left
    ·show Act.put _ (some 39) _ = _
     simp only [ap]
     rfl
    exact norm_ (by simp only [putAll,Act.put,List.setIfInBounds_toArray,List.set_cons_zero,List.set_cons_succ]) (hCont (v132,v136,v139) _ ⟨(rm (R_mono HO137.out (fun _ hk=>hk.2))),(rm (R_mono HO140.out (fun _ hk=>hk.2))),(hm HB.out)⟩)
   skip
   refine R_lit_step (Kd.int .i64) _ 3 ?hg (N:=39) ?hd (xs:=([a1] : List Int)) (inner:=[.int .i64 a1]) (ok:=fun _=>True) (okp:=fun _=>True) ?hr ?hp (fun _ hk=>hk) trivial (Below.refl _ _) (Nat.le_refl _) (by simp) ?_;(case hd=>rfl);(case hg=>rfl);(case hr=>first|(go_simp;done)|(go_simp;rfl));(case hp=>exact (Reps.one (show Kd.M (Kd.int .i64) _ _ _ a1 [.int .i64 a1] from rfl) (Reps.none _ _)))
   intro v139 w19 ho20 hb hg_ hnew_
   clear hg_ hnew_
   (first|rw [← Ny138.out] at ho20|(simp only [Int.reduceToNat] at ho20;rw [← Ny138.out] at ho20))
   have n0_:=Aside0.mk (R_elder' (rm HO133.out) (R_base ho20) hb)
   have n1_:=Aside0.mk (R_lower (R_new' ho20 (R_lt (rm HO133.out))) (below_size (hm HB.out)))
   have n2_:=Aside0.mk (below_step (hm HB.out) hb)
   clear HO133
   clear HB
   have HO133:=n0_
   have HO140:=n1_
   have HB:=n2_
   clear n0_ n1_ n2_
   clear hb ho20
   refine hK.out _ _ trivial (fun hHeld=>?_)
   clear hK K
   refine norm_ (a':=?_) ?_ ?_
   rotate_left
   ·show Act.put _ (some 39) _ = _
    simp only [ap]
    rfl
   refine one_ (i:=4) (N:=some 37) (lb 13 1919) rfl rfl (one_of HT_.out (by kernel_rfl)) (by decide) (fun K hK=>?_)
   refine R_append_rows_step (Kd.int .i64) (w0:=w) w.heap.size (by rfl) (.tmp 33) (.tmp 36) 22 3 (.int .i64 0) 8 rfl Try.underlying22 info3 rfl (by decide) (by omega) v132 y131 (l0.take (x5_1 : Int).toNat) _ _ _ (fun k_=>some k_ ≠ (v139 : Value).ownBlock) (fun _=>False) rfl rfl ?aO ?aR (fun _ _ h=>h) (fun _ h=>h.elim) ?aF ?aB ?aS ?aL ?_
   (case aR=>first|(have e_:=(C_below HR134.out HB.out);have l_:=(show (l0.take (x5_1 : Int).toNat).length = x5_1.toNat from (by rw [List.length_take];have h_ : (x5_1 : Int) ≤ (l0.length : Int):=od;omega));rw [l_] at e_;exact e_)|(rw [← show (l0.take (x5_1 : Int).toNat).length = x5_1.toNat from (by rw [List.length_take];have h_ : (x5_1 : Int) ≤ (l0.length : Int):=od;omega)];exact cm (C_below HR134.out HB.out))|(exact cm (C_below HR134.out HB.out)))
   (case aB=>exact (hm HB.out))
   (case aF=>exact (fun k_ hk=>Kd.fresh' (R_lt (rm HO140.out)) k_ hk))
   (case aO=>exact (rm (R_mono HO133.out (fun _ hk=>hk.2))))
   (case aS=>exact (below_size (hm HB.out)))
   (case aL=>have:=LMc9.out;have hlx_:=(show (l0.take (x5_1 : Int).toNat).length = x5_1.toNat from (by rw [List.length_take];have h_ : (x5_1 : Int) ≤ (l0.length : Int):=od;omega));omega)
   intro v136 w21 ho hb hg hat
   rw [← Ny135.out] at ho
   have n0_:=Aside0.mk (R_after (ok:=(fun _=>True)) (rm HO140.out) hg hat)
   have n1_:=Aside0.mk (hb)
   have n2_:=Aside0.mk (ho)
   clear HO140
   clear HB
   clear HO133
   have HO140:=n0_
   have HB:=n1_
   have HO137:=n2_
   clear n0_ n1_ n2_
   clear ho hb hg hat
   refine hK.out _ _ trivial (fun hHeld=>?_)
   clear hK K
   refine norm_ (a':=?_) ?_ ?_
   rotate_left
   ·show Act.put _ (some 37) _ = _
    simp only [ap]
    rfl
   exact norm_ (by simp only [putAll,Act.put,List.setIfInBounds_toArray,List.set_cons_zero,List.set_cons_succ]) (hCont (v132,v136,v139) _ ⟨(rm HO137.out),(rm (R_mono HO140.out (fun _ hk=>hk.2))),(hm HB.out)⟩)
  rintro ⟨v132,v136,v139⟩ w22 ⟨h0_,h1_,h2_⟩
  have n0_ : Aside0 (Kd.R (Kd.int .i64) 3 w22 w.heap.size (fun k_=>some k_ ≠ (v139 : Value).ownBlock) v136 y135):=⟨h0_⟩
  have n1_ : Aside0 (Kd.R (Kd.int .i64) 3 w22 w.heap.size (fun k_=>some k_ ≠ (v136 : Value).ownBlock) v139 y138):=⟨h1_⟩
  have n2_ : Aside0 (Below w.heap.size w w22):=⟨h2_⟩
  clear HB
  clear h0_ h1_ h2_
  have HO137:=n0_
  have HO140:=n1_
  have HB:=n2_
  clear n0_ n1_ n2_
  have hHeld:=trivial
  obtain ⟨Ao24,co24,eo24⟩:=R_slice HO140.out
  (first|subst eo24|(injection eo24 with f1_ f2_ f3_;have f4_:=f1_.symm;have f5_:=f3_.symm;clear f1_ f2_ f3_;subst f4_;subst f5_))
  refine norm_ (a':=?_) ?_ ?_
  rotate_left
  ·simp only [putAll,Act.put,List.setIfInBounds_toArray,List.set_cons_zero,List.set_cons_succ]
   rfl
  refine one_ (i:=7) (N:=some 40) (lb 13 2047) rfl rfl (one_of HT_.out (by kernel_rfl)) (by decide) (fun K hK=>?_)
  refine R_append_rows_step (Kd.int .i64) (w0:=w) w.heap.size (by rfl) (.tmp 37) (.tmp 39) 22 3 (.int .i64 0) 8 rfl Try.underlying22 info3 rfl (by decide) (by omega) v136 y135 y138 _ _ _ (fun k_=>some k_ ≠ (.slice Ao24 y138.length co24 : Value).ownBlock) (fun _=>False) rfl rfl ?aO ?aR (fun _ _ h=>h) (fun _ h=>h.elim) ?aF ?aB ?aS ?aL ?_
  (case aR=>exact cm (R_reads' HO140.out).2.2)
  (case aB=>exact (hm HB.out))
  (case aF=>exact (fun k_ hk=>Kd.fresh' (R_lt (rm HO140.out)) k_ hk))
  (case aO=>exact (rm HO137.out))
  (case aS=>exact (below_size (hm HB.out)))
  (case aL=>have:=LMc10.out;omega)
  intro v142 w23 ho hb hg hat
  rw [← Ny141.out] at ho
  have n0_:=Aside0.mk (R_after (ok:=(fun _=>True)) (rm (R_mono HO140.out (fun _ hk=>⟨trivial,hk⟩))) hg hat)
  have n1_:=Aside0.mk (hb)
  have n2_:=Aside0.mk (ho)
  clear HO140
  clear HB
  clear HO137
  have HO140:=n0_
  have HB:=n1_
  have HO143:=n2_
  clear n0_ n1_ n2_
  clear ho hb hg hat
  refine hK.out _ _ trivial (fun hHeld=>?_)
  clear hK K
  refine norm_ (a':=?_) ?_ ?_
  rotate_left
  ·show Act.put _ (some 40) _ = _
   simp only [ap]
   rfl
  refine one_ (i:=11) (N:=some 44) (lb 13 4095) rfl rfl (one_of HT_.out (by kernel_rfl)) (by decide) (fun K hK=>?_)
  refine R_append_rows_step (Kd.int .i64) (w0:=w) w.heap.size (by rfl) (.tmp 40) (.tmp 43) 22 3 (.int .i64 0) 8 rfl Try.underlying22 info3 rfl (by decide) (by omega) v142 y141 (l0.drop (x5_1 : Int).toNat) _ _ _ (fun k_=>some k_ ≠ (.slice Ao24 y138.length co24 : Value).ownBlock) (fun _=>False) rfl rfl ?aO ?aR (fun _ _ h=>h) (fun _ h=>h.elim) ?aF ?aB ?aS ?aL ?_
  (case aR=>first|(rw [← show (l0.drop (x5_1 : Int).toNat).length = (l0.length - x5_1.toNat) from List.length_drop];exact cm (C_below HR144.out HB.out))|(exact cm (C_below HR144.out HB.out)))
  (case aB=>exact (hm HB.out))
  (case aF=>exact (fun k_ hk=>Kd.fresh' (R_lt (rm HO140.out)) k_ hk))
  (case aO=>exact (rm HO143.out))
  (case aS=>exact (below_size (hm HB.out)))
  (case aL=>have:=LMc13.out;have hlx_:=(show (l0.drop (x5_1 : Int).toNat).length = (l0.length - x5_1.toNat) from List.length_drop);omega)
  intro v146 w25 ho hb hg hat
  rw [← Ny145.out] at ho
  have n0_:=Aside0.mk (R_after (ok:=(fun _=>True)) (rm HO140.out) hg hat)
  have n1_:=Aside0.mk (hb)
  have n2_:=Aside0.mk (ho)
  clear HO140
  clear HB
  clear HO143
  have HO140:=n0_
  have HB:=n1_
  have HO147:=n2_
  clear n0_ n1_ n2_
  clear ho hb hg hat
  refine hK.out _ _ trivial (fun hHeld=>?_)
  clear hK K
  refine norm_ (a':=?_) ?_ ?_
  rotate_left
  ·show Act.put _ (some 44) _ = _
   simp only [ap]
   rfl
  refine pu 12 (N:=some 4) (v:=?_) (a':=?_) (lb 13 8191) HT_ (by kernel_rfl) rfl rfl rfl (fun _ _ _ h=>h) ?_ ?_ ?_
  rotate_left
  ·intro w'
   go_simp
   with_reducible rfl
  rotate_left
  ·simp only [ap]
   rfl
  refine done_ (done_of HT_.out (by kernel_rfl)) ?_
  try go_wp2
  go_ret
  exact ⟨_,by first|rfl|(simp [errW_none,errW_some] <;> rfl)|(simp [*,errW_none,errW_some] <;> rfl),rm (R_mono HO147.out (fun _ hk=>trivial)),hm HB.out⟩


end
end Go.Proofs.Ytjmpanikfomgeaa.QFnExactAreSameForm
