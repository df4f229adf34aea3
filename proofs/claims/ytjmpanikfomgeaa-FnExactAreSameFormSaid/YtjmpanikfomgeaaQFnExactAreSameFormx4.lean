/- Functions that the law FnExactAreSameForm comes to, as Lean functions, with the proof that the Go code does what they say: written by a program of this session over the kit's print. No condition but those named. -/
import Derived.Test.YtjmpanikfomgeaaQFnExactAreSameFormx0
import Derived.Test.YtjmpanikfomgeaaQFnExactAreSameFormx3
namespace Go.Proofs.Ytjmpanikfomgeaa.QFnExactAreSameForm
open Go.RowKit Go.Proofs.YtjmpanikfomgeaaW.PrintWords Go.Proofs.YtjmpanikfomgeaaW.PrintLast Go.Proofs.YtjmpanikfomgeaaW.PrintMore Go.Proofs.Ytjmpanikfomgeaa.Short
attribute [local go_sem] max2_int min2_int max_two min_two max_three min_three max_four min_four   -- for this text's walks alone
set_option linter.unusedVariables false
set_option linter.unusedSimpArgs false

/-! ### turnedV: spec.l10Turned,its places told as a row to read -/
section
open Kd
def turnedV.f (k : Nat) (a0_0 : Int) (l0_1 : List Int) (a1 : Int) : Option (Int × List Int):=spec_l10Turned.f k a0_0 l0_1 a1
theorem turnedV.mono : ∀ a0 a1 a2 k,LeO (turnedV.f k a0 a1 a2) (turnedV.f (k + 1) a0 a1 a2):=fun a0 a1 a2 k=>spec_l10Turned.mono a0 a1 a2 k
theorem turnedV.calls (k : Nat) (a0_0 : Int) (A0_1 : Option Addr) (c0_1 : Nat) (l0_1 : List Int) (a1 : Int) (r1 : Int) (r2 : List Int) (w : World) (hr0_1 : Kd.C (Kd.int .i64) w A0_1 l0_1.length l0_1) (hc0_1 : l0_1.length ≤ c0_1) (h : turnedV.f k a0_0 l0_1 a1 = some (r1,r2)) :
  Calls Try.prog 60 #[.agg #[.int .i64 a0_0,.slice A0_1 l0_1.length c0_1],.int .i64 a1] w fun e w'=>∃ v1_ : Value,e = .returned (.agg #[.int .i64 r1,v1_]) ∧ Kd.V (Kd.int .i64) 3 w' w.heap.size (fun k_=>w.heap.size ≤ k_) v1_ r2 ∧ Below w.heap.size w w' :=
  (spec_l10Turned.calls k a0_0 A0_1 c0_1 l0_1 a1 r1 r2 w hr0_1 hc0_1 h).mono fun e w' ⟨v,he,hr,hb⟩=>⟨v,he,Kd.V_mono (R_V (R_bound hr)) (fun _ hk=>hk.2.1),hb⟩

/-! ### spec_l10Form: function 68 -/
mutual
def spec_l10Form.l0 : Nat → Int → Int → List Int → Int → List Int → Int → List Int → Option (Int × List Int)
 | 0,_,_,_,_,_,_,_=>none
 | k + 1,x5,x196000,x196001,x202000,x202001,x203000,x203001=>if x5 < x196000 then ((turnedV.f k x196000 x196001 x5).bind fun bt206=>((spec_l10Less.f k bt206.2 x202001).bind fun t211=>(if t211 = true then (spec_l10Form.j1 k x5 x196000 x196001 bt206.1 bt206.2 x203000 x203001) else (spec_l10Form.j1 k x5 x196000 x196001 x202000 x202001 x203000 x203001)))) else ((spec_l1Own.f x202001).bind fun t203=>(some (x202000,t203)))
def spec_l10Form.j1 : Nat → Int → Int → List Int → Int → List Int → Int → List Int → Option (Int × List Int)
 | 0,_,_,_,_,_,_,_=>none
 | k + 1,x5,x196000,x196001,x202000,x202001,x203000,x203001=>(turnedV.f k x203000 x203001 x5).bind fun bt212=>((spec_l10Less.f k bt212.2 x202001).bind fun t217=>(if t217 = true then (spec_l10Form.l0 k (wrap64 (x5 + 1)) x196000 x196001 bt212.1 bt212.2 x203000 x203001) else (spec_l10Form.l0 k (wrap64 (x5 + 1)) x196000 x196001 x202000 x202001 x203000 x203001)))
end
def spec_l10Form.f (k : Nat) (a0_0 : Int) (l0_1 : List Int) : Option (Int × List Int):=(spec_l10Mirror.f k a0_0 l0_1 (wrap64 (a0_0 - 1))).bind fun bt197=>(spec_l10Form.l0 k 0 a0_0 l0_1 a0_0 l0_1 bt197.1 bt197.2)
theorem spec_l10Form.mono_l : ∀ k,(∀ y0 y1 y2 y3 y4 y5 y6,LeO (spec_l10Form.l0 k y0 y1 y2 y3 y4 y5 y6) (spec_l10Form.l0 (k + 1) y0 y1 y2 y3 y4 y5 y6)) ∧ (∀ y0 y1 y2 y3 y4 y5 y6,LeO (spec_l10Form.j1 k y0 y1 y2 y3 y4 y5 y6) (spec_l10Form.j1 (k + 1) y0 y1 y2 y3 y4 y5 y6))
 | 0=>⟨fun _ _ _ _ _ _ _ r h=>by simp [spec_l10Form.l0] at h,fun _ _ _ _ _ _ _ r h=>by simp [spec_l10Form.j1] at h⟩
 | k + 1=>by
  obtain ⟨ih0,ih1⟩:=spec_l10Form.mono_l k
  refine ⟨?_,?_⟩
  ·intro y0 y1 y2 y3 y4 y5 y6
   unfold spec_l10Form.l0
   repeat' first
   | (with_reducible exact ih0 _ _ _ _ _ _ _)
   | (with_reducible exact ih1 _ _ _ _ _ _ _)
   | (with_reducible exact spec_l10Less.mono _ _ _)
   | (with_reducible exact spec_l10Mirror.mono _ _ _ _)
   | (with_reducible exact turnedV.mono _ _ _ _)
   | (with_reducible exact LeO.refl _)
   | (with_reducible exact LeO.none _)
   | (with_reducible refine LeO.ite ?_ ?_)
   | (with_reducible refine LeO.bind ?_ (fun _=>?_))
   | exact ih0 _ _ _ _ _ _ _
   | exact ih1 _ _ _ _ _ _ _
   | exact spec_l10Less.mono _ _ _
   | exact spec_l10Mirror.mono _ _ _ _
   | exact turnedV.mono _ _ _ _
   | exact LeO.none _
   | refine LeO.ite ?_ ?_
   | refine LeO.bind ?_ (fun _=>?_)
  ·intro y0 y1 y2 y3 y4 y5 y6
   unfold spec_l10Form.j1
   repeat' first
   | (with_reducible exact ih0 _ _ _ _ _ _ _)
   | (with_reducible exact ih1 _ _ _ _ _ _ _)
   | (with_reducible exact spec_l10Less.mono _ _ _)
   | (with_reducible exact spec_l10Mirror.mono _ _ _ _)
   | (with_reducible exact turnedV.mono _ _ _ _)
   | (with_reducible exact LeO.refl _)
   | (with_reducible exact LeO.none _)
   | (with_reducible refine LeO.ite ?_ ?_)
   | (with_reducible refine LeO.bind ?_ (fun _=>?_))
   | exact ih0 _ _ _ _ _ _ _
   | exact ih1 _ _ _ _ _ _ _
   | exact spec_l10Less.mono _ _ _
   | exact spec_l10Mirror.mono _ _ _ _
   | exact turnedV.mono _ _ _ _
   | exact LeO.none _
   | refine LeO.ite ?_ ?_
   | refine LeO.bind ?_ (fun _=>?_)
theorem spec_l10Form.mono : ∀ a0 a1 k,LeO (spec_l10Form.f k a0 a1) (spec_l10Form.f (k + 1) a0 a1):=by
 intro a0 a1 k
 obtain ⟨ih0,ih1⟩:=spec_l10Form.mono_l k
 unfold spec_l10Form.f
 repeat' first
   | (with_reducible exact ih0 _ _ _ _ _ _ _)
   | (with_reducible exact ih1 _ _ _ _ _ _ _)
   | (with_reducible exact spec_l10Less.mono _ _ _)
   | (with_reducible exact spec_l10Mirror.mono _ _ _ _)
   | (with_reducible exact turnedV.mono _ _ _ _)
   | (with_reducible exact LeO.refl _)
   | (with_reducible exact LeO.none _)
   | (with_reducible refine LeO.ite ?_ ?_)
   | (with_reducible refine LeO.bind ?_ (fun _=>?_))
   | exact ih0 _ _ _ _ _ _ _
   | exact ih1 _ _ _ _ _ _ _
   | exact spec_l10Less.mono _ _ _
   | exact spec_l10Mirror.mono _ _ _ _
   | exact turnedV.mono _ _ _ _
   | exact LeO.none _
   | refine LeO.ite ?_ ?_
   | refine LeO.bind ?_ (fun _=>?_)
def spec_l10Form.T1 : Bool × List (List Nat × List Nat):=(true,[([],[]),([],[]),([],[]),([2],[2]),([3],[3]),([1,4],[1,4]),([],[]),([],[]),([6,0,5,0,6,7],[0,6]),([7,5,8,0,1,2,3,4,5,6,7,8],[5,7])])
def spec_l10Form.B1 : List Nat:=[0,0,0,4,12,30,0,0,255,511]
theorem spec_l10Form.tab1 : rtab .any (opsOf Try.f68 1) = spec_l10Form.T1:=by kernel_rfl
theorem spec_l10Form.bits1 : waitsOk spec_l10Form.T1.2 spec_l10Form.B1 = true:=by kernel_rfl
set_option maxHeartbeats 8000000 in
set_option maxRecDepth 100000 in
theorem spec_l10Form.calls (k : Nat) (a0_0 : Int) (P0_1_ : Nat → Prop) (A0_1 : Option Addr) (c0_1 : Nat) (l0_1 : List Int) (r1 : Int) (r2 : List Int) (w : World) (hs0_1 : Kd.V (Kd.int .i64) 3 w w.heap.size (fun k_=>P0_1_ k_) (.slice A0_1 l0_1.length c0_1) l0_1) (h : spec_l10Form.f k a0_0 l0_1 = some (r1,r2)) :
  Calls Try.prog 68 #[.agg #[.int .i64 a0_0,.slice A0_1 l0_1.length c0_1]] w fun e w'=>∃ v1_ : Value,e = .returned (.agg #[.int .i64 r1,v1_]) ∧ Kd.R (Kd.int .i64) 3 w' w.heap.size (fun k_=>(w.heap.size ≤ k_)) v1_ r2 ∧ Below w.heap.size w w':=by
 have hu30:=Try.underlying30
 have HO0_1:=Aside0.mk (show Kd.V (Kd.int .i64) 3 w w.heap.size (fun k_=>(P0_1_ k_ ∨ w.heap.size ≤ k_)) (.slice A0_1 l0_1.length c0_1) l0_1 from Kd.V_mono hs0_1 (fun k_ hk=>.inl hk))
 have HB:=Aside0.mk (Below.refl w.heap.size w)
 have H : ((spec_l10Mirror.f k a0_0 l0_1 (wrap64 (a0_0 - 1))).bind fun bt197=>(spec_l10Form.l0 k 0 a0_0 l0_1 a0_0 l0_1 bt197.1 bt197.2)) = some (r1,r2):=h
 clear h
 replace H:=Option.bind_eq_some_iff.mp H
 obtain ⟨⟨t197,t198⟩,A20,H⟩:=H
 replace H : (spec_l10Form.l0 k 0 a0_0 l0_1 a0_0 l0_1 t197 t198) = some (r1,r2):=H
 have A2:=Aside0.mk A20
 clear A20
 have H':=Aside0.mk H
 clear H
 go_enter Try.func68,Try.ntmps68
 try go_wp2_with (first|((with_reducible refine gate_dst (N:=1) rfl ?_);refine box_event ?hg (N:=1) ?hd (cs:=#[.int .i64 a0_0,.slice A0_1 l0_1.length c0_1]) (t:=30) ?hr ?_;(case hd=>rfl);(case hg=>rfl);(case hr=>first|(go_simp;done)|(go_simp;rfl));intro gb195 hg w3 hbox hb;have n0_:=Aside0.mk (Kd.V_below (Kd.V_elderB (vm HO0_1.out) gb195 (Nat.le_of_eq hg.symm)) hb);have n1_:=Aside0.mk (below_step (hm HB.out) hb);have n2_:=Aside0.mk (hbox);have n3_:=Aside0.mk ((by rw [hg];exact (below_size (hm HB.out)) : w.heap.size ≤ gb195));have n4_:=Aside0.mk ((by rw [hg];exact (below_size (hm HB.out)) : w.heap.size ≤ gb195));clear HO0_1;clear HB;have HO0_1:=n0_;have HB:=n1_;have BK195:=n2_;have GW195:=n3_;have GE195:=n4_;clear n0_ n1_ n2_ n3_ n4_;clear hb hbox hg)|((with_reducible refine gate_dst (N:=2) rfl ?_);refine box_event ?hg (N:=2) ?hd (cs:=#[.int .i64 0,.slice none 0 0]) (t:=30) ?hr ?_;(case hd=>rfl);(case hg=>rfl);(case hr=>first|(go_simp;done)|(go_simp;rfl));intro gb196 hg w4 hbox hb;have n0_:=Aside0.mk (Kd.V_below (Kd.V_elderB (vm HO0_1.out) gb196 (Nat.le_of_eq hg.symm)) hb);have n1_:=Aside0.mk (blk_below (g:=gb195) (o:=.cells #[.int .i64 a0_0,.slice A0_1 l0_1.length c0_1] 30 (0,0)) (bm BK195.out) hb);have n2_:=Aside0.mk (below_step (h1 HB.out GE195.out) hb);have n3_:=Aside0.mk (hbox);have n4_:=Aside0.mk ((by rw [hg];exact (below_size (h1 HB.out GE195.out)) : w.heap.size ≤ gb196));have n5_:=Aside0.mk ((by rw [hg];exact (below_size (h1 HB.out GE195.out)) : w.heap.size ≤ gb196));have n6_:=Aside0.mk ((by rw [hg];exact Nat.ne_of_lt (blk_lt (g:=gb195) (bm BK195.out)) : gb195 ≠ gb196));have n7_:=Aside0.mk ((by rw [hg];exact Nat.ne_of_gt (blk_lt (g:=gb195) (bm BK195.out)) : gb196 ≠ gb195));clear HO0_1;clear BK195;clear HB;have HO0_1:=n0_;have BK195:=n1_;have HB:=n2_;have BK196:=n3_;have GW196:=n4_;have GE196:=n5_;have NB195_196:=n6_;have NB196_195:=n7_;clear n0_ n1_ n2_ n3_ n4_ n5_ n6_ n7_;clear hb hbox hg))
 have n0_:=Aside0.mk (Kd.V_drew HO0_1.out)
 have n1_:=Aside0.mk (blk_drew BK195.out)
 have n2_:=Aside0.mk (blk_drew BK196.out)
 have n3_:=Aside0.mk (below_drew1 HB.out)
 clear HO0_1
 clear BK195
 clear BK196
 clear HB
 have HO0_1:=n0_
 have BK195:=n1_
 have BK196:=n2_
 have HB:=n3_
 clear n0_ n1_ n2_ n3_
 refine start_ (n:=10) (S:=fun w'=>w'.cell? ⟨gb195,0,none⟩ = some (.int .i64 a0_0) ∧ w'.cell? ⟨gb195,1,none⟩ = some (.slice A0_1 l0_1.length c0_1)) (ds:=[]) (lb 10 0) (by kernel_rfl) rfl rfl ⟨(blk_cell BK195.out 0).trans rfl,(blk_cell BK195.out 1).trans rfl⟩ (fun hHeld=>?_);refine with_tabW spec_l10Form.tab1 spec_l10Form.bits1 (fun HT_ HW_=>?_)
 generalize w4.drew = w5 at HO0_1 BK195 BK196 HB hHeld ⊢
 refine pu 2 (N:=some 10) (v:=?_) (a':=?_) (lb 10 4) HT_ (by kernel_rfl) rfl rfl rfl (fun _ _ _ h=>h) ?_ ?_ ?_
 rotate_left
 ·intro w'
  go_simp
  with_reducible rfl
 rotate_left
 ·simp only [ap]
  rfl
 refine take_ (i:=0) (N:=some 8) (v:=?_) (a':=?_) (lb 10 5) rfl rfl (take_ofW HT_.out HW_.out (by kernel_rfl)) (fun _ _ _ h=>h) (Or.inl ⟨by rfl,?_⟩) hHeld ?_ ?_
 rotate_left
 ·rintro w' ⟨s0,s1⟩
  go_simp
  with_reducible rfl
 rotate_left
 ·simp only [ap]
  rfl
 refine take_ (i:=1) (N:=some 9) (v:=?_) (a':=?_) (lb 10 7) rfl rfl (take_ofW HT_.out HW_.out (by kernel_rfl)) (fun _ _ _ h=>h) (Or.inl ⟨by rfl,?_⟩) hHeld ?_ ?_
 rotate_left
 ·rintro w' ⟨s0,s1⟩
  go_simp
  with_reducible rfl
 rotate_left
 ·simp only [ap]
  rfl
 refine take_ (i:=3) (N:=some 11) (v:=?_) (a':=?_) (lb 10 15) rfl rfl (take_ofW HT_.out HW_.out (by kernel_rfl)) (fun _ _ _ h=>h) (Or.inl ⟨by rfl,?_⟩) hHeld ?_ ?_
 rotate_left
 ·rintro w' ⟨s0,s1⟩
  go_simp
  with_reducible rfl
 rotate_left
 ·simp only [ap]
  rfl
 refine pu 4 (N:=some 12) (v:=?_) (a':=?_) (lb 10 31) HT_ (by kernel_rfl) rfl rfl rfl (fun _ _ _ h=>h) ?_ ?_ ?_
 rotate_left
 ·intro w'
  go_simp
  with_reducible rfl
 rotate_left
 ·simp only [ap]
  rfl
 refine join_ (σ:=Value × Nat × Nat) 2 (lb 10 255) (fun s_=>[(13,.agg #[.int .i64 t197,s_.1]),(3,.pointer (some ⟨s_.2.1,0,none⟩)),(4,.pointer (some ⟨s_.2.2,0,none⟩))]) (fun s_ w'=>(w'.cell? ⟨gb195,0,none⟩ = some (.int .i64 a0_0) ∧ w'.cell? ⟨gb195,1,none⟩ = some (.slice A0_1 l0_1.length c0_1)) ∧ (Kd.V (Kd.int .i64) 3 w' w.heap.size (fun k_=>(P0_1_ k_ ∨ w.heap.size ≤ k_) ∧ some k_ ≠ (s_.1 : Value).ownBlock ∧ k_ ≠ gb195 ∧ k_ ≠ gb196 ∧ k_ ≠ s_.2.1 ∧ k_ ≠ s_.2.2) (.slice A0_1 l0_1.length c0_1) l0_1) ∧ (Kd.R (Kd.int .i64) 3 w' w.heap.size (fun k_=>(w.heap.size ≤ k_)) s_.1 t198) ∧ (w'.heap[gb195]? = some (.cells #[.int .i64 a0_0,.slice A0_1 l0_1.length c0_1] 30 (0,0))) ∧ (w'.heap[gb196]? = some (.cells #[.int .i64 0,.slice none 0 0] 30 (0,0))) ∧ (w'.heap[s_.2.1]? = some (.cells #[.int .i64 0,.slice none 0 0] 30 (0,0))) ∧ (w'.heap[s_.2.2]? = some (.cells #[.int .i64 0,.slice none 0 0] 30 (0,0))) ∧ (w.heap.size ≤ s_.2.1) ∧ (w.heap.size ≤ s_.2.1) ∧ (gb195 ≠ s_.2.1) ∧ (s_.2.1 ≠ gb195) ∧ (gb196 ≠ s_.2.1) ∧ (s_.2.1 ≠ gb196) ∧ (s_.2.2 ≠ s_.2.1) ∧ (s_.2.1 ≠ s_.2.2) ∧ (w.heap.size ≤ s_.2.2) ∧ (w.heap.size ≤ s_.2.2) ∧ (gb195 ≠ s_.2.2) ∧ (s_.2.2 ≠ gb195) ∧ (gb196 ≠ s_.2.2) ∧ (s_.2.2 ≠ gb196) ∧ (Below w.heap.size w w')) ?_ ?_
 rotate_left
 ·intro hJ5_6_7
  refine join_ (σ:=Value × Nat) 3 (lb 10 127) (fun s_=>[(13,.agg #[.int .i64 t197,s_.1]),(3,.pointer (some ⟨s_.2,0,none⟩))]) (fun s_ w'=>(w'.cell? ⟨gb195,0,none⟩ = some (.int .i64 a0_0) ∧ w'.cell? ⟨gb195,1,none⟩ = some (.slice A0_1 l0_1.length c0_1)) ∧ (Kd.V (Kd.int .i64) 3 w' w.heap.size (fun k_=>(P0_1_ k_ ∨ w.heap.size ≤ k_) ∧ some k_ ≠ (s_.1 : Value).ownBlock ∧ k_ ≠ gb195 ∧ k_ ≠ gb196 ∧ k_ ≠ s_.2) (.slice A0_1 l0_1.length c0_1) l0_1) ∧ (Kd.R (Kd.int .i64) 3 w' w.heap.size (fun k_=>(w.heap.size ≤ k_)) s_.1 t198) ∧ (w'.heap[gb195]? = some (.cells #[.int .i64 a0_0,.slice A0_1 l0_1.length c0_1] 30 (0,0))) ∧ (w'.heap[gb196]? = some (.cells #[.int .i64 0,.slice none 0 0] 30 (0,0))) ∧ (w'.heap[s_.2]? = some (.cells #[.int .i64 0,.slice none 0 0] 30 (0,0))) ∧ (w.heap.size ≤ s_.2) ∧ (w.heap.size ≤ s_.2) ∧ (gb195 ≠ s_.2) ∧ (s_.2 ≠ gb195) ∧ (gb196 ≠ s_.2) ∧ (s_.2 ≠ gb196) ∧ (Below w.heap.size w w')) ?_ ?_
  rotate_left
  rotate_left
  ·skip
   rintro ⟨v199,gb201⟩ w8 ⟨hS_,h0_,h1_,h2_,h3_,h4_,h5_,h6_,h7_,h8_,h9_,h10_,h11_⟩
   have n0_ : Aside0 (Kd.V (Kd.int .i64) 3 w8 w.heap.size (fun k_=>(P0_1_ k_ ∨ w.heap.size ≤ k_) ∧ some k_ ≠ (v199 : Value).ownBlock ∧ k_ ≠ gb195 ∧ k_ ≠ gb196 ∧ k_ ≠ gb201) (.slice A0_1 l0_1.length c0_1) l0_1):=⟨h0_⟩
   have n1_ : Aside0 (Kd.R (Kd.int .i64) 3 w8 w.heap.size (fun k_=>(w.heap.size ≤ k_)) v199 t198):=⟨h1_⟩
   have n2_ : Aside0 (w8.heap[gb195]? = some (.cells #[.int .i64 a0_0,.slice A0_1 l0_1.length c0_1] 30 (0,0))):=⟨h2_⟩
   have n3_ : Aside0 (w8.heap[gb196]? = some (.cells #[.int .i64 0,.slice none 0 0] 30 (0,0))):=⟨h3_⟩
   have n4_ : Aside0 (w8.heap[gb201]? = some (.cells #[.int .i64 0,.slice none 0 0] 30 (0,0))):=⟨h4_⟩
   have n5_ : Aside0 (w.heap.size ≤ gb201):=⟨h5_⟩
   have n6_ : Aside0 (w.heap.size ≤ gb201):=⟨h6_⟩
   have n7_ : Aside0 (gb195 ≠ gb201):=⟨h7_⟩
   have n8_ : Aside0 (gb201 ≠ gb195):=⟨h8_⟩
   have n9_ : Aside0 (gb196 ≠ gb201):=⟨h9_⟩
   have n10_ : Aside0 (gb201 ≠ gb196):=⟨h10_⟩
   have n11_ : Aside0 (Below w.heap.size w w8):=⟨h11_⟩
   clear HO0_1
   clear BK195
   clear BK196
   clear HB
   clear h0_ h1_ h2_ h3_ h4_ h5_ h6_ h7_ h8_ h9_ h10_ h11_
   have HO0_1:=n0_
   have HO200:=n1_
   have BK195:=n2_
   have BK196:=n3_
   have BK201:=n4_
   have GW201:=n5_
   have GE201:=n6_
   have NB195_201:=n7_
   have NB201_195:=n8_
   have NB196_201:=n9_
   have NB201_196:=n10_
   have HB:=n11_
   clear n0_ n1_ n2_ n3_ n4_ n5_ n6_ n7_ n8_ n9_ n10_ n11_
   have hHeld : w8.cell? ⟨gb195,0,none⟩ = some (.int .i64 a0_0) ∧ w8.cell? ⟨gb195,1,none⟩ = some (.slice A0_1 l0_1.length c0_1):=hS_
   refine norm_ (a':=?_) ?_ ?_
   rotate_left
   ·simp only [putAll,Act.put,List.setIfInBounds_toArray,List.set_cons_zero,List.set_cons_succ]
    rfl
   refine one_ (i:=7) (N:=some 4) (lb 10 255) rfl rfl (one_of HT_.out (by kernel_rfl)) (by decide) (fun K hK=>?_)
   refine box_step ?hg (N:=4) ?hd (cs:=#[.int .i64 0,.slice none 0 0]) (t:=30) ?hr ?_;(case hd=>rfl);(case hg=>rfl);(case hr=>first|(go_simp;done)|(go_simp;rfl))
   intro gb202 hg w9 hbox hb
   have n0_:=Aside0.mk (Kd.V_below (Kd.V_elderB (vm HO0_1.out) gb202 (Nat.le_of_eq hg.symm)) hb)
   have n1_:=Aside0.mk (R_below (rm HO200.out) hb)
   have n2_:=Aside0.mk (blk_below (g:=gb195) (o:=.cells #[.int .i64 a0_0,.slice A0_1 l0_1.length c0_1] 30 (0,0)) (bm BK195.out) hb)
   have n3_:=Aside0.mk (blk_below (g:=gb196) (o:=.cells #[.int .i64 0,.slice none 0 0] 30 (0,0)) (bm BK196.out) hb)
   have n4_:=Aside0.mk (blk_below (g:=gb201) (o:=.cells #[.int .i64 0,.slice none 0 0] 30 (0,0)) (bm BK201.out) hb)
   have n5_:=Aside0.mk (below_step (h3 HB.out GE195.out GE196.out GE201.out) hb)
   have n6_:=Aside0.mk (hbox)
   have n7_:=Aside0.mk ((by rw [hg];exact (below_size (h3 HB.out GE195.out GE196.out GE201.out)) : w.heap.size ≤ gb202))
   have n8_:=Aside0.mk ((by rw [hg];exact (below_size (h3 HB.out GE195.out GE196.out GE201.out)) : w.heap.size ≤ gb202))
   have n9_:=Aside0.mk ((by rw [hg];exact Nat.ne_of_lt (blk_lt (g:=gb195) (bm BK195.out)) : gb195 ≠ gb202))
   have n10_:=Aside0.mk ((by rw [hg];exact Nat.ne_of_gt (blk_lt (g:=gb195) (bm BK195.out)) : gb202 ≠ gb195))
   have n11_:=Aside0.mk ((by rw [hg];exact Nat.ne_of_lt (blk_lt (g:=gb196) (bm BK196.out)) : gb196 ≠ gb202))
   have n12_:=Aside0.mk ((by rw [hg];exact Nat.ne_of_gt (blk_lt (g:=gb196) (bm BK196.out)) : gb202 ≠ gb196))
   have n13_:=Aside0.mk ((by rw [hg];exact Nat.ne_of_lt (blk_lt (g:=gb201) (bm BK201.out)) : gb201 ≠ gb202))
   have n14_:=Aside0.mk ((by rw [hg];exact Nat.ne_of_gt (blk_lt (g:=gb201) (bm BK201.out)) : gb202 ≠ gb201))
   clear HO0_1
   clear HO200
   clear BK195
   clear BK196
   clear BK201
   clear HB
   have HO0_1:=n0_
   have HO200:=n1_
   have BK195:=n2_
   have BK196:=n3_
   have BK201:=n4_
   have HB:=n5_
   have BK202:=n6_
   have GW202:=n7_
   have GE202:=n8_
   have NB195_202:=n9_
   have NB202_195:=n10_
   have NB196_202:=n11_
   have NB202_196:=n12_
   have NB201_202:=n13_
   have NB202_201:=n14_
   clear n0_ n1_ n2_ n3_ n4_ n5_ n6_ n7_ n8_ n9_ n10_ n11_ n12_ n13_ n14_
   clear hb hbox hg
   refine hK.out _ _ ⟨(blk_cell BK195.out 0).trans rfl,(blk_cell BK195.out 1).trans rfl⟩ (fun hHeld=>?_)
   clear hK K
   refine norm_ (a':=?_) ?_ ?_
   rotate_left
   ·show Act.put _ (some 4) _ = _
    simp only [ap]
    rfl
   exact norm_ (by first|(simp only [putAll,Act.put,List.setIfInBounds_toArray,List.set_cons_zero,List.set_cons_succ];done)|(simp only [putAll,Act.put,List.setIfInBounds_toArray,List.set_cons_zero,List.set_cons_succ];rfl)) (hJ5_6_7 (v199,gb201,gb202) _ ⟨hHeld,(vm (Kd.V_mono HO0_1.out (fun _ hk=>⟨hk.1.1,⟨hk.1.2.1,⟨hk.1.2.2.1,⟨hk.1.2.2.2.1,⟨hk.1.2.2.2.2,hk.2⟩⟩⟩⟩⟩))),(rm HO200.out),(bm BK195.out),(bm BK196.out),(bm BK201.out),(bm BK202.out),GW201.out,GE201.out,NB195_201.out,NB201_195.out,NB196_201.out,NB201_196.out,NB202_201.out,NB201_202.out,GW202.out,GE202.out,NB195_202.out,NB202_195.out,NB196_202.out,NB202_196.out,(by repeat (first|(with_reducible first|exact HB.out|apply below_alloc|apply pw_below_drewN|apply below_drew1|refine below_set ?_ GE195.out|refine below_set ?_ GE196.out|refine below_set ?_ GE201.out|refine below_set ?_ GE202.out)|exact HB.out))⟩)
  intro hJ5_6
  refine join_ (σ:=Value × Nat) 3 (lb 10 191) (fun s_=>[(13,.agg #[.int .i64 t197,s_.1]),(4,.pointer (some ⟨s_.2,0,none⟩))]) (fun s_ w'=>(w'.cell? ⟨gb195,0,none⟩ = some (.int .i64 a0_0) ∧ w'.cell? ⟨gb195,1,none⟩ = some (.slice A0_1 l0_1.length c0_1)) ∧ (Kd.V (Kd.int .i64) 3 w' w.heap.size (fun k_=>(P0_1_ k_ ∨ w.heap.size ≤ k_) ∧ some k_ ≠ (s_.1 : Value).ownBlock ∧ k_ ≠ gb195 ∧ k_ ≠ gb196 ∧ k_ ≠ s_.2) (.slice A0_1 l0_1.length c0_1) l0_1) ∧ (Kd.R (Kd.int .i64) 3 w' w.heap.size (fun k_=>(w.heap.size ≤ k_)) s_.1 t198) ∧ (w'.heap[gb195]? = some (.cells #[.int .i64 a0_0,.slice A0_1 l0_1.length c0_1] 30 (0,0))) ∧ (w'.heap[gb196]? = some (.cells #[.int .i64 0,.slice none 0 0] 30 (0,0))) ∧ (w'.heap[s_.2]? = some (.cells #[.int .i64 0,.slice none 0 0] 30 (0,0))) ∧ (w.heap.size ≤ s_.2) ∧ (w.heap.size ≤ s_.2) ∧ (gb195 ≠ s_.2) ∧ (s_.2 ≠ gb195) ∧ (gb196 ≠ s_.2) ∧ (s_.2 ≠ gb196) ∧ (Below w.heap.size w w')) ?_ ?_
  rotate_left
  rotate_left
  ·skip
   rintro ⟨v199,gb202⟩ w8 ⟨hS_,h0_,h1_,h2_,h3_,h4_,h5_,h6_,h7_,h8_,h9_,h10_,h11_⟩
   have n0_ : Aside0 (Kd.V (Kd.int .i64) 3 w8 w.heap.size (fun k_=>(P0_1_ k_ ∨ w.heap.size ≤ k_) ∧ some k_ ≠ (v199 : Value).ownBlock ∧ k_ ≠ gb195 ∧ k_ ≠ gb196 ∧ k_ ≠ gb202) (.slice A0_1 l0_1.length c0_1) l0_1):=⟨h0_⟩
   have n1_ : Aside0 (Kd.R (Kd.int .i64) 3 w8 w.heap.size (fun k_=>(w.heap.size ≤ k_)) v199 t198):=⟨h1_⟩
   have n2_ : Aside0 (w8.heap[gb195]? = some (.cells #[.int .i64 a0_0,.slice A0_1 l0_1.length c0_1] 30 (0,0))):=⟨h2_⟩
   have n3_ : Aside0 (w8.heap[gb196]? = some (.cells #[.int .i64 0,.slice none 0 0] 30 (0,0))):=⟨h3_⟩
   have n4_ : Aside0 (w8.heap[gb202]? = some (.cells #[.int .i64 0,.slice none 0 0] 30 (0,0))):=⟨h4_⟩
   have n5_ : Aside0 (w.heap.size ≤ gb202):=⟨h5_⟩
   have n6_ : Aside0 (w.heap.size ≤ gb202):=⟨h6_⟩
   have n7_ : Aside0 (gb195 ≠ gb202):=⟨h7_⟩
   have n8_ : Aside0 (gb202 ≠ gb195):=⟨h8_⟩
   have n9_ : Aside0 (gb196 ≠ gb202):=⟨h9_⟩
   have n10_ : Aside0 (gb202 ≠ gb196):=⟨h10_⟩
   have n11_ : Aside0 (Below w.heap.size w w8):=⟨h11_⟩
   clear HO0_1
   clear BK195
   clear BK196
   clear HB
   clear h0_ h1_ h2_ h3_ h4_ h5_ h6_ h7_ h8_ h9_ h10_ h11_
   have HO0_1:=n0_
   have HO200:=n1_
   have BK195:=n2_
   have BK196:=n3_
   have BK202:=n4_
   have GW202:=n5_
   have GE202:=n6_
   have NB195_202:=n7_
   have NB202_195:=n8_
   have NB196_202:=n9_
   have NB202_196:=n10_
   have HB:=n11_
   clear n0_ n1_ n2_ n3_ n4_ n5_ n6_ n7_ n8_ n9_ n10_ n11_
   have hHeld : w8.cell? ⟨gb195,0,none⟩ = some (.int .i64 a0_0) ∧ w8.cell? ⟨gb195,1,none⟩ = some (.slice A0_1 l0_1.length c0_1):=hS_
   refine norm_ (a':=?_) ?_ ?_
   rotate_left
   ·simp only [putAll,Act.put,List.setIfInBounds_toArray,List.set_cons_zero,List.set_cons_succ]
    rfl
   refine one_ (i:=6) (N:=some 3) (lb 10 255) rfl rfl (one_of HT_.out (by kernel_rfl)) (by decide) (fun K hK=>?_)
   refine box_step ?hg (N:=3) ?hd (cs:=#[.int .i64 0,.slice none 0 0]) (t:=30) ?hr ?_;(case hd=>rfl);(case hg=>rfl);(case hr=>first|(go_simp;done)|(go_simp;rfl))
   intro gb201 hg w9 hbox hb
   have n0_:=Aside0.mk (Kd.V_below (Kd.V_elderB (vm HO0_1.out) gb201 (Nat.le_of_eq hg.symm)) hb)
   have n1_:=Aside0.mk (R_below (rm HO200.out) hb)
   have n2_:=Aside0.mk (blk_below (g:=gb195) (o:=.cells #[.int .i64 a0_0,.slice A0_1 l0_1.length c0_1] 30 (0,0)) (bm BK195.out) hb)
   have n3_:=Aside0.mk (blk_below (g:=gb196) (o:=.cells #[.int .i64 0,.slice none 0 0] 30 (0,0)) (bm BK196.out) hb)
   have n4_:=Aside0.mk (blk_below (g:=gb202) (o:=.cells #[.int .i64 0,.slice none 0 0] 30 (0,0)) (bm BK202.out) hb)
   have n5_:=Aside0.mk (below_step (h3 HB.out GE195.out GE196.out GE202.out) hb)
   have n6_:=Aside0.mk (hbox)
   have n7_:=Aside0.mk ((by rw [hg];exact (below_size (h3 HB.out GE195.out GE196.out GE202.out)) : w.heap.size ≤ gb201))
   have n8_:=Aside0.mk ((by rw [hg];exact (below_size (h3 HB.out GE195.out GE196.out GE202.out)) : w.heap.size ≤ gb201))
   have n9_:=Aside0.mk ((by rw [hg];exact Nat.ne_of_lt (blk_lt (g:=gb195) (bm BK195.out)) : gb195 ≠ gb201))
   have n10_:=Aside0.mk ((by rw [hg];exact Nat.ne_of_gt (blk_lt (g:=gb195) (bm BK195.out)) : gb201 ≠ gb195))
   have n11_:=Aside0.mk ((by rw [hg];exact Nat.ne_of_lt (blk_lt (g:=gb196) (bm BK196.out)) : gb196 ≠ gb201))
   have n12_:=Aside0.mk ((by rw [hg];exact Nat.ne_of_gt (blk_lt (g:=gb196) (bm BK196.out)) : gb201 ≠ gb196))
   have n13_:=Aside0.mk ((by rw [hg];exact Nat.ne_of_lt (blk_lt (g:=gb202) (bm BK202.out)) : gb202 ≠ gb201))
   have n14_:=Aside0.mk ((by rw [hg];exact Nat.ne_of_gt (blk_lt (g:=gb202) (bm BK202.out)) : gb201 ≠ gb202))
   clear HO0_1
   clear HO200
   clear BK195
   clear BK196
   clear BK202
   clear HB
   have HO0_1:=n0_
   have HO200:=n1_
   have BK195:=n2_
   have BK196:=n3_
   have BK202:=n4_
   have HB:=n5_
   have BK201:=n6_
   have GW201:=n7_
   have GE201:=n8_
   have NB195_201:=n9_
   have NB201_195:=n10_
   have NB196_201:=n11_
   have NB201_196:=n12_
   have NB202_201:=n13_
   have NB201_202:=n14_
   clear n0_ n1_ n2_ n3_ n4_ n5_ n6_ n7_ n8_ n9_ n10_ n11_ n12_ n13_ n14_
   clear hb hbox hg
   refine hK.out _ _ ⟨(blk_cell BK195.out 0).trans rfl,(blk_cell BK195.out 1).trans rfl⟩ (fun hHeld=>?_)
   clear hK K
   refine norm_ (a':=?_) ?_ ?_
   rotate_left
   ·show Act.put _ (some 3) _ = _
    simp only [ap]
    rfl
   exact norm_ (by first|(simp only [putAll,Act.put,List.setIfInBounds_toArray,List.set_cons_zero,List.set_cons_succ];done)|(simp only [putAll,Act.put,List.setIfInBounds_toArray,List.set_cons_zero,List.set_cons_succ];rfl)) (hJ5_6_7 (v199,gb201,gb202) _ ⟨hHeld,(vm (Kd.V_mono HO0_1.out (fun _ hk=>⟨hk.1.1,⟨hk.1.2.1,⟨hk.1.2.2.1,⟨hk.1.2.2.2.1,⟨hk.2,hk.1.2.2.2.2⟩⟩⟩⟩⟩))),(rm HO200.out),(bm BK195.out),(bm BK196.out),(bm BK201.out),(bm BK202.out),GW201.out,GE201.out,NB195_201.out,NB201_195.out,NB196_201.out,NB201_196.out,NB202_201.out,NB201_202.out,GW202.out,GE202.out,NB195_202.out,NB202_195.out,NB196_202.out,NB202_196.out,(by repeat (first|(with_reducible first|exact HB.out|apply below_alloc|apply pw_below_drewN|apply below_drew1|refine below_set ?_ GE195.out|refine below_set ?_ GE196.out|refine below_set ?_ GE202.out|refine below_set ?_ GE201.out)|exact HB.out))⟩)
  intro hJ5_7
  refine join_ (σ:=Nat × Nat) 3 (lb 10 223) (fun s_=>[(3,.pointer (some ⟨s_.1,0,none⟩)),(4,.pointer (some ⟨s_.2,0,none⟩))]) (fun s_ w'=>(w'.cell? ⟨gb195,0,none⟩ = some (.int .i64 a0_0) ∧ w'.cell? ⟨gb195,1,none⟩ = some (.slice A0_1 l0_1.length c0_1)) ∧ (Kd.V (Kd.int .i64) 3 w' w.heap.size (fun k_=>(P0_1_ k_ ∨ w.heap.size ≤ k_) ∧ k_ ≠ gb195 ∧ k_ ≠ gb196 ∧ k_ ≠ s_.1 ∧ k_ ≠ s_.2) (.slice A0_1 l0_1.length c0_1) l0_1) ∧ (w'.heap[gb195]? = some (.cells #[.int .i64 a0_0,.slice A0_1 l0_1.length c0_1] 30 (0,0))) ∧ (w'.heap[gb196]? = some (.cells #[.int .i64 0,.slice none 0 0] 30 (0,0))) ∧ (w'.heap[s_.1]? = some (.cells #[.int .i64 0,.slice none 0 0] 30 (0,0))) ∧ (w'.heap[s_.2]? = some (.cells #[.int .i64 0,.slice none 0 0] 30 (0,0))) ∧ (w.heap.size ≤ s_.1) ∧ (w.heap.size ≤ s_.1) ∧ (gb195 ≠ s_.1) ∧ (s_.1 ≠ gb195) ∧ (gb196 ≠ s_.1) ∧ (s_.1 ≠ gb196) ∧ (s_.2 ≠ s_.1) ∧ (s_.1 ≠ s_.2) ∧ (w.heap.size ≤ s_.2) ∧ (w.heap.size ≤ s_.2) ∧ (gb195 ≠ s_.2) ∧ (s_.2 ≠ gb195) ∧ (gb196 ≠ s_.2) ∧ (s_.2 ≠ gb196) ∧ (Below w.heap.size w w')) ?_ ?_
  rotate_left
  rotate_left
  ·skip
   rintro ⟨gb201,gb202⟩ w8 ⟨hS_,h0_,h1_,h2_,h3_,h4_,h5_,h6_,h7_,h8_,h9_,h10_,h11_,h12_,h13_,h14_,h15_,h16_,h17_,h18_,h19_⟩
   have n0_ : Aside0 (Kd.V (Kd.int .i64) 3 w8 w.heap.size (fun k_=>(P0_1_ k_ ∨ w.heap.size ≤ k_) ∧ k_ ≠ gb195 ∧ k_ ≠ gb196 ∧ k_ ≠ gb201 ∧ k_ ≠ gb202) (.slice A0_1 l0_1.length c0_1) l0_1):=⟨h0_⟩
   have n1_ : Aside0 (w8.heap[gb195]? = some (.cells #[.int .i64 a0_0,.slice A0_1 l0_1.length c0_1] 30 (0,0))):=⟨h1_⟩
   have n2_ : Aside0 (w8.heap[gb196]? = some (.cells #[.int .i64 0,.slice none 0 0] 30 (0,0))):=⟨h2_⟩
   have n3_ : Aside0 (w8.heap[gb201]? = some (.cells #[.int .i64 0,.slice none 0 0] 30 (0,0))):=⟨h3_⟩
   have n4_ : Aside0 (w8.heap[gb202]? = some (.cells #[.int .i64 0,.slice none 0 0] 30 (0,0))):=⟨h4_⟩
   have n5_ : Aside0 (w.heap.size ≤ gb201):=⟨h5_⟩
   have n6_ : Aside0 (w.heap.size ≤ gb201):=⟨h6_⟩
   have n7_ : Aside0 (gb195 ≠ gb201):=⟨h7_⟩
   have n8_ : Aside0 (gb201 ≠ gb195):=⟨h8_⟩
   have n9_ : Aside0 (gb196 ≠ gb201):=⟨h9_⟩
   have n10_ : Aside0 (gb201 ≠ gb196):=⟨h10_⟩
   have n11_ : Aside0 (gb202 ≠ gb201):=⟨h11_⟩
   have n12_ : Aside0 (gb201 ≠ gb202):=⟨h12_⟩
   have n13_ : Aside0 (w.heap.size ≤ gb202):=⟨h13_⟩
   have n14_ : Aside0 (w.heap.size ≤ gb202):=⟨h14_⟩
   have n15_ : Aside0 (gb195 ≠ gb202):=⟨h15_⟩
   have n16_ : Aside0 (gb202 ≠ gb195):=⟨h16_⟩
   have n17_ : Aside0 (gb196 ≠ gb202):=⟨h17_⟩
   have n18_ : Aside0 (gb202 ≠ gb196):=⟨h18_⟩
   have n19_ : Aside0 (Below w.heap.size w w8):=⟨h19_⟩
   clear HO0_1
   clear BK195
   clear BK196
   clear HB
   clear h0_ h1_ h2_ h3_ h4_ h5_ h6_ h7_ h8_ h9_ h10_ h11_ h12_ h13_ h14_ h15_ h16_ h17_ h18_ h19_
   have HO0_1:=n0_
   have BK195:=n1_
   have BK196:=n2_
   have BK201:=n3_
   have BK202:=n4_
   have GW201:=n5_
   have GE201:=n6_
   have NB195_201:=n7_
   have NB201_195:=n8_
   have NB196_201:=n9_
   have NB201_196:=n10_
   have NB202_201:=n11_
   have NB201_202:=n12_
   have GW202:=n13_
   have GE202:=n14_
   have NB195_202:=n15_
   have NB202_195:=n16_
   have NB196_202:=n17_
   have NB202_196:=n18_
   have HB:=n19_
   clear n0_ n1_ n2_ n3_ n4_ n5_ n6_ n7_ n8_ n9_ n10_ n11_ n12_ n13_ n14_ n15_ n16_ n17_ n18_ n19_
   have hHeld : w8.cell? ⟨gb195,0,none⟩ = some (.int .i64 a0_0) ∧ w8.cell? ⟨gb195,1,none⟩ = some (.slice A0_1 l0_1.length c0_1):=hS_
   refine norm_ (a':=?_) ?_ ?_
   rotate_left
   ·simp only [putAll,Act.put,List.setIfInBounds_toArray,List.set_cons_zero,List.set_cons_succ]
    rfl
   refine one_ (i:=5) (N:=some 13) (lb 10 255) rfl rfl (one_of HT_.out (by kernel_rfl)) (by decide) (fun K hK=>?_)
   refine goes_ Try.func57 (by kernel_rfl) rfl #[.agg #[.int .i64 a0_0,.slice A0_1 l0_1.length c0_1],.int .i64 (wrap64 (a0_0 - 1))] (by rfl) rfl rfl (by (try simp only [List.map_toArray,List.map_cons,List.map_nil]);first|done|rfl|(simp only [List.length_drop,List.length_take];rfl)) ?_
   with_reducible refine (spec_l10Mirror.calls k a0_0 _ _ l0_1 (wrap64 (a0_0 - 1)) t197 t198 _ ?side1 ?side2 A2.out).mono ?_
   (case side1=>exact cm (Kd.V_reads' HO0_1.out).2.2)
   (case side2=>exact (Kd.V_reads' HO0_1.out).2.1)
   rintro e w9 ⟨v199,rfl,ho0,hb⟩
   refine ⟨_,rfl,?_⟩
   have n0_:=Aside0.mk (Kd.V_elder' (vm HO0_1.out) (R_base ho0) hb)
   have n1_:=Aside0.mk (R_lower (R_newM (M:=fun k_=>(w.heap.size ≤ k_)) ho0 (below_size (by repeat (first|(with_reducible first|exact HB.out|apply below_alloc|apply pw_below_drewN|apply below_drew1|refine below_set ?_ GE195.out|refine below_set ?_ GE196.out|refine below_set ?_ GE201.out|refine below_set ?_ GE202.out)|exact HB.out))) (fun k_ h_=>h_)) (below_size (by repeat (first|(with_reducible first|exact HB.out|apply below_alloc|apply pw_below_drewN|apply below_drew1|refine below_set ?_ GE195.out|refine below_set ?_ GE196.out|refine below_set ?_ GE201.out|refine below_set ?_ GE202.out)|exact HB.out))))
   have n2_:=Aside0.mk (blk_below (g:=gb195) (o:=.cells #[.int .i64 a0_0,.slice A0_1 l0_1.length c0_1] 30 (0,0)) (bm BK195.out) hb)
   have n3_:=Aside0.mk (blk_below (g:=gb196) (o:=.cells #[.int .i64 0,.slice none 0 0] 30 (0,0)) (bm BK196.out) hb)
   have n4_:=Aside0.mk (blk_below (g:=gb201) (o:=.cells #[.int .i64 0,.slice none 0 0] 30 (0,0)) (bm BK201.out) hb)
   have n5_:=Aside0.mk (blk_below (g:=gb202) (o:=.cells #[.int .i64 0,.slice none 0 0] 30 (0,0)) (bm BK202.out) hb)
   have n6_:=Aside0.mk (below_step (by repeat (first|(with_reducible first|exact HB.out|apply below_alloc|apply pw_below_drewN|apply below_drew1|refine below_set ?_ GE195.out|refine below_set ?_ GE196.out|refine below_set ?_ GE201.out|refine below_set ?_ GE202.out)|exact HB.out)) hb)
   clear HO0_1
   clear BK195
   clear BK196
   clear BK201
   clear BK202
   clear HB
   have HO0_1:=n0_
   have HO200:=n1_
   have BK195:=n2_
   have BK196:=n3_
   have BK201:=n4_
   have BK202:=n5_
   have HB:=n6_
   clear n0_ n1_ n2_ n3_ n4_ n5_ n6_
   (try clear hb)
   (try clear hb2)
   (try clear hk)
   (try clear hi)
   (try clear ho0)
   refine hK.out _ _ ⟨(blk_cell BK195.out 0).trans rfl,(blk_cell BK195.out 1).trans rfl⟩ (fun hHeld=>?_)
   clear hK K
   refine norm_ (a':=?_) ?_ ?_
   rotate_left
   ·show Act.put _ (some 13) _ = _
    simp only [ap]
    rfl
   exact norm_ (by first|(simp only [putAll,Act.put,List.setIfInBounds_toArray,List.set_cons_zero,List.set_cons_succ];done)|(simp only [putAll,Act.put,List.setIfInBounds_toArray,List.set_cons_zero,List.set_cons_succ];rfl)) (hJ5_6_7 (v199,gb201,gb202) _ ⟨hHeld,(vm (Kd.V_mono HO0_1.out (fun _ hk=>⟨hk.1.1,⟨hk.2,⟨hk.1.2.1,⟨hk.1.2.2.1,⟨hk.1.2.2.2.1,hk.1.2.2.2.2⟩⟩⟩⟩⟩))),(rm (R_mono HO200.out (fun _ hk=>hk.1))),(bm BK195.out),(bm BK196.out),(bm BK201.out),(bm BK202.out),GW201.out,GE201.out,NB195_201.out,NB201_195.out,NB196_201.out,NB201_196.out,NB202_201.out,NB201_202.out,GW202.out,GE202.out,NB195_202.out,NB202_195.out,NB196_202.out,NB202_196.out,(by repeat (first|(with_reducible first|exact HB.out|apply below_alloc|apply pw_below_drewN|apply below_drew1|refine below_set ?_ GE195.out|refine below_set ?_ GE196.out|refine below_set ?_ GE201.out|refine below_set ?_ GE202.out)|exact HB.out))⟩)
  intro hJ6_7
  refine join_ (σ:=Value) 4 (lb 10 63) (fun s_=>[(13,.agg #[.int .i64 t197,s_])]) (fun s_ w'=>(w'.cell? ⟨gb195,0,none⟩ = some (.int .i64 a0_0) ∧ w'.cell? ⟨gb195,1,none⟩ = some (.slice A0_1 l0_1.length c0_1)) ∧ (Kd.V (Kd.int .i64) 3 w' w.heap.size (fun k_=>(P0_1_ k_ ∨ w.heap.size ≤ k_) ∧ some k_ ≠ (s_ : Value).ownBlock ∧ k_ ≠ gb195 ∧ k_ ≠ gb196) (.slice A0_1 l0_1.length c0_1) l0_1) ∧ (Kd.R (Kd.int .i64) 3 w' w.heap.size (fun k_=>(w.heap.size ≤ k_)) s_ t198) ∧ (w'.heap[gb195]? = some (.cells #[.int .i64 a0_0,.slice A0_1 l0_1.length c0_1] 30 (0,0))) ∧ (w'.heap[gb196]? = some (.cells #[.int .i64 0,.slice none 0 0] 30 (0,0))) ∧ (Below w.heap.size w w')) ?_ ?_
  rotate_left
  rotate_left
  ·skip
   rintro v199 w7 ⟨hS_,h0_,h1_,h2_,h3_,h4_⟩
   have n0_ : Aside0 (Kd.V (Kd.int .i64) 3 w7 w.heap.size (fun k_=>(P0_1_ k_ ∨ w.heap.size ≤ k_) ∧ some k_ ≠ (v199 : Value).ownBlock ∧ k_ ≠ gb195 ∧ k_ ≠ gb196) (.slice A0_1 l0_1.length c0_1) l0_1):=⟨h0_⟩
   have n1_ : Aside0 (Kd.R (Kd.int .i64) 3 w7 w.heap.size (fun k_=>(w.heap.size ≤ k_)) v199 t198):=⟨h1_⟩
   have n2_ : Aside0 (w7.heap[gb195]? = some (.cells #[.int .i64 a0_0,.slice A0_1 l0_1.length c0_1] 30 (0,0))):=⟨h2_⟩
   have n3_ : Aside0 (w7.heap[gb196]? = some (.cells #[.int .i64 0,.slice none 0 0] 30 (0,0))):=⟨h3_⟩
   have n4_ : Aside0 (Below w.heap.size w w7):=⟨h4_⟩
   clear HO0_1
   clear BK195
   clear BK196
   clear HB
   clear h0_ h1_ h2_ h3_ h4_
   have HO0_1:=n0_
   have HO200:=n1_
   have BK195:=n2_
   have BK196:=n3_
   have HB:=n4_
   clear n0_ n1_ n2_ n3_ n4_
   have hHeld : w7.cell? ⟨gb195,0,none⟩ = some (.int .i64 a0_0) ∧ w7.cell? ⟨gb195,1,none⟩ = some (.slice A0_1 l0_1.length c0_1):=hS_
   refine norm_ (a':=?_) ?_ ?_
   rotate_left
   ·simp only [putAll,Act.put,List.setIfInBounds_toArray,List.set_cons_zero,List.set_cons_succ]
    rfl
   refine two_ (i:=6) (j:=7) (Ni:=some 3) (Nj:=some 4) (lb 10 127) (lb 10 191) rfl rfl rfl rfl (two_of HT_.out (by kernel_rfl)) (by decide) (by decide) (fun K hK=>?_) (fun K hK=>?_)
   rotate_left
   ·skip
    refine box_step ?hg (N:=4) ?hd (cs:=#[.int .i64 0,.slice none 0 0]) (t:=30) ?hr ?_;(case hd=>rfl);(case hg=>rfl);(case hr=>first|(go_simp;done)|(go_simp;rfl))
    intro gb202 hg w8 hbox hb
    have n0_:=Aside0.mk (Kd.V_below (Kd.V_elderB (vm HO0_1.out) gb202 (Nat.le_of_eq hg.symm)) hb)
    have n1_:=Aside0.mk (R_below (rm HO200.out) hb)
    have n2_:=Aside0.mk (blk_below (g:=gb195) (o:=.cells #[.int .i64 a0_0,.slice A0_1 l0_1.length c0_1] 30 (0,0)) (bm BK195.out) hb)
    have n3_:=Aside0.mk (blk_below (g:=gb196) (o:=.cells #[.int .i64 0,.slice none 0 0] 30 (0,0)) (bm BK196.out) hb)
    have n4_:=Aside0.mk (below_step (h2 HB.out GE195.out GE196.out) hb)
    have n5_:=Aside0.mk (hbox)
    have n6_:=Aside0.mk ((by rw [hg];exact (below_size (h2 HB.out GE195.out GE196.out)) : w.heap.size ≤ gb202))
    have n7_:=Aside0.mk ((by rw [hg];exact (below_size (h2 HB.out GE195.out GE196.out)) : w.heap.size ≤ gb202))
    have n8_:=Aside0.mk ((by rw [hg];exact Nat.ne_of_lt (blk_lt (g:=gb195) (bm BK195.out)) : gb195 ≠ gb202))
    have n9_:=Aside0.mk ((by rw [hg];exact Nat.ne_of_gt (blk_lt (g:=gb195) (bm BK195.out)) : gb202 ≠ gb195))
    have n10_:=Aside0.mk ((by rw [hg];exact Nat.ne_of_lt (blk_lt (g:=gb196) (bm BK196.out)) : gb196 ≠ gb202))
    have n11_:=Aside0.mk ((by rw [hg];exact Nat.ne_of_gt (blk_lt (g:=gb196) (bm BK196.out)) : gb202 ≠ gb196))
    clear HO0_1
    clear HO200
    clear BK195
    clear BK196
    clear HB
    have HO0_1:=n0_
    have HO200:=n1_
    have BK195:=n2_
    have BK196:=n3_
    have HB:=n4_
    have BK202:=n5_
    have GW202:=n6_
    have GE202:=n7_
    have NB195_202:=n8_
    have NB202_195:=n9_
    have NB196_202:=n10_
    have NB202_196:=n11_
    clear n0_ n1_ n2_ n3_ n4_ n5_ n6_ n7_ n8_ n9_ n10_ n11_
    clear hb hbox hg
    refine hK.out _ _ ⟨(blk_cell BK195.out 0).trans rfl,(blk_cell BK195.out 1).trans rfl⟩ (fun hHeld=>?_)
    clear hK K
    refine norm_ (a':=?_) ?_ ?_
    rotate_left
    ·show Act.put _ (some 4) _ = _
     simp only [ap]
     rfl
    exact norm_ (by first|(simp only [putAll,Act.put,List.setIfInBounds_toArray,List.set_cons_zero,List.set_cons_succ];done)|(simp only [putAll,Act.put,List.setIfInBounds_toArray,List.set_cons_zero,List.set_cons_succ];rfl)) (hJ5_7 (v199,gb202) _ ⟨hHeld,(vm (Kd.V_mono HO0_1.out (fun _ hk=>⟨hk.1.1,⟨hk.1.2.1,⟨hk.1.2.2.1,⟨hk.1.2.2.2,hk.2⟩⟩⟩⟩))),(rm HO200.out),(bm BK195.out),(bm BK196.out),(bm BK202.out),GW202.out,GE202.out,NB195_202.out,NB202_195.out,NB196_202.out,NB202_196.out,(h3 HB.out GE195.out GE196.out GE202.out)⟩)
   skip
   refine box_step ?hg (N:=3) ?hd (cs:=#[.int .i64 0,.slice none 0 0]) (t:=30) ?hr ?_;(case hd=>rfl);(case hg=>rfl);(case hr=>first|(go_simp;done)|(go_simp;rfl))
   intro gb201 hg w8 hbox hb
   have n0_:=Aside0.mk (Kd.V_below (Kd.V_elderB (vm HO0_1.out) gb201 (Nat.le_of_eq hg.symm)) hb)
   have n1_:=Aside0.mk (R_below (rm HO200.out) hb)
   have n2_:=Aside0.mk (blk_below (g:=gb195) (o:=.cells #[.int .i64 a0_0,.slice A0_1 l0_1.length c0_1] 30 (0,0)) (bm BK195.out) hb)
   have n3_:=Aside0.mk (blk_below (g:=gb196) (o:=.cells #[.int .i64 0,.slice none 0 0] 30 (0,0)) (bm BK196.out) hb)
   have n4_:=Aside0.mk (below_step (h2 HB.out GE195.out GE196.out) hb)
   have n5_:=Aside0.mk (hbox)
   have n6_:=Aside0.mk ((by rw [hg];exact (below_size (h2 HB.out GE195.out GE196.out)) : w.heap.size ≤ gb201))
   have n7_:=Aside0.mk ((by rw [hg];exact (below_size (h2 HB.out GE195.out GE196.out)) : w.heap.size ≤ gb201))
   have n8_:=Aside0.mk ((by rw [hg];exact Nat.ne_of_lt (blk_lt (g:=gb195) (bm BK195.out)) : gb195 ≠ gb201))
   have n9_:=Aside0.mk ((by rw [hg];exact Nat.ne_of_gt (blk_lt (g:=gb195) (bm BK195.out)) : gb201 ≠ gb195))
   have n10_:=Aside0.mk ((by rw [hg];exact Nat.ne_of_lt (blk_lt (g:=gb196) (bm BK196.out)) : gb196 ≠ gb201))
   have n11_:=Aside0.mk ((by rw [hg];exact Nat.ne_of_gt (blk_lt (g:=gb196) (bm BK196.out)) : gb201 ≠ gb196))
   clear HO0_1
   clear HO200
   clear BK195
   clear BK196
   clear HB
   have HO0_1:=n0_
   have HO200:=n1_
   have BK195:=n2_
   have BK196:=n3_
   have HB:=n4_
   have BK201:=n5_
   have GW201:=n6_
   have GE201:=n7_
   have NB195_201:=n8_
   have NB201_195:=n9_
   have NB196_201:=n10_
   have NB201_196:=n11_
   clear n0_ n1_ n2_ n3_ n4_ n5_ n6_ n7_ n8_ n9_ n10_ n11_
   clear hb hbox hg
   refine hK.out _ _ ⟨(blk_cell BK195.out 0).trans rfl,(blk_cell BK195.out 1).trans rfl⟩ (fun hHeld=>?_)
   clear hK K
   refine norm_ (a':=?_) ?_ ?_
   rotate_left
   ·show Act.put _ (some 3) _ = _
    simp only [ap]
    rfl
   exact norm_ (by first|(simp only [putAll,Act.put,List.setIfInBounds_toArray,List.set_cons_zero,List.set_cons_succ];done)|(simp only [putAll,Act.put,List.setIfInBounds_toArray,List.set_cons_zero,List.set_cons_succ];rfl)) (hJ5_6 (v199,gb201) _ ⟨hHeld,(vm (Kd.V_mono HO0_1.out (fun _ hk=>⟨hk.1.1,⟨hk.1.2.1,⟨hk.1.2.2.1,⟨hk.1.2.2.2,hk.2⟩⟩⟩⟩))),(rm HO200.out),(bm BK195.out),(bm BK196.out),(bm BK201.out),GW201.out,GE201.out,NB195_201.out,NB201_195.out,NB196_201.out,NB201_196.out,(h3 HB.out GE195.out GE196.out GE201.out)⟩)
  intro hJ5
  refine join_ (σ:=Nat) 4 (lb 10 95) (fun s_=>[(3,.pointer (some ⟨s_,0,none⟩))]) (fun s_ w'=>(w'.cell? ⟨gb195,0,none⟩ = some (.int .i64 a0_0) ∧ w'.cell? ⟨gb195,1,none⟩ = some (.slice A0_1 l0_1.length c0_1)) ∧ (Kd.V (Kd.int .i64) 3 w' w.heap.size (fun k_=>(P0_1_ k_ ∨ w.heap.size ≤ k_) ∧ k_ ≠ gb195 ∧ k_ ≠ gb196 ∧ k_ ≠ s_) (.slice A0_1 l0_1.length c0_1) l0_1) ∧ (w'.heap[gb195]? = some (.cells #[.int .i64 a0_0,.slice A0_1 l0_1.length c0_1] 30 (0,0))) ∧ (w'.heap[gb196]? = some (.cells #[.int .i64 0,.slice none 0 0] 30 (0,0))) ∧ (w'.heap[s_]? = some (.cells #[.int .i64 0,.slice none 0 0] 30 (0,0))) ∧ (w.heap.size ≤ s_) ∧ (w.heap.size ≤ s_) ∧ (gb195 ≠ s_) ∧ (s_ ≠ gb195) ∧ (gb196 ≠ s_) ∧ (s_ ≠ gb196) ∧ (Below w.heap.size w w')) ?_ ?_
  rotate_left
  rotate_left
  ·skip
   rintro gb201 w7 ⟨hS_,h0_,h1_,h2_,h3_,h4_,h5_,h6_,h7_,h8_,h9_,h10_⟩
   have n0_ : Aside0 (Kd.V (Kd.int .i64) 3 w7 w.heap.size (fun k_=>(P0_1_ k_ ∨ w.heap.size ≤ k_) ∧ k_ ≠ gb195 ∧ k_ ≠ gb196 ∧ k_ ≠ gb201) (.slice A0_1 l0_1.length c0_1) l0_1):=⟨h0_⟩
   have n1_ : Aside0 (w7.heap[gb195]? = some (.cells #[.int .i64 a0_0,.slice A0_1 l0_1.length c0_1] 30 (0,0))):=⟨h1_⟩
   have n2_ : Aside0 (w7.heap[gb196]? = some (.cells #[.int .i64 0,.slice none 0 0] 30 (0,0))):=⟨h2_⟩
   have n3_ : Aside0 (w7.heap[gb201]? = some (.cells #[.int .i64 0,.slice none 0 0] 30 (0,0))):=⟨h3_⟩
   have n4_ : Aside0 (w.heap.size ≤ gb201):=⟨h4_⟩
   have n5_ : Aside0 (w.heap.size ≤ gb201):=⟨h5_⟩
   have n6_ : Aside0 (gb195 ≠ gb201):=⟨h6_⟩
   have n7_ : Aside0 (gb201 ≠ gb195):=⟨h7_⟩
   have n8_ : Aside0 (gb196 ≠ gb201):=⟨h8_⟩
   have n9_ : Aside0 (gb201 ≠ gb196):=⟨h9_⟩
   have n10_ : Aside0 (Below w.heap.size w w7):=⟨h10_⟩
   clear HO0_1
   clear BK195
   clear BK196
   clear HB
   clear h0_ h1_ h2_ h3_ h4_ h5_ h6_ h7_ h8_ h9_ h10_
   have HO0_1:=n0_
   have BK195:=n1_
   have BK196:=n2_
   have BK201:=n3_
   have GW201:=n4_
   have GE201:=n5_
   have NB195_201:=n6_
   have NB201_195:=n7_
   have NB196_201:=n8_
   have NB201_196:=n9_
   have HB:=n10_
   clear n0_ n1_ n2_ n3_ n4_ n5_ n6_ n7_ n8_ n9_ n10_
   have hHeld : w7.cell? ⟨gb195,0,none⟩ = some (.int .i64 a0_0) ∧ w7.cell? ⟨gb195,1,none⟩ = some (.slice A0_1 l0_1.length c0_1):=hS_
   refine norm_ (a':=?_) ?_ ?_
   rotate_left
   ·simp only [putAll,Act.put,List.setIfInBounds_toArray,List.set_cons_zero,List.set_cons_succ]
    rfl
   refine two_ (i:=5) (j:=7) (Ni:=some 13) (Nj:=some 4) (lb 10 127) (lb 10 223) rfl rfl rfl rfl (two_of HT_.out (by kernel_rfl)) (by decide) (by decide) (fun K hK=>?_) (fun K hK=>?_)
   ·skip
    refine goes_ Try.func57 (by kernel_rfl) rfl #[.agg #[.int .i64 a0_0,.slice A0_1 l0_1.length c0_1],.int .i64 (wrap64 (a0_0 - 1))] (by rfl) rfl rfl (by (try simp only [List.map_toArray,List.map_cons,List.map_nil]);first|done|rfl|(simp only [List.length_drop,List.length_take];rfl)) ?_
    with_reducible refine (spec_l10Mirror.calls k a0_0 _ _ l0_1 (wrap64 (a0_0 - 1)) t197 t198 _ ?side1 ?side2 A2.out).mono ?_
    (case side1=>exact cm (Kd.V_reads' HO0_1.out).2.2)
    (case side2=>exact (Kd.V_reads' HO0_1.out).2.1)
    rintro e w8 ⟨v199,rfl,ho0,hb⟩
    refine ⟨_,rfl,?_⟩
    have n0_:=Aside0.mk (Kd.V_elder' (vm HO0_1.out) (R_base ho0) hb)
    have n1_:=Aside0.mk (R_lower (R_newM (M:=fun k_=>(w.heap.size ≤ k_)) ho0 (below_size (h3 HB.out GE195.out GE196.out GE201.out)) (fun k_ h_=>h_)) (below_size (h3 HB.out GE195.out GE196.out GE201.out)))
    have n2_:=Aside0.mk (blk_below (g:=gb195) (o:=.cells #[.int .i64 a0_0,.slice A0_1 l0_1.length c0_1] 30 (0,0)) (bm BK195.out) hb)
    have n3_:=Aside0.mk (blk_below (g:=gb196) (o:=.cells #[.int .i64 0,.slice none 0 0] 30 (0,0)) (bm BK196.out) hb)
    have n4_:=Aside0.mk (blk_below (g:=gb201) (o:=.cells #[.int .i64 0,.slice none 0 0] 30 (0,0)) (bm BK201.out) hb)
    have n5_:=Aside0.mk (below_step (h3 HB.out GE195.out GE196.out GE201.out) hb)
    clear HO0_1
    clear BK195
    clear BK196
    clear BK201
    clear HB
    have HO0_1:=n0_
    have HO200:=n1_
    have BK195:=n2_
    have BK196:=n3_
    have BK201:=n4_
    have HB:=n5_
    clear n0_ n1_ n2_ n3_ n4_ n5_
    (try clear hb)
    (try clear hb2)
    (try clear hk)
    (try clear hi)
    (try clear ho0)
    refine hK.out _ _ ⟨(blk_cell BK195.out 0).trans rfl,(blk_cell BK195.out 1).trans rfl⟩ (fun hHeld=>?_)
    clear hK K
    refine norm_ (a':=?_) ?_ ?_
    rotate_left
    ·show Act.put _ (some 13) _ = _
     simp only [ap]
     rfl
    exact norm_ (by first|(simp only [putAll,Act.put,List.setIfInBounds_toArray,List.set_cons_zero,List.set_cons_succ];done)|(simp only [putAll,Act.put,List.setIfInBounds_toArray,List.set_cons_zero,List.set_cons_succ];rfl)) (hJ5_6 (v199,gb201) _ ⟨hHeld,(vm (Kd.V_mono HO0_1.out (fun _ hk=>⟨hk.1.1,⟨hk.2,⟨hk.1.2.1,⟨hk.1.2.2.1,hk.1.2.2.2⟩⟩⟩⟩))),(rm (R_mono HO200.out (fun _ hk=>hk.1))),(bm BK195.out),(bm BK196.out),(bm BK201.out),GW201.out,GE201.out,NB195_201.out,NB201_195.out,NB196_201.out,NB201_196.out,(h3 HB.out GE195.out GE196.out GE201.out)⟩)
   skip
   refine box_step ?hg (N:=4) ?hd (cs:=#[.int .i64 0,.slice none 0 0]) (t:=30) ?hr ?_;(case hd=>rfl);(case hg=>rfl);(case hr=>first|(go_simp;done)|(go_simp;rfl))
   intro gb202 hg w8 hbox hb
   have n0_:=Aside0.mk (Kd.V_below (Kd.V_elderB (vm HO0_1.out) gb202 (Nat.le_of_eq hg.symm)) hb)
   have n1_:=Aside0.mk (blk_below (g:=gb195) (o:=.cells #[.int .i64 a0_0,.slice A0_1 l0_1.length c0_1] 30 (0,0)) (bm BK195.out) hb)
   have n2_:=Aside0.mk (blk_below (g:=gb196) (o:=.cells #[.int .i64 0,.slice none 0 0] 30 (0,0)) (bm BK196.out) hb)
   have n3_:=Aside0.mk (blk_below (g:=gb201) (o:=.cells #[.int .i64 0,.slice none 0 0] 30 (0,0)) (bm BK201.out) hb)
   have n4_:=Aside0.mk (below_step (h3 HB.out GE195.out GE196.out GE201.out) hb)
   have n5_:=Aside0.mk (hbox)
   have n6_:=Aside0.mk ((by rw [hg];exact (below_size (h3 HB.out GE195.out GE196.out GE201.out)) : w.heap.size ≤ gb202))
   have n7_:=Aside0.mk ((by rw [hg];exact (below_size (h3 HB.out GE195.out GE196.out GE201.out)) : w.heap.size ≤ gb202))
   have n8_:=Aside0.mk ((by rw [hg];exact Nat.ne_of_lt (blk_lt (g:=gb195) (bm BK195.out)) : gb195 ≠ gb202))
   have n9_:=Aside0.mk ((by rw [hg];exact Nat.ne_of_gt (blk_lt (g:=gb195) (bm BK195.out)) : gb202 ≠ gb195))
   have n10_:=Aside0.mk ((by rw [hg];exact Nat.ne_of_lt (blk_lt (g:=gb196) (bm BK196.out)) : gb196 ≠ gb202))
   have n11_:=Aside0.mk ((by rw [hg];exact Nat.ne_of_gt (blk_lt (g:=gb196) (bm BK196.out)) : gb202 ≠ gb196))
   have n12_:=Aside0.mk ((by rw [hg];exact Nat.ne_of_lt (blk_lt (g:=gb201) (bm BK201.out)) : gb201 ≠ gb202))
   have n13_:=Aside0.mk ((by rw [hg];exact Nat.ne_of_gt (blk_lt (g:=gb201) (bm BK201.out)) : gb202 ≠ gb201))
   clear HO0_1
   clear BK195
   clear BK196
   clear BK201
   clear HB
   have HO0_1:=n0_
   have BK195:=n1_
   have BK196:=n2_
   have BK201:=n3_
   have HB:=n4_
   have BK202:=n5_
   have GW202:=n6_
   have GE202:=n7_
   have NB195_202:=n8_
   have NB202_195:=n9_
   have NB196_202:=n10_
   have NB202_196:=n11_
   have NB201_202:=n12_
   have NB202_201:=n13_
   clear n0_ n1_ n2_ n3_ n4_ n5_ n6_ n7_ n8_ n9_ n10_ n11_ n12_ n13_
   clear hb hbox hg
   refine hK.out _ _ ⟨(blk_cell BK195.out 0).trans rfl,(blk_cell BK195.out 1).trans rfl⟩ (fun hHeld=>?_)
   clear hK K
   refine norm_ (a':=?_) ?_ ?_
   rotate_left
   ·show Act.put _ (some 4) _ = _
    simp only [ap]
    rfl
   exact norm_ (by first|(simp only [putAll,Act.put,List.setIfInBounds_toArray,List.set_cons_zero,List.set_cons_succ];done)|(simp only [putAll,Act.put,List.setIfInBounds_toArray,List.set_cons_zero,List.set_cons_succ];rfl)) (hJ6_7 (gb201,gb202) _ ⟨hHeld,(vm (Kd.V_mono HO0_1.out (fun _ hk=>⟨hk.1.1,⟨hk.1.2.1,⟨hk.1.2.2.1,⟨hk.1.2.2.2,hk.2⟩⟩⟩⟩))),(bm BK195.out),(bm BK196.out),(bm BK201.out),(bm BK202.out),GW201.out,GE201.out,NB195_201.out,NB201_195.out,NB196_201.out,NB201_196.out,NB202_201.out,NB201_202.out,GW202.out,GE202.out,NB195_202.out,NB202_195.out,NB196_202.out,NB202_196.out,(by repeat (first|(with_reducible first|exact HB.out|apply below_alloc|apply pw_below_drewN|apply below_drew1|refine below_set ?_ GE195.out|refine below_set ?_ GE196.out|refine below_set ?_ GE201.out|refine below_set ?_ GE202.out)|exact HB.out))⟩)
  intro hJ6
  refine join_ (σ:=Nat) 4 (lb 10 159) (fun s_=>[(4,.pointer (some ⟨s_,0,none⟩))]) (fun s_ w'=>(w'.cell? ⟨gb195,0,none⟩ = some (.int .i64 a0_0) ∧ w'.cell? ⟨gb195,1,none⟩ = some (.slice A0_1 l0_1.length c0_1)) ∧ (Kd.V (Kd.int .i64) 3 w' w.heap.size (fun k_=>(P0_1_ k_ ∨ w.heap.size ≤ k_) ∧ k_ ≠ gb195 ∧ k_ ≠ gb196 ∧ k_ ≠ s_) (.slice A0_1 l0_1.length c0_1) l0_1) ∧ (w'.heap[gb195]? = some (.cells #[.int .i64 a0_0,.slice A0_1 l0_1.length c0_1] 30 (0,0))) ∧ (w'.heap[gb196]? = some (.cells #[.int .i64 0,.slice none 0 0] 30 (0,0))) ∧ (w'.heap[s_]? = some (.cells #[.int .i64 0,.slice none 0 0] 30 (0,0))) ∧ (w.heap.size ≤ s_) ∧ (w.heap.size ≤ s_) ∧ (gb195 ≠ s_) ∧ (s_ ≠ gb195) ∧ (gb196 ≠ s_) ∧ (s_ ≠ gb196) ∧ (Below w.heap.size w w')) ?_ ?_
  rotate_left
  ·intro hJ7
   refine three_ (i:=5) (j:=6) (k:=7) (Ni:=some 13) (Nj:=some 3) (Nk:=some 4) (lb 10 63) (lb 10 95) (lb 10 159) rfl rfl rfl rfl rfl rfl (three_of HT_.out (by kernel_rfl)) (by decide) (by decide) (by decide) (fun K hK=>?_) (fun K hK=>?_) (fun K hK=>?_)
   ·skip
    refine goes_ Try.func57 (by kernel_rfl) rfl #[.agg #[.int .i64 a0_0,.slice A0_1 l0_1.length c0_1],.int .i64 (wrap64 (a0_0 - 1))] (by rfl) rfl rfl (by (try simp only [List.map_toArray,List.map_cons,List.map_nil]);first|done|rfl|(simp only [List.length_drop,List.length_take];rfl)) ?_
    with_reducible refine (spec_l10Mirror.calls k a0_0 _ _ l0_1 (wrap64 (a0_0 - 1)) t197 t198 _ ?side1 ?side2 A2.out).mono ?_
    (case side1=>exact cm (Kd.V_reads' HO0_1.out).2.2)
    (case side2=>exact (Kd.V_reads' HO0_1.out).2.1)
    rintro e w6 ⟨v199,rfl,ho0,hb⟩
    refine ⟨_,rfl,?_⟩
    have n0_:=Aside0.mk (Kd.V_elder' (vm HO0_1.out) (R_base ho0) hb)
    have n1_:=Aside0.mk (R_lower (R_newM (M:=fun k_=>(w.heap.size ≤ k_)) ho0 (below_size (h2 HB.out GE195.out GE196.out)) (fun k_ h_=>h_)) (below_size (h2 HB.out GE195.out GE196.out)))
    have n2_:=Aside0.mk (blk_below (g:=gb195) (o:=.cells #[.int .i64 a0_0,.slice A0_1 l0_1.length c0_1] 30 (0,0)) (bm BK195.out) hb)
    have n3_:=Aside0.mk (blk_below (g:=gb196) (o:=.cells #[.int .i64 0,.slice none 0 0] 30 (0,0)) (bm BK196.out) hb)
    have n4_:=Aside0.mk (below_step (h2 HB.out GE195.out GE196.out) hb)
    clear HO0_1
    clear BK195
    clear BK196
    clear HB
    have HO0_1:=n0_
    have HO200:=n1_
    have BK195:=n2_
    have BK196:=n3_
    have HB:=n4_
    clear n0_ n1_ n2_ n3_ n4_
    (try clear hb)
    (try clear hb2)
    (try clear hk)
    (try clear hi)
    (try clear ho0)
    refine hK.out _ _ ⟨(blk_cell BK195.out 0).trans rfl,(blk_cell BK195.out 1).trans rfl⟩ (fun hHeld=>?_)
    clear hK K
    refine norm_ (a':=?_) ?_ ?_
    rotate_left
    ·show Act.put _ (some 13) _ = _
     simp only [ap]
     rfl
    exact norm_ (by first|(simp only [putAll,Act.put,List.setIfInBounds_toArray,List.set_cons_zero,List.set_cons_succ];done)|(simp only [putAll,Act.put,List.setIfInBounds_toArray,List.set_cons_zero,List.set_cons_succ];rfl)) (hJ5 (v199) _ ⟨hHeld,(vm (Kd.V_mono HO0_1.out (fun _ hk=>⟨hk.1.1.1,⟨hk.2,⟨hk.1.1.2,hk.1.2⟩⟩⟩))),(rm (R_mono HO200.out (fun _ hk=>hk.1))),(bm BK195.out),(bm BK196.out),(h2 HB.out GE195.out GE196.out)⟩)
   ·skip
    refine box_step ?hg (N:=3) ?hd (cs:=#[.int .i64 0,.slice none 0 0]) (t:=30) ?hr ?_;(case hd=>rfl);(case hg=>rfl);(case hr=>first|(go_simp;done)|(go_simp;rfl))
    intro gb201 hg w6 hbox hb
    have n0_:=Aside0.mk (Kd.V_below (Kd.V_elderB (vm HO0_1.out) gb201 (Nat.le_of_eq hg.symm)) hb)
    have n1_:=Aside0.mk (blk_below (g:=gb195) (o:=.cells #[.int .i64 a0_0,.slice A0_1 l0_1.length c0_1] 30 (0,0)) (bm BK195.out) hb)
    have n2_:=Aside0.mk (blk_below (g:=gb196) (o:=.cells #[.int .i64 0,.slice none 0 0] 30 (0,0)) (bm BK196.out) hb)
    have n3_:=Aside0.mk (below_step (h2 HB.out GE195.out GE196.out) hb)
    have n4_:=Aside0.mk (hbox)
    have n5_:=Aside0.mk ((by rw [hg];exact (below_size (h2 HB.out GE195.out GE196.out)) : w.heap.size ≤ gb201))
    have n6_:=Aside0.mk ((by rw [hg];exact (below_size (h2 HB.out GE195.out GE196.out)) : w.heap.size ≤ gb201))
    have n7_:=Aside0.mk ((by rw [hg];exact Nat.ne_of_lt (blk_lt (g:=gb195) (bm BK195.out)) : gb195 ≠ gb201))
    have n8_:=Aside0.mk ((by rw [hg];exact Nat.ne_of_gt (blk_lt (g:=gb195) (bm BK195.out)) : gb201 ≠ gb195))
    have n9_:=Aside0.mk ((by rw [hg];exact Nat.ne_of_lt (blk_lt (g:=gb196) (bm BK196.out)) : gb196 ≠ gb201))
    have n10_:=Aside0.mk ((by rw [hg];exact Nat.ne_of_gt (blk_lt (g:=gb196) (bm BK196.out)) : gb201 ≠ gb196))
    clear HO0_1
    clear BK195
    clear BK196
    clear HB
    have HO0_1:=n0_
    have BK195:=n1_
    have BK196:=n2_
    have HB:=n3_
    have BK201:=n4_
    have GW201:=n5_
    have GE201:=n6_
    have NB195_201:=n7_
    have NB201_195:=n8_
    have NB196_201:=n9_
    have NB201_196:=n10_
    clear n0_ n1_ n2_ n3_ n4_ n5_ n6_ n7_ n8_ n9_ n10_
    clear hb hbox hg
    refine hK.out _ _ ⟨(blk_cell BK195.out 0).trans rfl,(blk_cell BK195.out 1).trans rfl⟩ (fun hHeld=>?_)
    clear hK K
    refine norm_ (a':=?_) ?_ ?_
    rotate_left
    ·show Act.put _ (some 3) _ = _
     simp only [ap]
     rfl
    exact norm_ (by first|(simp only [putAll,Act.put,List.setIfInBounds_toArray,List.set_cons_zero,List.set_cons_succ];done)|(simp only [putAll,Act.put,List.setIfInBounds_toArray,List.set_cons_zero,List.set_cons_succ];rfl)) (hJ6 (gb201) _ ⟨hHeld,(vm (Kd.V_mono HO0_1.out (fun _ hk=>⟨hk.1.1.1,⟨hk.1.1.2,⟨hk.1.2,hk.2⟩⟩⟩))),(bm BK195.out),(bm BK196.out),(bm BK201.out),GW201.out,GE201.out,NB195_201.out,NB201_195.out,NB196_201.out,NB201_196.out,(h3 HB.out GE195.out GE196.out GE201.out)⟩)
   ·skip
    refine box_step ?hg (N:=4) ?hd (cs:=#[.int .i64 0,.slice none 0 0]) (t:=30) ?hr ?_;(case hd=>rfl);(case hg=>rfl);(case hr=>first|(go_simp;done)|(go_simp;rfl))
    intro gb202 hg w6 hbox hb
    have n0_:=Aside0.mk (Kd.V_below (Kd.V_elderB (vm HO0_1.out) gb202 (Nat.le_of_eq hg.symm)) hb)
    have n1_:=Aside0.mk (blk_below (g:=gb195) (o:=.cells #[.int .i64 a0_0,.slice A0_1 l0_1.length c0_1] 30 (0,0)) (bm BK195.out) hb)
    have n2_:=Aside0.mk (blk_below (g:=gb196) (o:=.cells #[.int .i64 0,.slice none 0 0] 30 (0,0)) (bm BK196.out) hb)
    have n3_:=Aside0.mk (below_step (h2 HB.out GE195.out GE196.out) hb)
    have n4_:=Aside0.mk (hbox)
    have n5_:=Aside0.mk ((by rw [hg];exact (below_size (h2 HB.out GE195.out GE196.out)) : w.heap.size ≤ gb202))
    have n6_:=Aside0.mk ((by rw [hg];exact (below_size (h2 HB.out GE195.out GE196.out)) : w.heap.size ≤ gb202))
    have n7_:=Aside0.mk ((by rw [hg];exact Nat.ne_of_lt (blk_lt (g:=gb195) (bm BK195.out)) : gb195 ≠ gb202))
    have n8_:=Aside0.mk ((by rw [hg];exact Nat.ne_of_gt (blk_lt (g:=gb195) (bm BK195.out)) : gb202 ≠ gb195))
    have n9_:=Aside0.mk ((by rw [hg];exact Nat.ne_of_lt (blk_lt (g:=gb196) (bm BK196.out)) : gb196 ≠ gb202))
    have n10_:=Aside0.mk ((by rw [hg];exact Nat.ne_of_gt (blk_lt (g:=gb196) (bm BK196.out)) : gb202 ≠ gb196))
    clear HO0_1
    clear BK195
    clear BK196
    clear HB
    have HO0_1:=n0_
    have BK195:=n1_
    have BK196:=n2_
    have HB:=n3_
    have BK202:=n4_
    have GW202:=n5_
    have GE202:=n6_
    have NB195_202:=n7_
    have NB202_195:=n8_
    have NB196_202:=n9_
    have NB202_196:=n10_
    clear n0_ n1_ n2_ n3_ n4_ n5_ n6_ n7_ n8_ n9_ n10_
    clear hb hbox hg
    refine hK.out _ _ ⟨(blk_cell BK195.out 0).trans rfl,(blk_cell BK195.out 1).trans rfl⟩ (fun hHeld=>?_)
    clear hK K
    refine norm_ (a':=?_) ?_ ?_
    rotate_left
    ·show Act.put _ (some 4) _ = _
     simp only [ap]
     rfl
    exact norm_ (by first|(simp only [putAll,Act.put,List.setIfInBounds_toArray,List.set_cons_zero,List.set_cons_succ];done)|(simp only [putAll,Act.put,List.setIfInBounds_toArray,List.set_cons_zero,List.set_cons_succ];rfl)) (hJ7 (gb202) _ ⟨hHeld,(vm (Kd.V_mono HO0_1.out (fun _ hk=>⟨hk.1.1.1,⟨hk.1.1.2,⟨hk.1.2,hk.2⟩⟩⟩))),(bm BK195.out),(bm BK196.out),(bm BK202.out),GW202.out,GE202.out,NB195_202.out,NB202_195.out,NB196_202.out,NB202_196.out,(h3 HB.out GE195.out GE196.out GE202.out)⟩)
  skip
  rintro gb202 w7 ⟨hS_,h0_,h1_,h2_,h3_,h4_,h5_,h6_,h7_,h8_,h9_,h10_⟩
  have n0_ : Aside0 (Kd.V (Kd.int .i64) 3 w7 w.heap.size (fun k_=>(P0_1_ k_ ∨ w.heap.size ≤ k_) ∧ k_ ≠ gb195 ∧ k_ ≠ gb196 ∧ k_ ≠ gb202) (.slice A0_1 l0_1.length c0_1) l0_1):=⟨h0_⟩
  have n1_ : Aside0 (w7.heap[gb195]? = some (.cells #[.int .i64 a0_0,.slice A0_1 l0_1.length c0_1] 30 (0,0))):=⟨h1_⟩
  have n2_ : Aside0 (w7.heap[gb196]? = some (.cells #[.int .i64 0,.slice none 0 0] 30 (0,0))):=⟨h2_⟩
  have n3_ : Aside0 (w7.heap[gb202]? = some (.cells #[.int .i64 0,.slice none 0 0] 30 (0,0))):=⟨h3_⟩
  have n4_ : Aside0 (w.heap.size ≤ gb202):=⟨h4_⟩
  have n5_ : Aside0 (w.heap.size ≤ gb202):=⟨h5_⟩
  have n6_ : Aside0 (gb195 ≠ gb202):=⟨h6_⟩
  have n7_ : Aside0 (gb202 ≠ gb195):=⟨h7_⟩
  have n8_ : Aside0 (gb196 ≠ gb202):=⟨h8_⟩
  have n9_ : Aside0 (gb202 ≠ gb196):=⟨h9_⟩
  have n10_ : Aside0 (Below w.heap.size w w7):=⟨h10_⟩
  clear HO0_1
  clear BK195
  clear BK196
  clear HB
  clear h0_ h1_ h2_ h3_ h4_ h5_ h6_ h7_ h8_ h9_ h10_
  have HO0_1:=n0_
  have BK195:=n1_
  have BK196:=n2_
  have BK202:=n3_
  have GW202:=n4_
  have GE202:=n5_
  have NB195_202:=n6_
  have NB202_195:=n7_
  have NB196_202:=n8_
  have NB202_196:=n9_
  have HB:=n10_
  clear n0_ n1_ n2_ n3_ n4_ n5_ n6_ n7_ n8_ n9_ n10_
  have hHeld : w7.cell? ⟨gb195,0,none⟩ = some (.int .i64 a0_0) ∧ w7.cell? ⟨gb195,1,none⟩ = some (.slice A0_1 l0_1.length c0_1):=hS_
  refine norm_ (a':=?_) ?_ ?_
  rotate_left
  ·simp only [putAll,Act.put,List.setIfInBounds_toArray,List.set_cons_zero,List.set_cons_succ]
   rfl
  refine two_ (i:=5) (j:=6) (Ni:=some 13) (Nj:=some 3) (lb 10 191) (lb 10 223) rfl rfl rfl rfl (two_of HT_.out (by kernel_rfl)) (by decide) (by decide) (fun K hK=>?_) (fun K hK=>?_)
  ·skip
   refine goes_ Try.func57 (by kernel_rfl) rfl #[.agg #[.int .i64 a0_0,.slice A0_1 l0_1.length c0_1],.int .i64 (wrap64 (a0_0 - 1))] (by rfl) rfl rfl (by (try simp only [List.map_toArray,List.map_cons,List.map_nil]);first|done|rfl|(simp only [List.length_drop,List.length_take];rfl)) ?_
   with_reducible refine (spec_l10Mirror.calls k a0_0 _ _ l0_1 (wrap64 (a0_0 - 1)) t197 t198 _ ?side1 ?side2 A2.out).mono ?_
   (case side1=>exact cm (Kd.V_reads' HO0_1.out).2.2)
   (case side2=>exact (Kd.V_reads' HO0_1.out).2.1)
   rintro e w8 ⟨v199,rfl,ho0,hb⟩
   refine ⟨_,rfl,?_⟩
   have n0_:=Aside0.mk (Kd.V_elder' (vm HO0_1.out) (R_base ho0) hb)
   have n1_:=Aside0.mk (R_lower (R_newM (M:=fun k_=>(w.heap.size ≤ k_)) ho0 (below_size (h3 HB.out GE195.out GE196.out GE202.out)) (fun k_ h_=>h_)) (below_size (h3 HB.out GE195.out GE196.out GE202.out)))
   have n2_:=Aside0.mk (blk_below (g:=gb195) (o:=.cells #[.int .i64 a0_0,.slice A0_1 l0_1.length c0_1] 30 (0,0)) (bm BK195.out) hb)
   have n3_:=Aside0.mk (blk_below (g:=gb196) (o:=.cells #[.int .i64 0,.slice none 0 0] 30 (0,0)) (bm BK196.out) hb)
   have n4_:=Aside0.mk (blk_below (g:=gb202) (o:=.cells #[.int .i64 0,.slice none 0 0] 30 (0,0)) (bm BK202.out) hb)
   have n5_:=Aside0.mk (below_step (h3 HB.out GE195.out GE196.out GE202.out) hb)
   clear HO0_1
   clear BK195
   clear BK196
   clear BK202
   clear HB
   have HO0_1:=n0_
   have HO200:=n1_
   have BK195:=n2_
   have BK196:=n3_
   have BK202:=n4_
   have HB:=n5_
   clear n0_ n1_ n2_ n3_ n4_ n5_
   (try clear hb)
   (try clear hb2)
   (try clear hk)
   (try clear hi)
   (try clear ho0)
   refine hK.out _ _ ⟨(blk_cell BK195.out 0).trans rfl,(blk_cell BK195.out 1).trans rfl⟩ (fun hHeld=>?_)
   clear hK K
   refine norm_ (a':=?_) ?_ ?_
   rotate_left
   ·show Act.put _ (some 13) _ = _
    simp only [ap]
    rfl
   exact norm_ (by first|(simp only [putAll,Act.put,List.setIfInBounds_toArray,List.set_cons_zero,List.set_cons_succ];done)|(simp only [putAll,Act.put,List.setIfInBounds_toArray,List.set_cons_zero,List.set_cons_succ];rfl)) (hJ5_7 (v199,gb202) _ ⟨hHeld,(vm (Kd.V_mono HO0_1.out (fun _ hk=>⟨hk.1.1,⟨hk.2,⟨hk.1.2.1,⟨hk.1.2.2.1,hk.1.2.2.2⟩⟩⟩⟩))),(rm (R_mono HO200.out (fun _ hk=>hk.1))),(bm BK195.out),(bm BK196.out),(bm BK202.out),GW202.out,GE202.out,NB195_202.out,NB202_195.out,NB196_202.out,NB202_196.out,(h3 HB.out GE195.out GE196.out GE202.out)⟩)
  skip
  refine box_step ?hg (N:=3) ?hd (cs:=#[.int .i64 0,.slice none 0 0]) (t:=30) ?hr ?_;(case hd=>rfl);(case hg=>rfl);(case hr=>first|(go_simp;done)|(go_simp;rfl))
  intro gb201 hg w8 hbox hb
  have n0_:=Aside0.mk (Kd.V_below (Kd.V_elderB (vm HO0_1.out) gb201 (Nat.le_of_eq hg.symm)) hb)
  have n1_:=Aside0.mk (blk_below (g:=gb195) (o:=.cells #[.int .i64 a0_0,.slice A0_1 l0_1.length c0_1] 30 (0,0)) (bm BK195.out) hb)
  have n2_:=Aside0.mk (blk_below (g:=gb196) (o:=.cells #[.int .i64 0,.slice none 0 0] 30 (0,0)) (bm BK196.out) hb)
  have n3_:=Aside0.mk (blk_below (g:=gb202) (o:=.cells #[.int .i64 0,.slice none 0 0] 30 (0,0)) (bm BK202.out) hb)
  have n4_:=Aside0.mk (below_step (h3 HB.out GE195.out GE196.out GE202.out) hb)
  have n5_:=Aside0.mk (hbox)
  have n6_:=Aside0.mk ((by rw [hg];exact (below_size (h3 HB.out GE195.out GE196.out GE202.out)) : w.heap.size ≤ gb201))
  have n7_:=Aside0.mk ((by rw [hg];exact (below_size (h3 HB.out GE195.out GE196.out GE202.out)) : w.heap.size ≤ gb201))
  have n8_:=Aside0.mk ((by rw [hg];exact Nat.ne_of_lt (blk_lt (g:=gb195) (bm BK195.out)) : gb195 ≠ gb201))
  have n9_:=Aside0.mk ((by rw [hg];exact Nat.ne_of_gt (blk_lt (g:=gb195) (bm BK195.out)) : gb201 ≠ gb195))
  have n10_:=Aside0.mk ((by rw [hg];exact Nat.ne_of_lt (blk_lt (g:=gb196) (bm BK196.out)) : gb196 ≠ gb201))
  have n11_:=Aside0.mk ((by rw [hg];exact Nat.ne_of_gt (blk_lt (g:=gb196) (bm BK196.out)) : gb201 ≠ gb196))
  have n12_:=Aside0.mk ((by rw [hg];exact Nat.ne_of_lt (blk_lt (g:=gb202) (bm BK202.out)) : gb202 ≠ gb201))
  have n13_:=Aside0.mk ((by rw [hg];exact Nat.ne_of_gt (blk_lt (g:=gb202) (bm BK202.out)) : gb201 ≠ gb202))
  clear HO0_1
  clear BK195
  clear BK196
  clear BK202
  clear HB
  have HO0_1:=n0_
  have BK195:=n1_
  have BK196:=n2_
  have BK202:=n3_
  have HB:=n4_
  have BK201:=n5_
  have GW201:=n6_
  have GE201:=n7_
  have NB195_201:=n8_
  have NB201_195:=n9_
  have NB196_201:=n10_
  have NB201_196:=n11_
  have NB202_201:=n12_
  have NB201_202:=n13_
  clear n0_ n1_ n2_ n3_ n4_ n5_ n6_ n7_ n8_ n9_ n10_ n11_ n12_ n13_
  clear hb hbox hg
  refine hK.out _ _ ⟨(blk_cell BK195.out 0).trans rfl,(blk_cell BK195.out 1).trans rfl⟩ (fun hHeld=>?_)
  clear hK K
  refine norm_ (a':=?_) ?_ ?_
  rotate_left
  ·show Act.put _ (some 3) _ = _
   simp only [ap]
   rfl
  exact norm_ (by first|(simp only [putAll,Act.put,List.setIfInBounds_toArray,List.set_cons_zero,List.set_cons_succ];done)|(simp only [putAll,Act.put,List.setIfInBounds_toArray,List.set_cons_zero,List.set_cons_succ];rfl)) (hJ6_7 (gb201,gb202) _ ⟨hHeld,(vm (Kd.V_mono HO0_1.out (fun _ hk=>⟨hk.1.1,⟨hk.1.2.1,⟨hk.1.2.2.1,⟨hk.2,hk.1.2.2.2⟩⟩⟩⟩))),(bm BK195.out),(bm BK196.out),(bm BK201.out),(bm BK202.out),GW201.out,GE201.out,NB195_201.out,NB201_195.out,NB196_201.out,NB201_196.out,NB202_201.out,NB201_202.out,GW202.out,GE202.out,NB195_202.out,NB202_195.out,NB196_202.out,NB202_196.out,(by repeat (first|(with_reducible first|exact HB.out|apply below_alloc|apply pw_below_drewN|apply below_drew1|refine below_set ?_ GE195.out|refine below_set ?_ GE196.out|refine below_set ?_ GE202.out|refine below_set ?_ GE201.out)|exact HB.out))⟩)
 rintro ⟨v199,gb201,gb202⟩ w9 ⟨hS_,h0_,h1_,h2_,h3_,h4_,h5_,h6_,h7_,h8_,h9_,h10_,h11_,h12_,h13_,h14_,h15_,h16_,h17_,h18_,h19_,h20_⟩
 have n0_ : Aside0 (Kd.V (Kd.int .i64) 3 w9 w.heap.size (fun k_=>(P0_1_ k_ ∨ w.heap.size ≤ k_) ∧ some k_ ≠ (v199 : Value).ownBlock ∧ k_ ≠ gb195 ∧ k_ ≠ gb196 ∧ k_ ≠ gb201 ∧ k_ ≠ gb202) (.slice A0_1 l0_1.length c0_1) l0_1):=⟨h0_⟩
 have n1_ : Aside0 (Kd.R (Kd.int .i64) 3 w9 w.heap.size (fun k_=>(w.heap.size ≤ k_)) v199 t198):=⟨h1_⟩
 have n2_ : Aside0 (w9.heap[gb195]? = some (.cells #[.int .i64 a0_0,.slice A0_1 l0_1.length c0_1] 30 (0,0))):=⟨h2_⟩
 have n3_ : Aside0 (w9.heap[gb196]? = some (.cells #[.int .i64 0,.slice none 0 0] 30 (0,0))):=⟨h3_⟩
 have n4_ : Aside0 (w9.heap[gb201]? = some (.cells #[.int .i64 0,.slice none 0 0] 30 (0,0))):=⟨h4_⟩
 have n5_ : Aside0 (w9.heap[gb202]? = some (.cells #[.int .i64 0,.slice none 0 0] 30 (0,0))):=⟨h5_⟩
 have n6_ : Aside0 (w.heap.size ≤ gb201):=⟨h6_⟩
 have n7_ : Aside0 (w.heap.size ≤ gb201):=⟨h7_⟩
 have n8_ : Aside0 (gb195 ≠ gb201):=⟨h8_⟩
 have n9_ : Aside0 (gb201 ≠ gb195):=⟨h9_⟩
 have n10_ : Aside0 (gb196 ≠ gb201):=⟨h10_⟩
 have n11_ : Aside0 (gb201 ≠ gb196):=⟨h11_⟩
 have n12_ : Aside0 (gb202 ≠ gb201):=⟨h12_⟩
 have n13_ : Aside0 (gb201 ≠ gb202):=⟨h13_⟩
 have n14_ : Aside0 (w.heap.size ≤ gb202):=⟨h14_⟩
 have n15_ : Aside0 (w.heap.size ≤ gb202):=⟨h15_⟩
 have n16_ : Aside0 (gb195 ≠ gb202):=⟨h16_⟩
 have n17_ : Aside0 (gb202 ≠ gb195):=⟨h17_⟩
 have n18_ : Aside0 (gb196 ≠ gb202):=⟨h18_⟩
 have n19_ : Aside0 (gb202 ≠ gb196):=⟨h19_⟩
 have n20_ : Aside0 (Below w.heap.size w w9):=⟨h20_⟩
 clear HO0_1
 clear BK195
 clear BK196
 clear HB
 clear h0_ h1_ h2_ h3_ h4_ h5_ h6_ h7_ h8_ h9_ h10_ h11_ h12_ h13_ h14_ h15_ h16_ h17_ h18_ h19_ h20_
 have HO0_1:=n0_
 have HO200:=n1_
 have BK195:=n2_
 have BK196:=n3_
 have BK201:=n4_
 have BK202:=n5_
 have GW201:=n6_
 have GE201:=n7_
 have NB195_201:=n8_
 have NB201_195:=n9_
 have NB196_201:=n10_
 have NB201_196:=n11_
 have NB202_201:=n12_
 have NB201_202:=n13_
 have GW202:=n14_
 have GE202:=n15_
 have NB195_202:=n16_
 have NB202_195:=n17_
 have NB196_202:=n18_
 have NB202_196:=n19_
 have HB:=n20_
 clear n0_ n1_ n2_ n3_ n4_ n5_ n6_ n7_ n8_ n9_ n10_ n11_ n12_ n13_ n14_ n15_ n16_ n17_ n18_ n19_ n20_
 have hHeld : w9.cell? ⟨gb195,0,none⟩ = some (.int .i64 a0_0) ∧ w9.cell? ⟨gb195,1,none⟩ = some (.slice A0_1 l0_1.length c0_1):=hS_
 obtain ⟨Ao13,co13,eo13⟩:=R_slice HO200.out
 (first|subst eo13|(injection eo13 with f1_ f2_ f3_;have f4_:=f1_.symm;have f5_:=f3_.symm;clear f1_ f2_ f3_;subst f4_;subst f5_))
 refine norm_ (a':=?_) ?_ ?_
 rotate_left
 ·simp only [putAll,Act.put,List.setIfInBounds_toArray,List.set_cons_zero,List.set_cons_succ]
  rfl
 refine one_ (i:=8) (N:=none) (lb 10 511) rfl rfl (one_of HT_.out (by kernel_rfl)) (by decide) (fun K hK=>?_)
 have hs10 : w9.cell? ⟨gb201,0,none⟩ = some (.int .i64 0):=(blk_cell BK201.out 0).trans rfl
 have hfs10:=blk_frozen BK201.out 0
 have hns10_0:=NB195_201.out
 have hns10_1:=NB196_201.out
 have hns10_3:=NB202_201.out
 have hms10_0:=NB201_195.out
 have hms10_1:=NB201_196.out
 have hms10_3:=NB201_202.out
 have hs11 : w9.cell? ⟨gb201,1,none⟩ = some (.slice none 0 0):=(blk_cell BK201.out 1).trans rfl
 have hfs11:=blk_frozen BK201.out 1
 have hns11_0:=NB195_201.out
 have hns11_1:=NB196_201.out
 have hns11_3:=NB202_201.out
 have hms11_0:=NB201_195.out
 have hms11_1:=NB201_196.out
 have hms11_3:=NB201_202.out
 refine skip_ (w1:=?_) (by rfl) rfl ?_ ?_
 rotate_left
 ·go_simp
  rfl
 refine hK.out _ _ ⟨((cell_far (p:=⟨gb201,_,none⟩) NB195_201.out _).trans (((cell_far (p:=⟨gb201,_,none⟩) NB195_201.out _).trans (hHeld.1)))),((cell_far (p:=⟨gb201,_,none⟩) NB195_201.out _).trans (((cell_far (p:=⟨gb201,_,none⟩) NB195_201.out _).trans (hHeld.2))))⟩ (fun hHeld=>?_)
 clear hK K
 refine one_ (i:=9) (N:=none) (lb 10 1023) rfl rfl (one_of HT_.out (by kernel_rfl)) (by decide) (fun K hK=>?_)
 have hs12 : w9.cell? ⟨gb202,0,none⟩ = some (.int .i64 0):=(blk_cell BK202.out 0).trans rfl
 have hfs12:=blk_frozen BK202.out 0
 have hns12_0:=NB195_202.out
 have hns12_1:=NB196_202.out
 have hns12_2:=NB201_202.out
 have hms12_0:=NB202_195.out
 have hms12_1:=NB202_196.out
 have hms12_2:=NB202_201.out
 have hs14 : w9.cell? ⟨gb202,1,none⟩ = some (.slice none 0 0):=(blk_cell BK202.out 1).trans rfl
 have hfs14:=blk_frozen BK202.out 1
 have hns14_0:=NB195_202.out
 have hns14_1:=NB196_202.out
 have hns14_2:=NB201_202.out
 have hms14_0:=NB202_195.out
 have hms14_1:=NB202_196.out
 have hms14_2:=NB202_201.out
 refine skip_ (w1:=?_) (by rfl) rfl ?_ ?_
 rotate_left
 ·go_simp
  rfl
 refine hK.out _ _ ⟨((cell_far (p:=⟨gb202,_,none⟩) NB195_202.out _).trans (((cell_far (p:=⟨gb202,_,none⟩) NB195_202.out _).trans (hHeld.1)))),((cell_far (p:=⟨gb202,_,none⟩) NB195_202.out _).trans (((cell_far (p:=⟨gb202,_,none⟩) NB195_202.out _).trans (hHeld.2))))⟩ (fun hHeld=>?_)
 clear hK K
 refine done_ (done_of HT_.out (by kernel_rfl)) ?_
 try go_wp2
 go_loopg [5] k (fun kq v5 w'=>∃ (x5_1 : Int) (x202000_1 : Int) (x202001_1 : List Int) (u202001 : Value),v5 = .int .i64 x5_1 ∧ Aside0 (spec_l10Form.l0 kq x5_1 a0_0 l0_1 x202000_1 x202001_1 t197 t198 = some (r1,r2)) ∧ Aside0 (kq ≤ k) ∧ Aside0 (Kd.V (Kd.int .i64) 3 w' w.heap.size (fun k_=>(P0_1_ k_ ∨ w.heap.size ≤ k_) ∧ some k_ ≠ ((.slice Ao13 t198.length co13) : Value).ownBlock ∧ k_ ≠ gb195 ∧ k_ ≠ gb196 ∧ k_ ≠ gb201 ∧ k_ ≠ gb202) (.slice A0_1 l0_1.length c0_1) l0_1) ∧ Aside0 (Kd.V (Kd.int .i64) 3 w' w.heap.size (fun k_=>(P0_1_ k_ ∨ w.heap.size ≤ k_) ∧ some k_ ≠ ((.slice Ao13 t198.length co13) : Value).ownBlock ∧ k_ ≠ gb195 ∧ k_ ≠ gb196 ∧ k_ ≠ gb201 ∧ k_ ≠ gb202) u202001 x202001_1) ∧ Aside0 (Kd.R (Kd.int .i64) 3 w' w.heap.size (fun k_=>(w.heap.size ≤ k_)) (.slice Ao13 t198.length co13) t198) ∧ Aside0 (w'.heap[gb195]? = some (.cells #[.int .i64 a0_0,(.slice A0_1 l0_1.length c0_1)] 30 (0,0))) ∧ Aside0 (w'.heap[gb196]? = some (.cells #[.int .i64 0,(.slice none 0 0)] 30 (0,0))) ∧ Aside0 (w'.heap[gb201]? = some (.cells #[.int .i64 x202000_1,u202001] 30 (0,0))) ∧ Aside0 (w'.heap[gb202]? = some (.cells #[.int .i64 t197,(.slice Ao13 t198.length co13)] 30 (0,0))) ∧ Aside0 (Below w.heap.size w w'))
 case atStart=>exact ⟨(0),(a0_0),(l0_1),(.slice A0_1 l0_1.length c0_1),(by first|rfl|(simp;done)|(simp [*];done)),H',⟨Nat.le_refl _⟩,⟨by (with_reducible repeat (first|apply Kd.V_alloc|apply Kd.V_drewN|apply Kd.V_drew));exact Kd.V_mono (Kd.V_far (p:=⟨gb202,1,none⟩) (Kd.V_far (p:=⟨gb202,0,none⟩) (Kd.V_far (p:=⟨gb201,1,none⟩) (Kd.V_far (p:=⟨gb201,0,none⟩) (Kd.V_mono (Kd.V_mono HO0_1.out (fun k_ hk=>(⟨hk,hk.2.2.2.2.1⟩ : _ ∧ k_ ≠ gb201))) (fun k_ hk=>(⟨hk,hk.1.2.2.2.2.2⟩ : _ ∧ k_ ≠ gb202))) (fun _ hk=>hk.1.2) (.int .i64 a0_0)) (fun _ hk=>hk.1.2) (.slice A0_1 l0_1.length c0_1)) (fun _ hk=>hk.2) (.int .i64 t197)) (fun _ hk=>hk.2) (.slice Ao13 t198.length co13)) (fun _ hk=>⟨hk.1.1.1,⟨hk.1.1.2.1,⟨hk.1.1.2.2.1,⟨hk.1.1.2.2.2.1,⟨hk.1.1.2.2.2.2.1,hk.1.1.2.2.2.2.2⟩⟩⟩⟩⟩)⟩,⟨by (with_reducible repeat (first|apply Kd.V_alloc|apply Kd.V_drewN|apply Kd.V_drew));exact Kd.V_mono (Kd.V_far (p:=⟨gb202,1,none⟩) (Kd.V_far (p:=⟨gb202,0,none⟩) (Kd.V_far (p:=⟨gb201,1,none⟩) (Kd.V_far (p:=⟨gb201,0,none⟩) (Kd.V_mono (Kd.V_mono HO0_1.out (fun k_ hk=>(⟨hk,hk.2.2.2.2.1⟩ : _ ∧ k_ ≠ gb201))) (fun k_ hk=>(⟨hk,hk.1.2.2.2.2.2⟩ : _ ∧ k_ ≠ gb202))) (fun _ hk=>hk.1.2) (.int .i64 a0_0)) (fun _ hk=>hk.1.2) (.slice A0_1 l0_1.length c0_1)) (fun _ hk=>hk.2) (.int .i64 t197)) (fun _ hk=>hk.2) (.slice Ao13 t198.length co13)) (fun _ hk=>⟨hk.1.1.1,⟨hk.1.1.2.1,⟨hk.1.1.2.2.1,⟨hk.1.1.2.2.2.1,⟨hk.1.1.2.2.2.2.1,hk.1.1.2.2.2.2.2⟩⟩⟩⟩⟩)⟩,⟨by (with_reducible repeat (first|apply R_alloc|apply R_drewN|apply R_drew));exact R_mono (R_far (p:=⟨gb202,1,none⟩) (R_far (p:=⟨gb202,0,none⟩) (R_far (p:=⟨gb201,1,none⟩) (R_far (p:=⟨gb201,0,none⟩) (R_types (R_types HO200.out BK201.out (by decide)) BK202.out (by decide)) (fun _ hk=>hk.1.2) (.int .i64 a0_0)) (fun _ hk=>hk.1.2) (.slice A0_1 l0_1.length c0_1)) (fun _ hk=>hk.2) (.int .i64 t197)) (fun _ hk=>hk.2) (.slice Ao13 t198.length co13)) (fun _ hk=>hk.1.1)⟩,⟨by (with_reducible repeat (first|apply blk_drewN|apply blk_drew|apply blk_alloc));refine blk_far ?_ NB195_202.out _;(with_reducible repeat (first|apply blk_drewN|apply blk_drew|apply blk_alloc));refine blk_far ?_ NB195_202.out _;(with_reducible repeat (first|apply blk_drewN|apply blk_drew|apply blk_alloc));refine blk_far ?_ NB195_201.out _;(with_reducible repeat (first|apply blk_drewN|apply blk_drew|apply blk_alloc));refine blk_far ?_ NB195_201.out _;(with_reducible repeat (first|apply blk_drewN|apply blk_drew|apply blk_alloc));exact BK195.out⟩,⟨by (with_reducible repeat (first|apply blk_drewN|apply blk_drew|apply blk_alloc));refine blk_far ?_ NB196_202.out _;(with_reducible repeat (first|apply blk_drewN|apply blk_drew|apply blk_alloc));refine blk_far ?_ NB196_202.out _;(with_reducible repeat (first|apply blk_drewN|apply blk_drew|apply blk_alloc));refine blk_far ?_ NB196_201.out _;(with_reducible repeat (first|apply blk_drewN|apply blk_drew|apply blk_alloc));refine blk_far ?_ NB196_201.out _;(with_reducible repeat (first|apply blk_drewN|apply blk_drew|apply blk_alloc));exact BK196.out⟩,⟨by (with_reducible repeat (first|apply blk_drewN|apply blk_drew|apply blk_alloc));refine blk_far ?_ NB201_202.out _;(with_reducible repeat (first|apply blk_drewN|apply blk_drew|apply blk_alloc));refine blk_far ?_ NB201_202.out _;(with_reducible repeat (first|apply blk_drewN|apply blk_drew|apply blk_alloc));refine blk_put (cs:=#[.int .i64 a0_0,.slice none 0 0]) ?_ 1 _ rfl;(with_reducible repeat (first|apply blk_drewN|apply blk_drew|apply blk_alloc));refine blk_put (cs:=#[.int .i64 0,.slice none 0 0]) ?_ 0 _ rfl;(with_reducible repeat (first|apply blk_drewN|apply blk_drew|apply blk_alloc));exact BK201.out⟩,⟨by (with_reducible repeat (first|apply blk_drewN|apply blk_drew|apply blk_alloc));refine blk_put (cs:=#[.int .i64 t197,.slice none 0 0]) ?_ 1 _ rfl;(with_reducible repeat (first|apply blk_drewN|apply blk_drew|apply blk_alloc));refine blk_put (cs:=#[.int .i64 0,.slice none 0 0]) ?_ 0 _ rfl;(with_reducible repeat (first|apply blk_drewN|apply blk_drew|apply blk_alloc));refine blk_far ?_ NB202_201.out _;(with_reducible repeat (first|apply blk_drewN|apply blk_drew|apply blk_alloc));refine blk_far ?_ NB202_201.out _;(with_reducible repeat (first|apply blk_drewN|apply blk_drew|apply blk_alloc));exact BK202.out⟩,⟨by repeat (first|(with_reducible first|exact HB.out|apply below_alloc|apply pw_below_drewN|apply below_drew1|refine below_set ?_ GE195.out|refine below_set ?_ GE196.out|refine below_set ?_ GE201.out|refine below_set ?_ GE202.out)|exact HB.out)⟩⟩
 clear H'
 try clear p2
 try clear c5
 try clear p6
 obtain ⟨x5_1,x202000_1,x202001_1,u202001,rfl,HA,HK1,HO_196001,HO_202001,HO_203001,BK195,BK196,BK201,BK202,HB⟩:=hrel
 cases gk with
 | zero=>exact absurd HA.out (by simp [spec_l10Form.l0])
 | succ k1 =>
  have H:=HA.out
  clear HA
  simp only [spec_l10Form.l0] at H
  by_cases c15 : x5_1 < a0_0
  rotate_left
  ·rw [if_neg c15] at H
   have c15b0 : decide (x5_1 < a0_0) = false:=decide_eq_false c15
   clear c15
   replace H:=Option.bind_eq_some_iff.mp H
   obtain ⟨t203,A860,H⟩:=H
   replace H : (some (x202000_1,t203)) = some (r1,r2):=H
   have A86:=Aside0.mk A860
   clear A860
   simp only [Option.some.injEq,Prod.mk.injEq] at H
   obtain ⟨rfl,rfl⟩:=H
   have hnb87:=NB195_196.out
   have hnc87:=NB196_195.out
   have hnb88:=NB195_201.out
   have hnc88:=NB201_195.out
   have hnb89:=NB195_202.out
   have hnc89:=NB202_195.out
   have hcz90_0 : wr.cell? ⟨gb195,0,none⟩ = some (.int .i64 a0_0):=(blk_cell BK195.out 0).trans rfl
   have hcz90_1 : wr.cell? ⟨gb195,1,none⟩ = some (.slice A0_1 l0_1.length c0_1):=(blk_cell BK195.out 1).trans rfl
   have hfz90_0:=blk_frozen BK195.out 0
   have hfz90_1:=blk_frozen BK195.out 1
   try go_wp2
   have n0_:=Aside0.mk (Kd.V_drew HO_196001.out)
   have n1_:=Aside0.mk (Kd.V_drew HO_202001.out)
   have n2_:=Aside0.mk (R_drew HO_203001.out)
   have n3_:=Aside0.mk (blk_drew BK195.out)
   have n4_:=Aside0.mk (blk_drew BK196.out)
   have n5_:=Aside0.mk (blk_drew BK201.out)
   have n6_:=Aside0.mk (blk_drew BK202.out)
   have n7_:=Aside0.mk (below_drew1 HB.out)
   clear HO_196001
   clear HO_202001
   clear HO_203001
   clear BK195
   clear BK196
   clear BK201
   clear BK202
   clear HB
   have HO_196001:=n0_
   have HO_202001:=n1_
   have HO_203001:=n2_
   have BK195:=n3_
   have BK196:=n4_
   have BK201:=n5_
   have BK202:=n6_
   have HB:=n7_
   clear n0_ n1_ n2_ n3_ n4_ n5_ n6_ n7_
   obtain ⟨Ao92,co92,eo92⟩:=Kd.V_slice HO_202001.out
   (first|subst eo92|(injection eo92 with f1_ f2_ f3_;have f4_:=f1_.symm;have f5_:=f3_.symm;clear f1_ f2_ f3_;subst f4_;subst f5_))
   refine start_ (n:=7) (S:=fun w'=>w'.cell? ⟨gb201,0,none⟩ = some (.int .i64 x202000_1) ∧ w'.cell? ⟨gb201,1,none⟩ = some (.slice Ao92 x202001_1.length co92)) (ds:=[]) (lb 7 0) (by kernel_rfl) rfl rfl ⟨(blk_cell BK201.out 0).trans rfl,(blk_cell BK201.out 1).trans rfl⟩ (fun hHeld=>?_)
   generalize wr.drew = w91 at HO_196001 HO_202001 HO_203001 BK195 BK196 BK201 BK202 HB hHeld ⊢
   refine pure_ (i:=0) (N:=some 38) (v:=?_) (a':=?_) (lb 7 1) rfl rfl (by kernel_rfl) (fun _ _ _ h=>h) (Or.inl ⟨by rfl,?_⟩) ?_ ?_
   rotate_left
   ·intro w'
    go_simp
    with_reducible rfl
   rotate_left
   ·simp only [ap]
    rfl
   refine pure_ (i:=2) (N:=some 40) (v:=?_) (a':=?_) (lb 7 5) rfl rfl (by kernel_rfl) (fun _ _ _ h=>h) (Or.inl ⟨by rfl,?_⟩) ?_ ?_
   rotate_left
   ·intro w'
    go_simp
    with_reducible rfl
   rotate_left
   ·simp only [ap]
    rfl
   refine take_ (i:=1) (N:=some 39) (v:=?_) (a':=?_) (lb 7 7) rfl rfl (by kernel_rfl) (fun _ _ _ h=>h) (Or.inl ⟨by rfl,?_⟩) hHeld ?_ ?_
   rotate_left
   ·rintro w' ⟨s0,s1⟩
    go_simp
    with_reducible rfl
   rotate_left
   ·simp only [ap]
    rfl
   refine take_ (i:=3) (N:=some 41) (v:=?_) (a':=?_) (lb 7 15) rfl rfl (by kernel_rfl) (fun _ _ _ h=>h) (Or.inl ⟨by rfl,?_⟩) hHeld ?_ ?_
   rotate_left
   ·rintro w' ⟨s0,s1⟩
    go_simp
    with_reducible rfl
   rotate_left
   ·simp only [ap]
    rfl
   refine one_ (i:=4) (N:=some 42) (lb 7 31) rfl rfl (by kernel_rfl) (by decide) (fun K hK=>?_)
   refine goes_ Try.func79 (by kernel_rfl) rfl #[.slice Ao92 x202001_1.length co92] (by rfl) rfl rfl (by (try simp only [List.map_toArray,List.map_cons,List.map_nil]);first|done|rfl|(simp only [List.length_drop,List.length_take];rfl)) ?_
   with_reducible refine (spec_l1Own.calls _ _ x202001_1 t203 _ ?side1 ?side2 A86.out).mono ?_
   (case side1=>exact cm (Kd.V_reads' HO_202001.out).2.2)
   (case side2=>exact (Kd.V_reads' HO_202001.out).2.1)
   rintro e w93 ⟨v204,rfl,ho0,hb⟩
   refine ⟨_,rfl,?_⟩
   have n0_:=Aside0.mk (Kd.V_elder' (vm HO_196001.out) (R_base ho0) hb)
   have n1_:=Aside0.mk (Kd.V_elder' (vm HO_202001.out) (R_base ho0) hb)
   have n2_:=Aside0.mk (R_elder' (rm HO_203001.out) (R_base ho0) hb)
   have n3_:=Aside0.mk (R_lower (R_new' (R_newM (M:=fun k_=>(w.heap.size ≤ k_)) ho0 (below_size (by repeat (first|(with_reducible first|exact HB.out|apply below_alloc|apply pw_below_drewN|apply below_drew1|refine below_set ?_ GE195.out|refine below_set ?_ GE196.out|refine below_set ?_ GE201.out|refine below_set ?_ GE202.out)|exact HB.out))) (fun k_ h_=>h_)) (R_lt (rm HO_203001.out))) (below_size (by repeat (first|(with_reducible first|exact HB.out|apply below_alloc|apply pw_below_drewN|apply below_drew1|refine below_set ?_ GE195.out|refine below_set ?_ GE196.out|refine below_set ?_ GE201.out|refine below_set ?_ GE202.out)|exact HB.out))))
   have n4_:=Aside0.mk (blk_below (g:=gb195) (o:=.cells #[.int .i64 a0_0,.slice A0_1 l0_1.length c0_1] 30 (0,0)) (bm BK195.out) hb)
   have n5_:=Aside0.mk (blk_below (g:=gb196) (o:=.cells #[.int .i64 0,.slice none 0 0] 30 (0,0)) (bm BK196.out) hb)
   have n6_:=Aside0.mk (blk_below (g:=gb201) (o:=.cells #[.int .i64 x202000_1,.slice Ao92 x202001_1.length co92] 30 (0,0)) (bm BK201.out) hb)
   have n7_:=Aside0.mk (blk_below (g:=gb202) (o:=.cells #[.int .i64 t197,.slice Ao13 t198.length co13] 30 (0,0)) (bm BK202.out) hb)
   have n8_:=Aside0.mk (below_step (by repeat (first|(with_reducible first|exact HB.out|apply below_alloc|apply pw_below_drewN|apply below_drew1|refine below_set ?_ GE195.out|refine below_set ?_ GE196.out|refine below_set ?_ GE201.out|refine below_set ?_ GE202.out)|exact HB.out)) hb)
   clear HO_196001
   clear HO_202001
   clear HO_203001
   clear BK195
   clear BK196
   clear BK201
   clear BK202
   clear HB
   have HO_196001:=n0_
   have HO_202001:=n1_
   have HO_203001:=n2_
   have HO205:=n3_
   have BK195:=n4_
   have BK196:=n5_
   have BK201:=n6_
   have BK202:=n7_
   have HB:=n8_
   clear n0_ n1_ n2_ n3_ n4_ n5_ n6_ n7_ n8_
   (try clear hb)
   (try clear hb2)
   (try clear hk)
   (try clear hi)
   (try clear ho0)
   obtain ⟨Ao94,co94,eo94⟩:=R_slice HO205.out
   (first|subst eo94|(injection eo94 with f1_ f2_ f3_;have f4_:=f1_.symm;have f5_:=f3_.symm;clear f1_ f2_ f3_;subst f4_;subst f5_))
   refine hK.out _ _ ⟨(blk_cell BK201.out 0).trans rfl,(blk_cell BK201.out 1).trans rfl⟩ (fun hHeld=>?_)
   clear hK K
   refine norm_ (a':=?_) ?_ ?_
   rotate_left
   ·show Act.put _ (some 42) _ = _
    simp only [ap]
    rfl
   refine pure_ (i:=5) (N:=some 43) (v:=?_) (a':=?_) (lb 7 63) rfl rfl (by kernel_rfl) (fun _ _ _ h=>h) (Or.inl ⟨by rfl,?_⟩) ?_ ?_
   rotate_left
   ·intro w'
    go_simp
    with_reducible rfl
   rotate_left
   ·simp only [ap]
    rfl
   refine one_ (i:=6) (N:=none) (lb 7 127) rfl rfl (by kernel_rfl) (by decide) (fun K hK=>?_)
   have hs95 : w93.cell? ⟨gb196,0,none⟩ = some (.int .i64 0):=(blk_cell BK196.out 0).trans rfl
   have hfs95:=blk_frozen BK196.out 0
   have hns95_0:=NB195_196.out
   have hns95_2:=NB201_196.out
   have hns95_3:=NB202_196.out
   have hms95_0:=NB196_195.out
   have hms95_2:=NB196_201.out
   have hms95_3:=NB196_202.out
   have hs96 : w93.cell? ⟨gb196,1,none⟩ = some (.slice none 0 0):=(blk_cell BK196.out 1).trans rfl
   have hfs96:=blk_frozen BK196.out 1
   have hns96_0:=NB195_196.out
   have hns96_2:=NB201_196.out
   have hns96_3:=NB202_196.out
   have hms96_0:=NB196_195.out
   have hms96_2:=NB196_201.out
   have hms96_3:=NB196_202.out
   refine skip_ (w1:=?_) (by rfl) rfl ?_ ?_
   rotate_left
   ·go_simp
    rfl
   refine hK.out _ _ ⟨((cell_far (p:=⟨gb196,_,none⟩) NB201_196.out _).trans (((cell_far (p:=⟨gb196,_,none⟩) NB201_196.out _).trans (hHeld.1)))),((cell_far (p:=⟨gb196,_,none⟩) NB201_196.out _).trans (((cell_far (p:=⟨gb196,_,none⟩) NB201_196.out _).trans (hHeld.2))))⟩ (fun hHeld=>?_)
   clear hK K
   refine done_ (by kernel_rfl) ?_
   try go_wp2
   refine bodyPost_ret (results_cell_row rfl _ _ gb196 30 #[.int .i64 x202000_1,.slice Ao94 t203.length co94] (0,0) _ rfl (by (with_reducible repeat (first|apply blk_drewN|apply blk_drew|apply blk_alloc));refine blk_put (cs:=#[.int .i64 x202000_1,.slice none 0 0]) ?_ 1 _ rfl;(with_reducible repeat (first|apply blk_drewN|apply blk_drew|apply blk_alloc));refine blk_put (cs:=#[.int .i64 0,.slice none 0 0]) ?_ 0 _ rfl;(with_reducible repeat (first|apply blk_drewN|apply blk_drew|apply blk_alloc));exact BK196.out) Try.underlying30 rfl (by kernel_rfl)) rfl ?_
   exact ⟨_,by first|rfl|(simp [errW_none,errW_some] <;> rfl)|(simp [*,errW_none,errW_some] <;> rfl),by (with_reducible repeat (first|apply R_alloc|apply R_drewN|apply R_drew));exact R_mono (R_far (p:=⟨gb196,1,none⟩) (R_far (p:=⟨gb196,0,none⟩) (R_types HO205.out BK196.out (by decide)) (fun _ hk=>hk.2) (.int .i64 x202000_1)) (fun _ hk=>hk.2) (.slice Ao94 t203.length co94)) (fun _ hk=>hk.1.1.1),by repeat (first|(with_reducible first|exact HB.out|apply below_alloc|apply pw_below_drewN|apply below_drew1|refine below_set ?_ GE195.out|refine below_set ?_ GE196.out|refine below_set ?_ GE201.out|refine below_set ?_ GE202.out)|exact HB.out)⟩
  rw [if_pos c15] at H
  have c15b0 : decide (x5_1 < a0_0) = true:=decide_eq_true c15
  clear c15
  replace H:=Option.bind_eq_some_iff.mp H
  obtain ⟨⟨t206,t207⟩,A160,H⟩:=H
  replace H : ((spec_l10Less.f k1 t207 x202001_1).bind fun t211=>(if t211 = true then (spec_l10Form.j1 k1 x5_1 a0_0 l0_1 t206 t207 t197 t198) else (spec_l10Form.j1 k1 x5_1 a0_0 l0_1 x202000_1 x202001_1 t197 t198))) = some (r1,r2):=H
  have A16:=Aside0.mk A160
  clear A160
  replace H:=Option.bind_eq_some_iff.mp H
  obtain ⟨t211,A170,H⟩:=H
  replace H : (if t211 = true then (spec_l10Form.j1 k1 x5_1 a0_0 l0_1 t206 t207 t197 t198) else (spec_l10Form.j1 k1 x5_1 a0_0 l0_1 x202000_1 x202001_1 t197 t198)) = some (r1,r2):=H
  have A17:=Aside0.mk A170
  clear A170
  have HC18:=Aside0.mk H
  clear H
  have hnb19:=NB195_196.out
  have hnc19:=NB196_195.out
  have hnb20:=NB195_201.out
  have hnc20:=NB201_195.out
  have hnb21:=NB195_202.out
  have hnc21:=NB202_195.out
  have hcz22_0 : wr.cell? ⟨gb195,0,none⟩ = some (.int .i64 a0_0):=(blk_cell BK195.out 0).trans rfl
  have hcz22_1 : wr.cell? ⟨gb195,1,none⟩ = some (.slice A0_1 l0_1.length c0_1):=(blk_cell BK195.out 1).trans rfl
  have hfz22_0:=blk_frozen BK195.out 0
  have hfz22_1:=blk_frozen BK195.out 1
  go_upto_if 27 with (first|((with_reducible refine gate_callee (f:=60) rfl ?_);refine goesL_ (some 22) rfl rfl Try.func60 (by kernel_rfl) rfl #[.agg #[.int .i64 a0_0,.slice A0_1 l0_1.length c0_1],.int .i64 x5_1] rfl (by (try simp only [List.map_toArray,List.map_cons,List.map_nil]);first|done|rfl|(simp only [List.length_drop,List.length_take];rfl)) ?_;(with_reducible refine (turnedV.calls k1 a0_0 _ _ l0_1 x5_1 t206 t207 _ ?side1 ?side2 A16.out).mono ?_);(case side1=>exact cm (Kd.V_reads' HO_196001.out).2.2);(case side2=>exact (Kd.V_reads' HO_196001.out).2.1);rintro e w23 ⟨v208,rfl,ho0,hb⟩;refine ⟨_,rfl,?_⟩;have n0_:=Aside0.mk (Kd.V_below (vm HO_196001.out) hb);have n1_:=Aside0.mk (Kd.V_below (vm HO_202001.out) hb);have n2_:=Aside0.mk (R_below (rm HO_203001.out) hb);have n3_:=Aside0.mk (Kd.V_lower (Kd.V_mono (ok':=fun k_=>(P0_1_ k_ ∨ w.heap.size ≤ k_) ∧ some k_ ≠ (.slice Ao13 t198.length co13 : Value).ownBlock ∧ k_ ≠ gb195 ∧ k_ ≠ gb196 ∧ k_ ≠ gb201 ∧ k_ ≠ gb202) ho0 (fun k_ hk_=>⟨(.inr (Nat.le_trans (below_size (by repeat (first|(with_reducible first|exact HB.out|apply below_alloc|apply pw_below_drewN|apply below_drew1|refine below_set ?_ GE195.out|refine below_set ?_ GE196.out|refine below_set ?_ GE201.out|refine below_set ?_ GE202.out)|exact HB.out))) hk_)),(Kd.fresh' (R_lt (rm HO_203001.out)) k_ hk_),(Kd.freshB (g:=gb195) (o:=.cells #[.int .i64 a0_0,.slice A0_1 l0_1.length c0_1] 30 (0,0)) (bm BK195.out) k_ hk_),(Kd.freshB (g:=gb196) (o:=.cells #[.int .i64 0,.slice none 0 0] 30 (0,0)) (bm BK196.out) k_ hk_),(Kd.freshB (g:=gb201) (o:=.cells #[.int .i64 x202000_1,u202001] 30 (0,0)) (bm BK201.out) k_ hk_),(Kd.freshB (g:=gb202) (o:=.cells #[.int .i64 t197,.slice Ao13 t198.length co13] 30 (0,0)) (bm BK202.out) k_ hk_)⟩)) (below_size (by repeat (first|(with_reducible first|exact HB.out|apply below_alloc|apply pw_below_drewN|apply below_drew1|refine below_set ?_ GE195.out|refine below_set ?_ GE196.out|refine below_set ?_ GE201.out|refine below_set ?_ GE202.out)|exact HB.out))));have n4_:=Aside0.mk (blk_below (g:=gb195) (o:=.cells #[.int .i64 a0_0,.slice A0_1 l0_1.length c0_1] 30 (0,0)) (bm BK195.out) hb);have n5_:=Aside0.mk (blk_below (g:=gb196) (o:=.cells #[.int .i64 0,.slice none 0 0] 30 (0,0)) (bm BK196.out) hb);have n6_:=Aside0.mk (blk_below (g:=gb201) (o:=.cells #[.int .i64 x202000_1,u202001] 30 (0,0)) (bm BK201.out) hb);have n7_:=Aside0.mk (blk_below (g:=gb202) (o:=.cells #[.int .i64 t197,.slice Ao13 t198.length co13] 30 (0,0)) (bm BK202.out) hb);have n8_:=Aside0.mk (below_step (by repeat (first|(with_reducible first|exact HB.out|apply below_alloc|apply pw_below_drewN|apply below_drew1|refine below_set ?_ GE195.out|refine below_set ?_ GE196.out|refine below_set ?_ GE201.out|refine below_set ?_ GE202.out)|exact HB.out)) hb);clear HO_196001;clear HO_202001;clear HO_203001;clear BK195;clear BK196;clear BK201;clear BK202;clear HB;have HO_196001:=n0_;have HO_202001:=n1_;have HO_203001:=n2_;have HO209:=n3_;have BK195:=n4_;have BK196:=n5_;have BK201:=n6_;have BK202:=n7_;have HB:=n8_;clear n0_ n1_ n2_ n3_ n4_ n5_ n6_ n7_ n8_;(try clear hb);(try clear hb2);(try clear hk);(try clear hi);(try clear ho0))|((with_reducible refine gate_dst (N:=6) rfl ?_);refine box_event ?hg (N:=6) ?hd (cs:=#[.int .i64 0,.slice none 0 0]) (t:=30) ?hr ?_;(case hd=>rfl);(case hg=>rfl);(case hr=>first|(go_simp;done)|(go_simp;rfl));intro gb210 hg w24 hbox hb;have n0_:=Aside0.mk (Kd.V_below (Kd.V_elderB (vm HO_196001.out) gb210 (Nat.le_of_eq hg.symm)) hb);have n1_:=Aside0.mk (Kd.V_below (Kd.V_elderB (vm HO_202001.out) gb210 (Nat.le_of_eq hg.symm)) hb);have n2_:=Aside0.mk (R_below (rm HO_203001.out) hb);have n3_:=Aside0.mk (Kd.V_below (Kd.V_elderB (vm HO209.out) gb210 (Nat.le_of_eq hg.symm)) hb);have n4_:=Aside0.mk (blk_below (g:=gb195) (o:=.cells #[.int .i64 a0_0,.slice A0_1 l0_1.length c0_1] 30 (0,0)) (bm BK195.out) hb);have n5_:=Aside0.mk (blk_below (g:=gb196) (o:=.cells #[.int .i64 0,.slice none 0 0] 30 (0,0)) (bm BK196.out) hb);have n6_:=Aside0.mk (blk_below (g:=gb201) (o:=.cells #[.int .i64 x202000_1,u202001] 30 (0,0)) (bm BK201.out) hb);have n7_:=Aside0.mk (blk_below (g:=gb202) (o:=.cells #[.int .i64 t197,.slice Ao13 t198.length co13] 30 (0,0)) (bm BK202.out) hb);have n8_:=Aside0.mk (below_step (by repeat (first|(with_reducible first|exact HB.out|apply below_alloc|apply pw_below_drewN|apply below_drew1|refine below_set ?_ GE195.out|refine below_set ?_ GE196.out|refine below_set ?_ GE201.out|refine below_set ?_ GE202.out)|exact HB.out)) hb);have n9_:=Aside0.mk (hbox);have n10_:=Aside0.mk ((by rw [hg];exact (below_size (by repeat (first|(with_reducible first|exact HB.out|apply below_alloc|apply pw_below_drewN|apply below_drew1|refine below_set ?_ GE195.out|refine below_set ?_ GE196.out|refine below_set ?_ GE201.out|refine below_set ?_ GE202.out)|exact HB.out))) : w.heap.size ≤ gb210));have n11_:=Aside0.mk ((by rw [hg];exact (below_size (by repeat (first|(with_reducible first|exact HB.out|apply below_alloc|apply pw_below_drewN|apply below_drew1|refine below_set ?_ GE195.out|refine below_set ?_ GE196.out|refine below_set ?_ GE201.out|refine below_set ?_ GE202.out)|exact HB.out))) : w.heap.size ≤ gb210));have n12_:=Aside0.mk ((by rw [hg];exact Nat.ne_of_lt (blk_lt (g:=gb195) (bm BK195.out)) : gb195 ≠ gb210));have n13_:=Aside0.mk ((by rw [hg];exact Nat.ne_of_gt (blk_lt (g:=gb195) (bm BK195.out)) : gb210 ≠ gb195));have n14_:=Aside0.mk ((by rw [hg];exact Nat.ne_of_lt (blk_lt (g:=gb196) (bm BK196.out)) : gb196 ≠ gb210));have n15_:=Aside0.mk ((by rw [hg];exact Nat.ne_of_gt (blk_lt (g:=gb196) (bm BK196.out)) : gb210 ≠ gb196));have n16_:=Aside0.mk ((by rw [hg];exact Nat.ne_of_lt (blk_lt (g:=gb201) (bm BK201.out)) : gb201 ≠ gb210));have n17_:=Aside0.mk ((by rw [hg];exact Nat.ne_of_gt (blk_lt (g:=gb201) (bm BK201.out)) : gb210 ≠ gb201));have n18_:=Aside0.mk ((by rw [hg];exact Nat.ne_of_lt (blk_lt (g:=gb202) (bm BK202.out)) : gb202 ≠ gb210));have n19_:=Aside0.mk ((by rw [hg];exact Nat.ne_of_gt (blk_lt (g:=gb202) (bm BK202.out)) : gb210 ≠ gb202));clear HO_196001;clear HO_202001;clear HO_203001;clear HO209;clear BK195;clear BK196;clear BK201;clear BK202;clear HB;have HO_196001:=n0_;have HO_202001:=n1_;have HO_203001:=n2_;have HO209:=n3_;have BK195:=n4_;have BK196:=n5_;have BK201:=n6_;have BK202:=n7_;have HB:=n8_;have BK210:=n9_;have GW210:=n10_;have GE210:=n11_;have NB195_210:=n12_;have NB210_195:=n13_;have NB196_210:=n14_;have NB210_196:=n15_;have NB201_210:=n16_;have NB210_201:=n17_;have NB202_210:=n18_;have NB210_202:=n19_;clear n0_ n1_ n2_ n3_ n4_ n5_ n6_ n7_ n8_ n9_ n10_ n11_ n12_ n13_ n14_ n15_ n16_ n17_ n18_ n19_;clear hb hbox hg;have hnb25:=NB210_195.out;have hnc25:=NB195_210.out;have hnb26:=NB210_196.out;have hnc26:=NB196_210.out;have hnb27:=NB210_201.out;have hnc27:=NB201_210.out;have hnb28:=NB210_202.out;have hnc28:=NB202_210.out;have hcz29_0 : w24.cell? ⟨gb210,0,none⟩ = some (.int .i64 0):=(blk_cell BK210.out 0).trans rfl;have hcz29_1 : w24.cell? ⟨gb210,1,none⟩ = some (.slice none 0 0):=(blk_cell BK210.out 1).trans rfl;have hfz29_0:=blk_frozen BK210.out 0;have hfz29_1:=blk_frozen BK210.out 1;obtain ⟨Ao30,co30,eo30⟩:=Kd.V_slice HO209.out;subst eo30;have hnb31:=NB201_196.out;have hnc31:=NB196_201.out;have hnb32:=NB201_202.out;have hnc32:=NB202_201.out;have hcz33_0 : w24.cell? ⟨gb201,0,none⟩ = some (.int .i64 x202000_1):=(blk_cell BK201.out 0).trans rfl;have hcz33_1 : w24.cell? ⟨gb201,1,none⟩ = some (u202001):=(blk_cell BK201.out 1).trans rfl;have hfz33_0:=blk_frozen BK201.out 0;have hfz33_1:=blk_frozen BK201.out 1;obtain ⟨Ao34,co34,eo34⟩:=Kd.V_slice HO_202001.out;subst eo34)|((with_reducible refine gate_callee (f:=72) rfl ?_);refine goesL_ (some 27) rfl rfl Try.func72 (by kernel_rfl) rfl #[.slice Ao30 t207.length co30,.slice Ao34 x202001_1.length co34] rfl (by (try simp only [List.map_toArray,List.map_cons,List.map_nil]);first|done|rfl|(simp only [List.length_drop,List.length_take];rfl)) ?_;(with_reducible refine (spec_l10Less.calls k1 _ _ t207 _ _ x202001_1 t211 _ ?side1 ?side2 ?side3 ?side4 A17.out).mono ?_);(case side1=>refine (Kd.V_reads' (e:=3) (base:=w.heap.size) (ok:=fun k_=>(((P0_1_ k_ ∨ w.heap.size ≤ k_) ∧ (some k_ ≠ (.slice Ao13 t198.length co13 : Value).ownBlock ∧ (k_ ≠ gb195 ∧ (k_ ≠ gb196 ∧ (k_ ≠ gb201 ∧ k_ ≠ gb202))))) ∧ k_ ≠ gb210)) (n:=t207.length) (c:=co30) ?_).2.2;exact (by (with_reducible repeat (first|apply Kd.V_alloc|apply Kd.V_drewN|apply Kd.V_drew));exact (Kd.V_mono (Kd.V_far (p:=⟨gb210,1,none⟩) (Kd.V_far (p:=⟨gb210,0,none⟩) (Kd.V_mono HO209.out (fun k_ hk=>(⟨hk,hk.2⟩ : _ ∧ k_ ≠ gb210))) (fun _ hk=>hk.2) (.int .i64 t206)) (fun _ hk=>hk.2) (.slice Ao30 t207.length co30)) (fun _ h_=>h_.1))));(case side2=>exact (Kd.V_reads' HO209.out).2.1);(case side3=>refine (Kd.V_reads' (e:=3) (base:=w.heap.size) (ok:=fun k_=>(((P0_1_ k_ ∨ w.heap.size ≤ k_) ∧ (some k_ ≠ (.slice Ao13 t198.length co13 : Value).ownBlock ∧ (k_ ≠ gb195 ∧ (k_ ≠ gb196 ∧ (k_ ≠ gb201 ∧ k_ ≠ gb202))))) ∧ k_ ≠ gb210)) (n:=x202001_1.length) (c:=co34) ?_).2.2;exact (by (with_reducible repeat (first|apply Kd.V_alloc|apply Kd.V_drewN|apply Kd.V_drew));exact (Kd.V_mono (Kd.V_far (p:=⟨gb210,1,none⟩) (Kd.V_far (p:=⟨gb210,0,none⟩) (Kd.V_mono HO_202001.out (fun k_ hk=>(⟨hk,hk.2⟩ : _ ∧ k_ ≠ gb210))) (fun _ hk=>hk.2) (.int .i64 t206)) (fun _ hk=>hk.2) (.slice Ao30 t207.length co30)) (fun _ h_=>h_.1))));(case side4=>exact (Kd.V_reads' HO_202001.out).2.1);rintro e w' ⟨rfl,⟨nd,rfl⟩⟩;refine ⟨_,rfl,?_⟩))
  (try simp only [ap])
  go_cut [] (fun wc=>∃ (kq : Nat) (x202000_17 : Int) (x202001_17 : List Int) (u202001 : Value),Aside0 (spec_l10Form.j1 kq x5_1 a0_0 l0_1 x202000_17 x202001_17 t197 t198 = some (r1,r2)) ∧ Aside0 (kq ≤ k1) ∧ Aside0 (Kd.V (Kd.int .i64) 3 wc w.heap.size (fun k_=>(P0_1_ k_ ∨ w.heap.size ≤ k_) ∧ some k_ ≠ ((.slice Ao13 t198.length co13) : Value).ownBlock ∧ k_ ≠ gb195 ∧ k_ ≠ gb196 ∧ k_ ≠ gb201 ∧ k_ ≠ gb202 ∧ k_ ≠ gb210) (.slice A0_1 l0_1.length c0_1) l0_1) ∧ Aside0 (Kd.V (Kd.int .i64) 3 wc w.heap.size (fun k_=>(P0_1_ k_ ∨ w.heap.size ≤ k_) ∧ some k_ ≠ ((.slice Ao13 t198.length co13) : Value).ownBlock ∧ k_ ≠ gb195 ∧ k_ ≠ gb196 ∧ k_ ≠ gb201 ∧ k_ ≠ gb202 ∧ k_ ≠ gb210) u202001 x202001_17) ∧ Aside0 (Kd.R (Kd.int .i64) 3 wc w.heap.size (fun k_=>(w.heap.size ≤ k_)) (.slice Ao13 t198.length co13) t198) ∧ Aside0 (Kd.V (Kd.int .i64) 3 wc w.heap.size (fun k_=>(P0_1_ k_ ∨ w.heap.size ≤ k_) ∧ some k_ ≠ ((.slice Ao13 t198.length co13) : Value).ownBlock ∧ k_ ≠ gb195 ∧ k_ ≠ gb196 ∧ k_ ≠ gb201 ∧ k_ ≠ gb202 ∧ k_ ≠ gb210) (.slice Ao30 t207.length co30) t207) ∧ Aside0 (wc.heap[gb195]? = some (.cells #[.int .i64 a0_0,(.slice A0_1 l0_1.length c0_1)] 30 (0,0))) ∧ Aside0 (wc.heap[gb196]? = some (.cells #[.int .i64 0,(.slice none 0 0)] 30 (0,0))) ∧ Aside0 (wc.heap[gb201]? = some (.cells #[.int .i64 x202000_17,u202001] 30 (0,0))) ∧ Aside0 (wc.heap[gb202]? = some (.cells #[.int .i64 t197,(.slice Ao13 t198.length co13)] 30 (0,0))) ∧ Aside0 (wc.heap[gb210]? = some (.cells #[.int .i64 t206,(.slice Ao30 t207.length co30)] 30 (0,0))) ∧ Aside0 (Below w.heap.size w wc))
  case first =>
   have H:=HC18.out
   clear HC18
   by_cases c35 : t211 = true
   rotate_left
   ·replace c35:=Bool.eq_false_iff.mpr c35
    subst c35
    have H1 : (spec_l10Form.j1 k1 x5_1 a0_0 l0_1 x202000_1 x202001_1 t197 t198) = some (r1,r2):=by rw [if_neg (show ¬ (false = true) by decide)] at H;exact H
    clear H
    have H:=H1
    clear H1
    have H':=Aside0.mk H
    clear H
    go_wp2
    go_meet
    case rel=>exact ⟨_,(x202000_1),(x202001_1),(.slice Ao34 x202001_1.length co34),H',⟨by have:=HK1.out;first|omega|exact Nat.le_refl _⟩,⟨by (with_reducible repeat (first|apply Kd.V_alloc|apply Kd.V_drewN|apply Kd.V_drew));exact Kd.V_mono (Kd.V_far (p:=⟨gb210,1,none⟩) (Kd.V_far (p:=⟨gb210,0,none⟩) (Kd.V_mono HO_196001.out (fun k_ hk=>(⟨hk,hk.2⟩ : _ ∧ k_ ≠ gb210))) (fun _ hk=>hk.2) (.int .i64 t206)) (fun _ hk=>hk.2) (.slice Ao30 t207.length co30)) (fun _ hk=>⟨hk.1.1.1,⟨hk.1.1.2.1,⟨hk.1.1.2.2.1,⟨hk.1.1.2.2.2.1,⟨hk.1.1.2.2.2.2.1,⟨hk.1.1.2.2.2.2.2,hk.1.2⟩⟩⟩⟩⟩⟩)⟩,⟨by (with_reducible repeat (first|apply Kd.V_alloc|apply Kd.V_drewN|apply Kd.V_drew));exact Kd.V_mono (Kd.V_far (p:=⟨gb210,1,none⟩) (Kd.V_far (p:=⟨gb210,0,none⟩) (Kd.V_mono HO_202001.out (fun k_ hk=>(⟨hk,hk.2⟩ : _ ∧ k_ ≠ gb210))) (fun _ hk=>hk.2) (.int .i64 t206)) (fun _ hk=>hk.2) (.slice Ao30 t207.length co30)) (fun _ hk=>⟨hk.1.1.1,⟨hk.1.1.2.1,⟨hk.1.1.2.2.1,⟨hk.1.1.2.2.2.1,⟨hk.1.1.2.2.2.2.1,⟨hk.1.1.2.2.2.2.2,hk.1.2⟩⟩⟩⟩⟩⟩)⟩,⟨by (with_reducible repeat (first|apply R_alloc|apply R_drewN|apply R_drew));exact R_mono (R_far (p:=⟨gb210,1,none⟩) (R_far (p:=⟨gb210,0,none⟩) (R_types HO_203001.out BK210.out (by decide)) (fun _ hk=>hk.2) (.int .i64 t206)) (fun _ hk=>hk.2) (.slice Ao30 t207.length co30)) (fun _ hk=>hk.1)⟩,⟨by (with_reducible repeat (first|apply Kd.V_alloc|apply Kd.V_drewN|apply Kd.V_drew));exact Kd.V_mono (Kd.V_far (p:=⟨gb210,1,none⟩) (Kd.V_far (p:=⟨gb210,0,none⟩) (Kd.V_mono HO209.out (fun k_ hk=>(⟨hk,hk.2⟩ : _ ∧ k_ ≠ gb210))) (fun _ hk=>hk.2) (.int .i64 t206)) (fun _ hk=>hk.2) (.slice Ao30 t207.length co30)) (fun _ hk=>⟨hk.1.1.1,⟨hk.1.1.2.1,⟨hk.1.1.2.2.1,⟨hk.1.1.2.2.2.1,⟨hk.1.1.2.2.2.2.1,⟨hk.1.1.2.2.2.2.2,hk.1.2⟩⟩⟩⟩⟩⟩)⟩,⟨by (with_reducible repeat (first|apply blk_drewN|apply blk_drew|apply blk_alloc));refine blk_far ?_ NB195_210.out _;(with_reducible repeat (first|apply blk_drewN|apply blk_drew|apply blk_alloc));refine blk_far ?_ NB195_210.out _;(with_reducible repeat (first|apply blk_drewN|apply blk_drew|apply blk_alloc));exact BK195.out⟩,⟨by (with_reducible repeat (first|apply blk_drewN|apply blk_drew|apply blk_alloc));refine blk_far ?_ NB196_210.out _;(with_reducible repeat (first|apply blk_drewN|apply blk_drew|apply blk_alloc));refine blk_far ?_ NB196_210.out _;(with_reducible repeat (first|apply blk_drewN|apply blk_drew|apply blk_alloc));exact BK196.out⟩,⟨by (with_reducible repeat (first|apply blk_drewN|apply blk_drew|apply blk_alloc));refine blk_far ?_ NB201_210.out _;(with_reducible repeat (first|apply blk_drewN|apply blk_drew|apply blk_alloc));refine blk_far ?_ NB201_210.out _;(with_reducible repeat (first|apply blk_drewN|apply blk_drew|apply blk_alloc));exact BK201.out⟩,⟨by (with_reducible repeat (first|apply blk_drewN|apply blk_drew|apply blk_alloc));refine blk_far ?_ NB202_210.out _;(with_reducible repeat (first|apply blk_drewN|apply blk_drew|apply blk_alloc));refine blk_far ?_ NB202_210.out _;(with_reducible repeat (first|apply blk_drewN|apply blk_drew|apply blk_alloc));exact BK202.out⟩,⟨by (with_reducible repeat (first|apply blk_drewN|apply blk_drew|apply blk_alloc));refine blk_put (cs:=#[.int .i64 t206,.slice none 0 0]) ?_ 1 _ rfl;(with_reducible repeat (first|apply blk_drewN|apply blk_drew|apply blk_alloc));refine blk_put (cs:=#[.int .i64 0,.slice none 0 0]) ?_ 0 _ rfl;(with_reducible repeat (first|apply blk_drewN|apply blk_drew|apply blk_alloc));exact BK210.out⟩,⟨by repeat (first|(with_reducible first|exact HB.out|apply below_alloc|apply pw_below_drewN|apply below_drew1|refine below_set ?_ GE195.out|refine below_set ?_ GE196.out|refine below_set ?_ GE201.out|refine below_set ?_ GE202.out|refine below_set ?_ GE210.out)|exact HB.out)⟩⟩
   subst c35
   have H1 : (spec_l10Form.j1 k1 x5_1 a0_0 l0_1 t206 t207 t197 t198) = some (r1,r2):=by rw [if_pos rfl] at H;exact H
   clear H
   have H:=H1
   clear H1
   have H':=Aside0.mk H
   clear H
   have hnb36:=NB210_195.out
   have hnc36:=NB195_210.out
   have hnb37:=NB210_196.out
   have hnc37:=NB196_210.out
   have hnb38:=NB210_201.out
   have hnc38:=NB201_210.out
   have hnb39:=NB210_202.out
   have hnc39:=NB202_210.out
   have hcz40_0 : w24.cell? ⟨gb210,0,none⟩ = some (.int .i64 0):=(blk_cell BK210.out 0).trans rfl
   have hcz40_1 : w24.cell? ⟨gb210,1,none⟩ = some (.slice none 0 0):=(blk_cell BK210.out 1).trans rfl
   have hfz40_0:=blk_frozen BK210.out 0
   have hfz40_1:=blk_frozen BK210.out 1
   have hnb41:=NB201_195.out
   have hnc41:=NB195_201.out
   have hnb42:=NB201_196.out
   have hnc42:=NB196_201.out
   have hnb43:=NB201_202.out
   have hnc43:=NB202_201.out
   have hcz44_0 : w24.cell? ⟨gb201,0,none⟩ = some (.int .i64 x202000_1):=(blk_cell BK201.out 0).trans rfl
   have hcz44_1 : w24.cell? ⟨gb201,1,none⟩ = some (.slice Ao34 x202001_1.length co34):=(blk_cell BK201.out 1).trans rfl
   have hfz44_0:=blk_frozen BK201.out 0
   have hfz44_1:=blk_frozen BK201.out 1
   go_wp2
   go_meet
   case rel=>exact ⟨_,(t206),(t207),(.slice Ao30 t207.length co30),H',⟨by have:=HK1.out;first|omega|exact Nat.le_refl _⟩,⟨by (with_reducible repeat (first|apply Kd.V_alloc|apply Kd.V_drewN|apply Kd.V_drew));exact Kd.V_mono (Kd.V_far (p:=⟨gb201,1,none⟩) (Kd.V_far (p:=⟨gb201,0,none⟩) (Kd.V_far (p:=⟨gb210,1,none⟩) (Kd.V_far (p:=⟨gb210,0,none⟩) (Kd.V_mono (Kd.V_mono HO_196001.out (fun k_ hk=>(⟨hk,hk.2⟩ : _ ∧ k_ ≠ gb210))) (fun k_ hk=>(⟨hk,hk.1.1.2.2.2.2.1⟩ : _ ∧ k_ ≠ gb201))) (fun _ hk=>hk.1.2) (.int .i64 t206)) (fun _ hk=>hk.1.2) (.slice Ao30 t207.length co30)) (fun _ hk=>hk.2) (.int .i64 t206)) (fun _ hk=>hk.2) (.slice Ao30 t207.length co30)) (fun _ hk=>⟨hk.1.1.1.1,⟨hk.1.1.1.2.1,⟨hk.1.1.1.2.2.1,⟨hk.1.1.1.2.2.2.1,⟨hk.1.1.1.2.2.2.2.1,⟨hk.1.1.1.2.2.2.2.2,hk.1.1.2⟩⟩⟩⟩⟩⟩)⟩,⟨by (with_reducible repeat (first|apply Kd.V_alloc|apply Kd.V_drewN|apply Kd.V_drew));exact Kd.V_mono (Kd.V_far (p:=⟨gb201,1,none⟩) (Kd.V_far (p:=⟨gb201,0,none⟩) (Kd.V_far (p:=⟨gb210,1,none⟩) (Kd.V_far (p:=⟨gb210,0,none⟩) (Kd.V_mono (Kd.V_mono HO209.out (fun k_ hk=>(⟨hk,hk.2⟩ : _ ∧ k_ ≠ gb210))) (fun k_ hk=>(⟨hk,hk.1.1.2.2.2.2.1⟩ : _ ∧ k_ ≠ gb201))) (fun _ hk=>hk.1.2) (.int .i64 t206)) (fun _ hk=>hk.1.2) (.slice Ao30 t207.length co30)) (fun _ hk=>hk.2) (.int .i64 t206)) (fun _ hk=>hk.2) (.slice Ao30 t207.length co30)) (fun _ hk=>⟨hk.1.1.1.1,⟨hk.1.1.1.2.1,⟨hk.1.1.1.2.2.1,⟨hk.1.1.1.2.2.2.1,⟨hk.1.1.1.2.2.2.2.1,⟨hk.1.1.1.2.2.2.2.2,hk.1.1.2⟩⟩⟩⟩⟩⟩)⟩,⟨by (with_reducible repeat (first|apply R_alloc|apply R_drewN|apply R_drew));exact R_mono (R_far (p:=⟨gb201,1,none⟩) (R_far (p:=⟨gb201,0,none⟩) (R_far (p:=⟨gb210,1,none⟩) (R_far (p:=⟨gb210,0,none⟩) (R_types (R_types HO_203001.out BK210.out (by decide)) BK201.out (by decide)) (fun _ hk=>hk.1.2) (.int .i64 t206)) (fun _ hk=>hk.1.2) (.slice Ao30 t207.length co30)) (fun _ hk=>hk.2) (.int .i64 t206)) (fun _ hk=>hk.2) (.slice Ao30 t207.length co30)) (fun _ hk=>hk.1.1)⟩,⟨by (with_reducible repeat (first|apply Kd.V_alloc|apply Kd.V_drewN|apply Kd.V_drew));exact Kd.V_mono (Kd.V_far (p:=⟨gb201,1,none⟩) (Kd.V_far (p:=⟨gb201,0,none⟩) (Kd.V_far (p:=⟨gb210,1,none⟩) (Kd.V_far (p:=⟨gb210,0,none⟩) (Kd.V_mono (Kd.V_mono HO209.out (fun k_ hk=>(⟨hk,hk.2⟩ : _ ∧ k_ ≠ gb210))) (fun k_ hk=>(⟨hk,hk.1.1.2.2.2.2.1⟩ : _ ∧ k_ ≠ gb201))) (fun _ hk=>hk.1.2) (.int .i64 t206)) (fun _ hk=>hk.1.2) (.slice Ao30 t207.length co30)) (fun _ hk=>hk.2) (.int .i64 t206)) (fun _ hk=>hk.2) (.slice Ao30 t207.length co30)) (fun _ hk=>⟨hk.1.1.1.1,⟨hk.1.1.1.2.1,⟨hk.1.1.1.2.2.1,⟨hk.1.1.1.2.2.2.1,⟨hk.1.1.1.2.2.2.2.1,⟨hk.1.1.1.2.2.2.2.2,hk.1.1.2⟩⟩⟩⟩⟩⟩)⟩,⟨by (with_reducible repeat (first|apply blk_drewN|apply blk_drew|apply blk_alloc));refine blk_far ?_ NB195_201.out _;(with_reducible repeat (first|apply blk_drewN|apply blk_drew|apply blk_alloc));refine blk_far ?_ NB195_201.out _;(with_reducible repeat (first|apply blk_drewN|apply blk_drew|apply blk_alloc));refine blk_far ?_ NB195_210.out _;(with_reducible repeat (first|apply blk_drewN|apply blk_drew|apply blk_alloc));refine blk_far ?_ NB195_210.out _;(with_reducible repeat (first|apply blk_drewN|apply blk_drew|apply blk_alloc));exact BK195.out⟩,⟨by (with_reducible repeat (first|apply blk_drewN|apply blk_drew|apply blk_alloc));refine blk_far ?_ NB196_201.out _;(with_reducible repeat (first|apply blk_drewN|apply blk_drew|apply blk_alloc));refine blk_far ?_ NB196_201.out _;(with_reducible repeat (first|apply blk_drewN|apply blk_drew|apply blk_alloc));refine blk_far ?_ NB196_210.out _;(with_reducible repeat (first|apply blk_drewN|apply blk_drew|apply blk_alloc));refine blk_far ?_ NB196_210.out _;(with_reducible repeat (first|apply blk_drewN|apply blk_drew|apply blk_alloc));exact BK196.out⟩,⟨by (with_reducible repeat (first|apply blk_drewN|apply blk_drew|apply blk_alloc));refine blk_put (cs:=#[.int .i64 t206,.slice Ao34 x202001_1.length co34]) ?_ 1 _ rfl;(with_reducible repeat (first|apply blk_drewN|apply blk_drew|apply blk_alloc));refine blk_put (cs:=#[.int .i64 x202000_1,.slice Ao34 x202001_1.length co34]) ?_ 0 _ rfl;(with_reducible repeat (first|apply blk_drewN|apply blk_drew|apply blk_alloc));refine blk_far ?_ NB201_210.out _;(with_reducible repeat (first|apply blk_drewN|apply blk_drew|apply blk_alloc));refine blk_far ?_ NB201_210.out _;(with_reducible repeat (first|apply blk_drewN|apply blk_drew|apply blk_alloc));exact BK201.out⟩,⟨by (with_reducible repeat (first|apply blk_drewN|apply blk_drew|apply blk_alloc));refine blk_far ?_ NB202_201.out _;(with_reducible repeat (first|apply blk_drewN|apply blk_drew|apply blk_alloc));refine blk_far ?_ NB202_201.out _;(with_reducible repeat (first|apply blk_drewN|apply blk_drew|apply blk_alloc));refine blk_far ?_ NB202_210.out _;(with_reducible repeat (first|apply blk_drewN|apply blk_drew|apply blk_alloc));refine blk_far ?_ NB202_210.out _;(with_reducible repeat (first|apply blk_drewN|apply blk_drew|apply blk_alloc));exact BK202.out⟩,⟨by (with_reducible repeat (first|apply blk_drewN|apply blk_drew|apply blk_alloc));refine blk_far ?_ NB210_201.out _;(with_reducible repeat (first|apply blk_drewN|apply blk_drew|apply blk_alloc));refine blk_far ?_ NB210_201.out _;(with_reducible repeat (first|apply blk_drewN|apply blk_drew|apply blk_alloc));refine blk_put (cs:=#[.int .i64 t206,.slice none 0 0]) ?_ 1 _ rfl;(with_reducible repeat (first|apply blk_drewN|apply blk_drew|apply blk_alloc));refine blk_put (cs:=#[.int .i64 0,.slice none 0 0]) ?_ 0 _ rfl;(with_reducible repeat (first|apply blk_drewN|apply blk_drew|apply blk_alloc));exact BK210.out⟩,⟨by repeat (first|(with_reducible first|exact HB.out|apply below_alloc|apply pw_below_drewN|apply below_drew1|refine below_set ?_ GE195.out|refine below_set ?_ GE196.out|refine below_set ?_ GE201.out|refine below_set ?_ GE202.out|refine below_set ?_ GE210.out)|exact HB.out)⟩⟩
  clear HC18
  try clear c1
  try clear c2
  try clear p2
  try clear c3
  try clear c4
  try clear c5
  try clear p6
  try clear c7
  try clear c10
  try clear c15
  try clear c15b0
  try clear c19
  try clear c20
  try clear c21
  try clear c25
  try clear c26
  try clear c27
  try clear c28
  try clear c31
  try clear c32
  try clear c35
  try clear c36
  try clear c37
  try clear c38
  try clear c39
  try clear c41
  try clear c42
  try clear c43
  try clear hcz22_0
  try clear hcz22_1
  try clear hcz29_0
  try clear hcz29_1
  try clear hcz33_0
  try clear hcz33_1
  try clear hcz40_0
  try clear hcz40_1
  try clear hcz44_0
  try clear hcz44_1
  try clear hfz22_0
  try clear hfz22_1
  try clear hfz29_0
  try clear hfz29_1
  try clear hfz33_0
  try clear hfz33_1
  try clear hfz40_0
  try clear hfz40_1
  try clear hfz44_0
  try clear hfz44_1
  try clear p2
  try clear p6
  obtain ⟨kq,x202000_17,x202001_17,u202001,HA,HJ17,HO_196001,HO_202001,HO_203001,HO_211001,BK195,BK196,BK201,BK202,BK210,HB⟩:=hcut
  cases kq with
  | zero=>exact absurd HA.out (by simp [spec_l10Form.j1])
  | succ kj17 =>
   have H:=HA.out
   clear HA
   simp only [spec_l10Form.j1] at H
   replace H:=Option.bind_eq_some_iff.mp H
   obtain ⟨⟨t212,t213⟩,A450,H⟩:=H
   replace H : ((spec_l10Less.f kj17 t213 x202001_17).bind fun t217=>(if t217 = true then (spec_l10Form.l0 kj17 (wrap64 (x5_1 + 1)) a0_0 l0_1 t212 t213 t197 t198) else (spec_l10Form.l0 kj17 (wrap64 (x5_1 + 1)) a0_0 l0_1 x202000_17 x202001_17 t197 t198))) = some (r1,r2):=H
   have A45:=Aside0.mk A450
   clear A450
   replace H:=Option.bind_eq_some_iff.mp H
   obtain ⟨t217,A460,H⟩:=H
   replace H : (if t217 = true then (spec_l10Form.l0 kj17 (wrap64 (x5_1 + 1)) a0_0 l0_1 t212 t213 t197 t198) else (spec_l10Form.l0 kj17 (wrap64 (x5_1 + 1)) a0_0 l0_1 x202000_17 x202001_17 t197 t198)) = some (r1,r2):=H
   have A46:=Aside0.mk A460
   clear A460
   by_cases c47 : t217 = true
   rotate_left
   ·replace c47:=Bool.eq_false_iff.mpr c47
    subst c47
    have H1 : (spec_l10Form.l0 kj17 (wrap64 (x5_1 + 1)) a0_0 l0_1 x202000_17 x202001_17 t197 t198) = some (r1,r2):=by rw [if_neg (show ¬ (false = true) by decide)] at H;exact H
    clear H
    have H:=H1
    clear H1
    have H':=Aside0.mk H
    clear H
    have hnb67:=NB202_195.out
    have hnc67:=NB195_202.out
    have hnb68:=NB202_196.out
    have hnc68:=NB196_202.out
    have hnb69:=NB202_201.out
    have hnc69:=NB201_202.out
    have hnb70:=NB202_210.out
    have hnc70:=NB210_202.out
    have hcz71_0 : wc.cell? ⟨gb202,0,none⟩ = some (.int .i64 t197):=(blk_cell BK202.out 0).trans rfl
    have hcz71_1 : wc.cell? ⟨gb202,1,none⟩ = some (.slice Ao13 t198.length co13):=(blk_cell BK202.out 1).trans rfl
    have hfz71_0:=blk_frozen BK202.out 0
    have hfz71_1:=blk_frozen BK202.out 1
    go_wp2_with (first|((with_reducible refine gate_callee (f:=60) rfl ?_);refine goesL_ (some 31) rfl rfl Try.func60 (by kernel_rfl) rfl #[.agg #[.int .i64 t197,.slice Ao13 t198.length co13],.int .i64 x5_1] rfl (by (try simp only [List.map_toArray,List.map_cons,List.map_nil]);first|done|rfl|(simp only [List.length_drop,List.length_take];rfl)) ?_;(with_reducible refine (turnedV.calls kj17 t197 _ _ t198 x5_1 t212 t213 _ ?side1 ?side2 A45.out).mono ?_);(case side1=>exact cm (R_reads' HO_203001.out).2.2);(case side2=>exact (R_reads' HO_203001.out).2.1);rintro e w72 ⟨v214,rfl,ho0,hb⟩;refine ⟨_,rfl,?_⟩;have n0_:=Aside0.mk (Kd.V_below (vm HO_196001.out) hb);have n1_:=Aside0.mk (Kd.V_below (vm HO_202001.out) hb);have n2_:=Aside0.mk (R_below (rm HO_203001.out) hb);have n3_:=Aside0.mk (Kd.V_below (vm HO_211001.out) hb);have n4_:=Aside0.mk (Kd.V_lower (Kd.V_mono (ok':=fun k_=>(P0_1_ k_ ∨ w.heap.size ≤ k_) ∧ some k_ ≠ (.slice Ao13 t198.length co13 : Value).ownBlock ∧ k_ ≠ gb195 ∧ k_ ≠ gb196 ∧ k_ ≠ gb201 ∧ k_ ≠ gb202 ∧ k_ ≠ gb210) ho0 (fun k_ hk_=>⟨(.inr (Nat.le_trans (below_size (by repeat (first|(with_reducible first|exact HB.out|apply below_alloc|apply pw_below_drewN|apply below_drew1|refine below_set ?_ GE195.out|refine below_set ?_ GE196.out|refine below_set ?_ GE201.out|refine below_set ?_ GE202.out|refine below_set ?_ GE210.out)|exact HB.out))) hk_)),(Kd.fresh' (R_lt (rm HO_203001.out)) k_ hk_),(Kd.freshB (g:=gb195) (o:=.cells #[.int .i64 a0_0,.slice A0_1 l0_1.length c0_1] 30 (0,0)) (bm BK195.out) k_ hk_),(Kd.freshB (g:=gb196) (o:=.cells #[.int .i64 0,.slice none 0 0] 30 (0,0)) (bm BK196.out) k_ hk_),(Kd.freshB (g:=gb201) (o:=.cells #[.int .i64 x202000_17,u202001] 30 (0,0)) (bm BK201.out) k_ hk_),(Kd.freshB (g:=gb202) (o:=.cells #[.int .i64 t197,.slice Ao13 t198.length co13] 30 (0,0)) (bm BK202.out) k_ hk_),(Kd.freshB (g:=gb210) (o:=.cells #[.int .i64 t206,.slice Ao30 t207.length co30] 30 (0,0)) (bm BK210.out) k_ hk_)⟩)) (below_size (by repeat (first|(with_reducible first|exact HB.out|apply below_alloc|apply pw_below_drewN|apply below_drew1|refine below_set ?_ GE195.out|refine below_set ?_ GE196.out|refine below_set ?_ GE201.out|refine below_set ?_ GE202.out|refine below_set ?_ GE210.out)|exact HB.out))));have n5_:=Aside0.mk (blk_below (g:=gb195) (o:=.cells #[.int .i64 a0_0,.slice A0_1 l0_1.length c0_1] 30 (0,0)) (bm BK195.out) hb);have n6_:=Aside0.mk (blk_below (g:=gb196) (o:=.cells #[.int .i64 0,.slice none 0 0] 30 (0,0)) (bm BK196.out) hb);have n7_:=Aside0.mk (blk_below (g:=gb201) (o:=.cells #[.int .i64 x202000_17,u202001] 30 (0,0)) (bm BK201.out) hb);have n8_:=Aside0.mk (blk_below (g:=gb202) (o:=.cells #[.int .i64 t197,.slice Ao13 t198.length co13] 30 (0,0)) (bm BK202.out) hb);have n9_:=Aside0.mk (blk_below (g:=gb210) (o:=.cells #[.int .i64 t206,.slice Ao30 t207.length co30] 30 (0,0)) (bm BK210.out) hb);have n10_:=Aside0.mk (below_step (by repeat (first|(with_reducible first|exact HB.out|apply below_alloc|apply pw_below_drewN|apply below_drew1|refine below_set ?_ GE195.out|refine below_set ?_ GE196.out|refine below_set ?_ GE201.out|refine below_set ?_ GE202.out|refine below_set ?_ GE210.out)|exact HB.out)) hb);clear HO_196001;clear HO_202001;clear HO_203001;clear HO_211001;clear BK195;clear BK196;clear BK201;clear BK202;clear BK210;clear HB;have HO_196001:=n0_;have HO_202001:=n1_;have HO_203001:=n2_;have HO_211001:=n3_;have HO215:=n4_;have BK195:=n5_;have BK196:=n6_;have BK201:=n7_;have BK202:=n8_;have BK210:=n9_;have HB:=n10_;clear n0_ n1_ n2_ n3_ n4_ n5_ n6_ n7_ n8_ n9_ n10_;(try clear hb);(try clear hb2);(try clear hk);(try clear hi);(try clear ho0))|((with_reducible refine gate_dst (N:=7) rfl ?_);refine box_event ?hg (N:=7) ?hd (cs:=#[.int .i64 0,.slice none 0 0]) (t:=30) ?hr ?_;(case hd=>rfl);(case hg=>rfl);(case hr=>first|(go_simp;done)|(go_simp;rfl));intro gb216 hg w73 hbox hb;have n0_:=Aside0.mk (Kd.V_below (Kd.V_elderB (vm HO_196001.out) gb216 (Nat.le_of_eq hg.symm)) hb);have n1_:=Aside0.mk (Kd.V_below (Kd.V_elderB (vm HO_202001.out) gb216 (Nat.le_of_eq hg.symm)) hb);have n2_:=Aside0.mk (R_below (rm HO_203001.out) hb);have n3_:=Aside0.mk (Kd.V_below (Kd.V_elderB (vm HO_211001.out) gb216 (Nat.le_of_eq hg.symm)) hb);have n4_:=Aside0.mk (Kd.V_below (Kd.V_elderB (vm HO215.out) gb216 (Nat.le_of_eq hg.symm)) hb);have n5_:=Aside0.mk (blk_below (g:=gb195) (o:=.cells #[.int .i64 a0_0,.slice A0_1 l0_1.length c0_1] 30 (0,0)) (bm BK195.out) hb);have n6_:=Aside0.mk (blk_below (g:=gb196) (o:=.cells #[.int .i64 0,.slice none 0 0] 30 (0,0)) (bm BK196.out) hb);have n7_:=Aside0.mk (blk_below (g:=gb201) (o:=.cells #[.int .i64 x202000_17,u202001] 30 (0,0)) (bm BK201.out) hb);have n8_:=Aside0.mk (blk_below (g:=gb202) (o:=.cells #[.int .i64 t197,.slice Ao13 t198.length co13] 30 (0,0)) (bm BK202.out) hb);have n9_:=Aside0.mk (blk_below (g:=gb210) (o:=.cells #[.int .i64 t206,.slice Ao30 t207.length co30] 30 (0,0)) (bm BK210.out) hb);have n10_:=Aside0.mk (below_step (by repeat (first|(with_reducible first|exact HB.out|apply below_alloc|apply pw_below_drewN|apply below_drew1|refine below_set ?_ GE195.out|refine below_set ?_ GE196.out|refine below_set ?_ GE201.out|refine below_set ?_ GE202.out|refine below_set ?_ GE210.out)|exact HB.out)) hb);have n11_:=Aside0.mk (hbox);have n12_:=Aside0.mk ((by rw [hg];exact (below_size (by repeat (first|(with_reducible first|exact HB.out|apply below_alloc|apply pw_below_drewN|apply below_drew1|refine below_set ?_ GE195.out|refine below_set ?_ GE196.out|refine below_set ?_ GE201.out|refine below_set ?_ GE202.out|refine below_set ?_ GE210.out)|exact HB.out))) : w.heap.size ≤ gb216));have n13_:=Aside0.mk ((by rw [hg];exact (below_size (by repeat (first|(with_reducible first|exact HB.out|apply below_alloc|apply pw_below_drewN|apply below_drew1|refine below_set ?_ GE195.out|refine below_set ?_ GE196.out|refine below_set ?_ GE201.out|refine below_set ?_ GE202.out|refine below_set ?_ GE210.out)|exact HB.out))) : w.heap.size ≤ gb216));have n14_:=Aside0.mk ((by rw [hg];exact Nat.ne_of_lt (blk_lt (g:=gb195) (bm BK195.out)) : gb195 ≠ gb216));have n15_:=Aside0.mk ((by rw [hg];exact Nat.ne_of_gt (blk_lt (g:=gb195) (bm BK195.out)) : gb216 ≠ gb195));have n16_:=Aside0.mk ((by rw [hg];exact Nat.ne_of_lt (blk_lt (g:=gb196) (bm BK196.out)) : gb196 ≠ gb216));have n17_:=Aside0.mk ((by rw [hg];exact Nat.ne_of_gt (blk_lt (g:=gb196) (bm BK196.out)) : gb216 ≠ gb196));have n18_:=Aside0.mk ((by rw [hg];exact Nat.ne_of_lt (blk_lt (g:=gb201) (bm BK201.out)) : gb201 ≠ gb216));have n19_:=Aside0.mk ((by rw [hg];exact Nat.ne_of_gt (blk_lt (g:=gb201) (bm BK201.out)) : gb216 ≠ gb201));have n20_:=Aside0.mk ((by rw [hg];exact Nat.ne_of_lt (blk_lt (g:=gb202) (bm BK202.out)) : gb202 ≠ gb216));have n21_:=Aside0.mk ((by rw [hg];exact Nat.ne_of_gt (blk_lt (g:=gb202) (bm BK202.out)) : gb216 ≠ gb202));have n22_:=Aside0.mk ((by rw [hg];exact Nat.ne_of_lt (blk_lt (g:=gb210) (bm BK210.out)) : gb210 ≠ gb216));have n23_:=Aside0.mk ((by rw [hg];exact Nat.ne_of_gt (blk_lt (g:=gb210) (bm BK210.out)) : gb216 ≠ gb210));clear HO_196001;clear HO_202001;clear HO_203001;clear HO_211001;clear HO215;clear BK195;clear BK196;clear BK201;clear BK202;clear BK210;clear HB;have HO_196001:=n0_;have HO_202001:=n1_;have HO_203001:=n2_;have HO_211001:=n3_;have HO215:=n4_;have BK195:=n5_;have BK196:=n6_;have BK201:=n7_;have BK202:=n8_;have BK210:=n9_;have HB:=n10_;have BK216:=n11_;have GW216:=n12_;have GE216:=n13_;have NB195_216:=n14_;have NB216_195:=n15_;have NB196_216:=n16_;have NB216_196:=n17_;have NB201_216:=n18_;have NB216_201:=n19_;have NB202_216:=n20_;have NB216_202:=n21_;have NB210_216:=n22_;have NB216_210:=n23_;clear n0_ n1_ n2_ n3_ n4_ n5_ n6_ n7_ n8_ n9_ n10_ n11_ n12_ n13_ n14_ n15_ n16_ n17_ n18_ n19_ n20_ n21_ n22_ n23_;clear hb hbox hg;have hnb74:=NB216_195.out;have hnc74:=NB195_216.out;have hnb75:=NB216_196.out;have hnc75:=NB196_216.out;have hnb76:=NB216_201.out;have hnc76:=NB201_216.out;have hnb77:=NB216_202.out;have hnc77:=NB202_216.out;have hnb78:=NB216_210.out;have hnc78:=NB210_216.out;have hcz79_0 : w73.cell? ⟨gb216,0,none⟩ = some (.int .i64 0):=(blk_cell BK216.out 0).trans rfl;have hcz79_1 : w73.cell? ⟨gb216,1,none⟩ = some (.slice none 0 0):=(blk_cell BK216.out 1).trans rfl;have hfz79_0:=blk_frozen BK216.out 0;have hfz79_1:=blk_frozen BK216.out 1;obtain ⟨Ao80,co80,eo80⟩:=Kd.V_slice HO215.out;subst eo80;have hnb81:=NB201_195.out;have hnc81:=NB195_201.out;have hnb82:=NB201_196.out;have hnc82:=NB196_201.out;have hnb83:=NB201_210.out;have hnc83:=NB210_201.out;have hcz84_0 : w73.cell? ⟨gb201,0,none⟩ = some (.int .i64 x202000_17):=(blk_cell BK201.out 0).trans rfl;have hcz84_1 : w73.cell? ⟨gb201,1,none⟩ = some (u202001):=(blk_cell BK201.out 1).trans rfl;have hfz84_0:=blk_frozen BK201.out 0;have hfz84_1:=blk_frozen BK201.out 1;obtain ⟨Ao85,co85,eo85⟩:=Kd.V_slice HO_202001.out;subst eo85)|((with_reducible refine gate_callee (f:=72) rfl ?_);refine goesL_ (some 36) rfl rfl Try.func72 (by kernel_rfl) rfl #[.slice Ao80 t213.length co80,.slice Ao85 x202001_17.length co85] rfl (by (try simp only [List.map_toArray,List.map_cons,List.map_nil]);first|done|rfl|(simp only [List.length_drop,List.length_take];rfl)) ?_;(with_reducible refine (spec_l10Less.calls kj17 _ _ t213 _ _ x202001_17 false _ ?side1 ?side2 ?side3 ?side4 A46.out).mono ?_);(case side1=>refine (Kd.V_reads' (e:=3) (base:=w.heap.size) (ok:=fun k_=>(((P0_1_ k_ ∨ w.heap.size ≤ k_) ∧ (some k_ ≠ (.slice Ao13 t198.length co13 : Value).ownBlock ∧ (k_ ≠ gb195 ∧ (k_ ≠ gb196 ∧ (k_ ≠ gb201 ∧ (k_ ≠ gb202 ∧ k_ ≠ gb210)))))) ∧ k_ ≠ gb216)) (n:=t213.length) (c:=co80) ?_).2.2;exact (by (with_reducible repeat (first|apply Kd.V_alloc|apply Kd.V_drewN|apply Kd.V_drew));exact (Kd.V_mono (Kd.V_far (p:=⟨gb216,1,none⟩) (Kd.V_far (p:=⟨gb216,0,none⟩) (Kd.V_mono HO215.out (fun k_ hk=>(⟨hk,hk.2⟩ : _ ∧ k_ ≠ gb216))) (fun _ hk=>hk.2) (.int .i64 t212)) (fun _ hk=>hk.2) (.slice Ao80 t213.length co80)) (fun _ h_=>h_.1))));(case side2=>exact (Kd.V_reads' HO215.out).2.1);(case side3=>refine (Kd.V_reads' (e:=3) (base:=w.heap.size) (ok:=fun k_=>(((P0_1_ k_ ∨ w.heap.size ≤ k_) ∧ (some k_ ≠ (.slice Ao13 t198.length co13 : Value).ownBlock ∧ (k_ ≠ gb195 ∧ (k_ ≠ gb196 ∧ (k_ ≠ gb201 ∧ (k_ ≠ gb202 ∧ k_ ≠ gb210)))))) ∧ k_ ≠ gb216)) (n:=x202001_17.length) (c:=co85) ?_).2.2;exact (by (with_reducible repeat (first|apply Kd.V_alloc|apply Kd.V_drewN|apply Kd.V_drew));exact (Kd.V_mono (Kd.V_far (p:=⟨gb216,1,none⟩) (Kd.V_far (p:=⟨gb216,0,none⟩) (Kd.V_mono HO_202001.out (fun k_ hk=>(⟨hk,hk.2⟩ : _ ∧ k_ ≠ gb216))) (fun _ hk=>hk.2) (.int .i64 t212)) (fun _ hk=>hk.2) (.slice Ao80 t213.length co80)) (fun _ h_=>h_.1))));(case side4=>exact (Kd.V_reads' HO_202001.out).2.1);rintro e w' ⟨rfl,⟨nd,rfl⟩⟩;refine ⟨_,rfl,?_⟩))
    go_roundg kj17
    case measure=>have:=HK1.out;have:=HJ17.out;omega
    case rel=>exact ⟨(wrap64 (x5_1 + 1)),(x202000_17),(x202001_17),(.slice Ao85 x202001_17.length co85),(by first|rfl|(simp;done)|(simp [*];done)),H',⟨by have:=HK1.out;have:=HJ17.out;omega⟩,⟨by (with_reducible repeat (first|apply Kd.V_alloc|apply Kd.V_drewN|apply Kd.V_drew));exact Kd.V_mono (Kd.V_far (p:=⟨gb216,1,none⟩) (Kd.V_far (p:=⟨gb216,0,none⟩) (Kd.V_mono HO_196001.out (fun k_ hk=>(⟨hk,hk.2⟩ : _ ∧ k_ ≠ gb216))) (fun _ hk=>hk.2) (.int .i64 t212)) (fun _ hk=>hk.2) (.slice Ao80 t213.length co80)) (fun _ hk=>⟨hk.1.1.1,⟨hk.1.1.2.1,⟨hk.1.1.2.2.1,⟨hk.1.1.2.2.2.1,⟨hk.1.1.2.2.2.2.1,hk.1.1.2.2.2.2.2.1⟩⟩⟩⟩⟩)⟩,⟨by (with_reducible repeat (first|apply Kd.V_alloc|apply Kd.V_drewN|apply Kd.V_drew));exact Kd.V_mono (Kd.V_far (p:=⟨gb216,1,none⟩) (Kd.V_far (p:=⟨gb216,0,none⟩) (Kd.V_mono HO_202001.out (fun k_ hk=>(⟨hk,hk.2⟩ : _ ∧ k_ ≠ gb216))) (fun _ hk=>hk.2) (.int .i64 t212)) (fun _ hk=>hk.2) (.slice Ao80 t213.length co80)) (fun _ hk=>⟨hk.1.1.1,⟨hk.1.1.2.1,⟨hk.1.1.2.2.1,⟨hk.1.1.2.2.2.1,⟨hk.1.1.2.2.2.2.1,hk.1.1.2.2.2.2.2.1⟩⟩⟩⟩⟩)⟩,⟨by (with_reducible repeat (first|apply R_alloc|apply R_drewN|apply R_drew));exact R_mono (R_far (p:=⟨gb216,1,none⟩) (R_far (p:=⟨gb216,0,none⟩) (R_types HO_203001.out BK216.out (by decide)) (fun _ hk=>hk.2) (.int .i64 t212)) (fun _ hk=>hk.2) (.slice Ao80 t213.length co80)) (fun _ hk=>hk.1)⟩,⟨by (with_reducible repeat (first|apply blk_drewN|apply blk_drew|apply blk_alloc));refine blk_far ?_ NB195_216.out _;(with_reducible repeat (first|apply blk_drewN|apply blk_drew|apply blk_alloc));refine blk_far ?_ NB195_216.out _;(with_reducible repeat (first|apply blk_drewN|apply blk_drew|apply blk_alloc));exact BK195.out⟩,⟨by (with_reducible repeat (first|apply blk_drewN|apply blk_drew|apply blk_alloc));refine blk_far ?_ NB196_216.out _;(with_reducible repeat (first|apply blk_drewN|apply blk_drew|apply blk_alloc));refine blk_far ?_ NB196_216.out _;(with_reducible repeat (first|apply blk_drewN|apply blk_drew|apply blk_alloc));exact BK196.out⟩,⟨by (with_reducible repeat (first|apply blk_drewN|apply blk_drew|apply blk_alloc));refine blk_far ?_ NB201_216.out _;(with_reducible repeat (first|apply blk_drewN|apply blk_drew|apply blk_alloc));refine blk_far ?_ NB201_216.out _;(with_reducible repeat (first|apply blk_drewN|apply blk_drew|apply blk_alloc));exact BK201.out⟩,⟨by (with_reducible repeat (first|apply blk_drewN|apply blk_drew|apply blk_alloc));refine blk_far ?_ NB202_216.out _;(with_reducible repeat (first|apply blk_drewN|apply blk_drew|apply blk_alloc));refine blk_far ?_ NB202_216.out _;(with_reducible repeat (first|apply blk_drewN|apply blk_drew|apply blk_alloc));exact BK202.out⟩,⟨by repeat (first|(with_reducible first|exact HB.out|apply below_alloc|apply pw_below_drewN|apply below_drew1|refine below_set ?_ GE195.out|refine below_set ?_ GE196.out|refine below_set ?_ GE201.out|refine below_set ?_ GE202.out|refine below_set ?_ GE210.out|refine below_set ?_ GE216.out)|exact HB.out)⟩⟩
   subst c47
   have H1 : (spec_l10Form.l0 kj17 (wrap64 (x5_1 + 1)) a0_0 l0_1 t212 t213 t197 t198) = some (r1,r2):=by rw [if_pos rfl] at H;exact H
   clear H
   have H:=H1
   clear H1
   have H':=Aside0.mk H
   clear H
   have hnb48:=NB202_195.out
   have hnc48:=NB195_202.out
   have hnb49:=NB202_196.out
   have hnc49:=NB196_202.out
   have hnb50:=NB202_201.out
   have hnc50:=NB201_202.out
   have hnb51:=NB202_210.out
   have hnc51:=NB210_202.out
   have hcz52_0 : wc.cell? ⟨gb202,0,none⟩ = some (.int .i64 t197):=(blk_cell BK202.out 0).trans rfl
   have hcz52_1 : wc.cell? ⟨gb202,1,none⟩ = some (.slice Ao13 t198.length co13):=(blk_cell BK202.out 1).trans rfl
   have hfz52_0:=blk_frozen BK202.out 0
   have hfz52_1:=blk_frozen BK202.out 1
   go_wp2_with (first|((with_reducible refine gate_callee (f:=60) rfl ?_);refine goesL_ (some 31) rfl rfl Try.func60 (by kernel_rfl) rfl #[.agg #[.int .i64 t197,.slice Ao13 t198.length co13],.int .i64 x5_1] rfl (by (try simp only [List.map_toArray,List.map_cons,List.map_nil]);first|done|rfl|(simp only [List.length_drop,List.length_take];rfl)) ?_;(with_reducible refine (turnedV.calls kj17 t197 _ _ t198 x5_1 t212 t213 _ ?side1 ?side2 A45.out).mono ?_);(case side1=>exact cm (R_reads' HO_203001.out).2.2);(case side2=>exact (R_reads' HO_203001.out).2.1);rintro e w53 ⟨v214,rfl,ho0,hb⟩;refine ⟨_,rfl,?_⟩;have n0_:=Aside0.mk (Kd.V_below (vm HO_196001.out) hb);have n1_:=Aside0.mk (Kd.V_below (vm HO_202001.out) hb);have n2_:=Aside0.mk (R_below (rm HO_203001.out) hb);have n3_:=Aside0.mk (Kd.V_below (vm HO_211001.out) hb);have n4_:=Aside0.mk (Kd.V_lower (Kd.V_mono (ok':=fun k_=>(P0_1_ k_ ∨ w.heap.size ≤ k_) ∧ some k_ ≠ (.slice Ao13 t198.length co13 : Value).ownBlock ∧ k_ ≠ gb195 ∧ k_ ≠ gb196 ∧ k_ ≠ gb201 ∧ k_ ≠ gb202 ∧ k_ ≠ gb210) ho0 (fun k_ hk_=>⟨(.inr (Nat.le_trans (below_size (by repeat (first|(with_reducible first|exact HB.out|apply below_alloc|apply pw_below_drewN|apply below_drew1|refine below_set ?_ GE195.out|refine below_set ?_ GE196.out|refine below_set ?_ GE201.out|refine below_set ?_ GE202.out|refine below_set ?_ GE210.out)|exact HB.out))) hk_)),(Kd.fresh' (R_lt (rm HO_203001.out)) k_ hk_),(Kd.freshB (g:=gb195) (o:=.cells #[.int .i64 a0_0,.slice A0_1 l0_1.length c0_1] 30 (0,0)) (bm BK195.out) k_ hk_),(Kd.freshB (g:=gb196) (o:=.cells #[.int .i64 0,.slice none 0 0] 30 (0,0)) (bm BK196.out) k_ hk_),(Kd.freshB (g:=gb201) (o:=.cells #[.int .i64 x202000_17,u202001] 30 (0,0)) (bm BK201.out) k_ hk_),(Kd.freshB (g:=gb202) (o:=.cells #[.int .i64 t197,.slice Ao13 t198.length co13] 30 (0,0)) (bm BK202.out) k_ hk_),(Kd.freshB (g:=gb210) (o:=.cells #[.int .i64 t206,.slice Ao30 t207.length co30] 30 (0,0)) (bm BK210.out) k_ hk_)⟩)) (below_size (by repeat (first|(with_reducible first|exact HB.out|apply below_alloc|apply pw_below_drewN|apply below_drew1|refine below_set ?_ GE195.out|refine below_set ?_ GE196.out|refine below_set ?_ GE201.out|refine below_set ?_ GE202.out|refine below_set ?_ GE210.out)|exact HB.out))));have n5_:=Aside0.mk (blk_below (g:=gb195) (o:=.cells #[.int .i64 a0_0,.slice A0_1 l0_1.length c0_1] 30 (0,0)) (bm BK195.out) hb);have n6_:=Aside0.mk (blk_below (g:=gb196) (o:=.cells #[.int .i64 0,.slice none 0 0] 30 (0,0)) (bm BK196.out) hb);have n7_:=Aside0.mk (blk_below (g:=gb201) (o:=.cells #[.int .i64 x202000_17,u202001] 30 (0,0)) (bm BK201.out) hb);have n8_:=Aside0.mk (blk_below (g:=gb202) (o:=.cells #[.int .i64 t197,.slice Ao13 t198.length co13] 30 (0,0)) (bm BK202.out) hb);have n9_:=Aside0.mk (blk_below (g:=gb210) (o:=.cells #[.int .i64 t206,.slice Ao30 t207.length co30] 30 (0,0)) (bm BK210.out) hb);have n10_:=Aside0.mk (below_step (by repeat (first|(with_reducible first|exact HB.out|apply below_alloc|apply pw_below_drewN|apply below_drew1|refine below_set ?_ GE195.out|refine below_set ?_ GE196.out|refine below_set ?_ GE201.out|refine below_set ?_ GE202.out|refine below_set ?_ GE210.out)|exact HB.out)) hb);clear HO_196001;clear HO_202001;clear HO_203001;clear HO_211001;clear BK195;clear BK196;clear BK201;clear BK202;clear BK210;clear HB;have HO_196001:=n0_;have HO_202001:=n1_;have HO_203001:=n2_;have HO_211001:=n3_;have HO215:=n4_;have BK195:=n5_;have BK196:=n6_;have BK201:=n7_;have BK202:=n8_;have BK210:=n9_;have HB:=n10_;clear n0_ n1_ n2_ n3_ n4_ n5_ n6_ n7_ n8_ n9_ n10_;(try clear hb);(try clear hb2);(try clear hk);(try clear hi);(try clear ho0))|((with_reducible refine gate_dst (N:=7) rfl ?_);refine box_event ?hg (N:=7) ?hd (cs:=#[.int .i64 0,.slice none 0 0]) (t:=30) ?hr ?_;(case hd=>rfl);(case hg=>rfl);(case hr=>first|(go_simp;done)|(go_simp;rfl));intro gb216 hg w54 hbox hb;have n0_:=Aside0.mk (Kd.V_below (Kd.V_elderB (vm HO_196001.out) gb216 (Nat.le_of_eq hg.symm)) hb);have n1_:=Aside0.mk (Kd.V_below (Kd.V_elderB (vm HO_202001.out) gb216 (Nat.le_of_eq hg.symm)) hb);have n2_:=Aside0.mk (R_below (rm HO_203001.out) hb);have n3_:=Aside0.mk (Kd.V_below (Kd.V_elderB (vm HO_211001.out) gb216 (Nat.le_of_eq hg.symm)) hb);have n4_:=Aside0.mk (Kd.V_below (Kd.V_elderB (vm HO215.out) gb216 (Nat.le_of_eq hg.symm)) hb);have n5_:=Aside0.mk (blk_below (g:=gb195) (o:=.cells #[.int .i64 a0_0,.slice A0_1 l0_1.length c0_1] 30 (0,0)) (bm BK195.out) hb);have n6_:=Aside0.mk (blk_below (g:=gb196) (o:=.cells #[.int .i64 0,.slice none 0 0] 30 (0,0)) (bm BK196.out) hb);have n7_:=Aside0.mk (blk_below (g:=gb201) (o:=.cells #[.int .i64 x202000_17,u202001] 30 (0,0)) (bm BK201.out) hb);have n8_:=Aside0.mk (blk_below (g:=gb202) (o:=.cells #[.int .i64 t197,.slice Ao13 t198.length co13] 30 (0,0)) (bm BK202.out) hb);have n9_:=Aside0.mk (blk_below (g:=gb210) (o:=.cells #[.int .i64 t206,.slice Ao30 t207.length co30] 30 (0,0)) (bm BK210.out) hb);have n10_:=Aside0.mk (below_step (by repeat (first|(with_reducible first|exact HB.out|apply below_alloc|apply pw_below_drewN|apply below_drew1|refine below_set ?_ GE195.out|refine below_set ?_ GE196.out|refine below_set ?_ GE201.out|refine below_set ?_ GE202.out|refine below_set ?_ GE210.out)|exact HB.out)) hb);have n11_:=Aside0.mk (hbox);have n12_:=Aside0.mk ((by rw [hg];exact (below_size (by repeat (first|(with_reducible first|exact HB.out|apply below_alloc|apply pw_below_drewN|apply below_drew1|refine below_set ?_ GE195.out|refine below_set ?_ GE196.out|refine below_set ?_ GE201.out|refine below_set ?_ GE202.out|refine below_set ?_ GE210.out)|exact HB.out))) : w.heap.size ≤ gb216));have n13_:=Aside0.mk ((by rw [hg];exact (below_size (by repeat (first|(with_reducible first|exact HB.out|apply below_alloc|apply pw_below_drewN|apply below_drew1|refine below_set ?_ GE195.out|refine below_set ?_ GE196.out|refine below_set ?_ GE201.out|refine below_set ?_ GE202.out|refine below_set ?_ GE210.out)|exact HB.out))) : w.heap.size ≤ gb216));have n14_:=Aside0.mk ((by rw [hg];exact Nat.ne_of_lt (blk_lt (g:=gb195) (bm BK195.out)) : gb195 ≠ gb216));have n15_:=Aside0.mk ((by rw [hg];exact Nat.ne_of_gt (blk_lt (g:=gb195) (bm BK195.out)) : gb216 ≠ gb195));have n16_:=Aside0.mk ((by rw [hg];exact Nat.ne_of_lt (blk_lt (g:=gb196) (bm BK196.out)) : gb196 ≠ gb216));have n17_:=Aside0.mk ((by rw [hg];exact Nat.ne_of_gt (blk_lt (g:=gb196) (bm BK196.out)) : gb216 ≠ gb196));have n18_:=Aside0.mk ((by rw [hg];exact Nat.ne_of_lt (blk_lt (g:=gb201) (bm BK201.out)) : gb201 ≠ gb216));have n19_:=Aside0.mk ((by rw [hg];exact Nat.ne_of_gt (blk_lt (g:=gb201) (bm BK201.out)) : gb216 ≠ gb201));have n20_:=Aside0.mk ((by rw [hg];exact Nat.ne_of_lt (blk_lt (g:=gb202) (bm BK202.out)) : gb202 ≠ gb216));have n21_:=Aside0.mk ((by rw [hg];exact Nat.ne_of_gt (blk_lt (g:=gb202) (bm BK202.out)) : gb216 ≠ gb202));have n22_:=Aside0.mk ((by rw [hg];exact Nat.ne_of_lt (blk_lt (g:=gb210) (bm BK210.out)) : gb210 ≠ gb216));have n23_:=Aside0.mk ((by rw [hg];exact Nat.ne_of_gt (blk_lt (g:=gb210) (bm BK210.out)) : gb216 ≠ gb210));clear HO_196001;clear HO_202001;clear HO_203001;clear HO_211001;clear HO215;clear BK195;clear BK196;clear BK201;clear BK202;clear BK210;clear HB;have HO_196001:=n0_;have HO_202001:=n1_;have HO_203001:=n2_;have HO_211001:=n3_;have HO215:=n4_;have BK195:=n5_;have BK196:=n6_;have BK201:=n7_;have BK202:=n8_;have BK210:=n9_;have HB:=n10_;have BK216:=n11_;have GW216:=n12_;have GE216:=n13_;have NB195_216:=n14_;have NB216_195:=n15_;have NB196_216:=n16_;have NB216_196:=n17_;have NB201_216:=n18_;have NB216_201:=n19_;have NB202_216:=n20_;have NB216_202:=n21_;have NB210_216:=n22_;have NB216_210:=n23_;clear n0_ n1_ n2_ n3_ n4_ n5_ n6_ n7_ n8_ n9_ n10_ n11_ n12_ n13_ n14_ n15_ n16_ n17_ n18_ n19_ n20_ n21_ n22_ n23_;clear hb hbox hg;have hnb55:=NB216_195.out;have hnc55:=NB195_216.out;have hnb56:=NB216_196.out;have hnc56:=NB196_216.out;have hnb57:=NB216_201.out;have hnc57:=NB201_216.out;have hnb58:=NB216_202.out;have hnc58:=NB202_216.out;have hnb59:=NB216_210.out;have hnc59:=NB210_216.out;have hcz60_0 : w54.cell? ⟨gb216,0,none⟩ = some (.int .i64 0):=(blk_cell BK216.out 0).trans rfl;have hcz60_1 : w54.cell? ⟨gb216,1,none⟩ = some (.slice none 0 0):=(blk_cell BK216.out 1).trans rfl;have hfz60_0:=blk_frozen BK216.out 0;have hfz60_1:=blk_frozen BK216.out 1;obtain ⟨Ao61,co61,eo61⟩:=Kd.V_slice HO215.out;subst eo61;have hnb62:=NB201_195.out;have hnc62:=NB195_201.out;have hnb63:=NB201_196.out;have hnc63:=NB196_201.out;have hnb64:=NB201_210.out;have hnc64:=NB210_201.out;have hcz65_0 : w54.cell? ⟨gb201,0,none⟩ = some (.int .i64 x202000_17):=(blk_cell BK201.out 0).trans rfl;have hcz65_1 : w54.cell? ⟨gb201,1,none⟩ = some (u202001):=(blk_cell BK201.out 1).trans rfl;have hfz65_0:=blk_frozen BK201.out 0;have hfz65_1:=blk_frozen BK201.out 1;obtain ⟨Ao66,co66,eo66⟩:=Kd.V_slice HO_202001.out;subst eo66)|((with_reducible refine gate_callee (f:=72) rfl ?_);refine goesL_ (some 36) rfl rfl Try.func72 (by kernel_rfl) rfl #[.slice Ao61 t213.length co61,.slice Ao66 x202001_17.length co66] rfl (by (try simp only [List.map_toArray,List.map_cons,List.map_nil]);first|done|rfl|(simp only [List.length_drop,List.length_take];rfl)) ?_;(with_reducible refine (spec_l10Less.calls kj17 _ _ t213 _ _ x202001_17 true _ ?side1 ?side2 ?side3 ?side4 A46.out).mono ?_);(case side1=>refine (Kd.V_reads' (e:=3) (base:=w.heap.size) (ok:=fun k_=>(((P0_1_ k_ ∨ w.heap.size ≤ k_) ∧ (some k_ ≠ (.slice Ao13 t198.length co13 : Value).ownBlock ∧ (k_ ≠ gb195 ∧ (k_ ≠ gb196 ∧ (k_ ≠ gb201 ∧ (k_ ≠ gb202 ∧ k_ ≠ gb210)))))) ∧ k_ ≠ gb216)) (n:=t213.length) (c:=co61) ?_).2.2;exact (by (with_reducible repeat (first|apply Kd.V_alloc|apply Kd.V_drewN|apply Kd.V_drew));exact (Kd.V_mono (Kd.V_far (p:=⟨gb216,1,none⟩) (Kd.V_far (p:=⟨gb216,0,none⟩) (Kd.V_mono HO215.out (fun k_ hk=>(⟨hk,hk.2⟩ : _ ∧ k_ ≠ gb216))) (fun _ hk=>hk.2) (.int .i64 t212)) (fun _ hk=>hk.2) (.slice Ao61 t213.length co61)) (fun _ h_=>h_.1))));(case side2=>exact (Kd.V_reads' HO215.out).2.1);(case side3=>refine (Kd.V_reads' (e:=3) (base:=w.heap.size) (ok:=fun k_=>(((P0_1_ k_ ∨ w.heap.size ≤ k_) ∧ (some k_ ≠ (.slice Ao13 t198.length co13 : Value).ownBlock ∧ (k_ ≠ gb195 ∧ (k_ ≠ gb196 ∧ (k_ ≠ gb201 ∧ (k_ ≠ gb202 ∧ k_ ≠ gb210)))))) ∧ k_ ≠ gb216)) (n:=x202001_17.length) (c:=co66) ?_).2.2;exact (by (with_reducible repeat (first|apply Kd.V_alloc|apply Kd.V_drewN|apply Kd.V_drew));exact (Kd.V_mono (Kd.V_far (p:=⟨gb216,1,none⟩) (Kd.V_far (p:=⟨gb216,0,none⟩) (Kd.V_mono HO_202001.out (fun k_ hk=>(⟨hk,hk.2⟩ : _ ∧ k_ ≠ gb216))) (fun _ hk=>hk.2) (.int .i64 t212)) (fun _ hk=>hk.2) (.slice Ao61 t213.length co61)) (fun _ h_=>h_.1))));(case side4=>exact (Kd.V_reads' HO_202001.out).2.1);rintro e w' ⟨rfl,⟨nd,rfl⟩⟩;refine ⟨_,rfl,?_⟩))
   go_roundg kj17
   case measure=>have:=HK1.out;have:=HJ17.out;omega
   case rel=>exact ⟨(wrap64 (x5_1 + 1)),(t212),(t213),(.slice Ao61 t213.length co61),(by first|rfl|(simp;done)|(simp [*];done)),H',⟨by have:=HK1.out;have:=HJ17.out;omega⟩,⟨by (with_reducible repeat (first|apply Kd.V_alloc|apply Kd.V_drewN|apply Kd.V_drew));exact Kd.V_mono (Kd.V_far (p:=⟨gb201,1,none⟩) (Kd.V_far (p:=⟨gb201,0,none⟩) (Kd.V_far (p:=⟨gb216,1,none⟩) (Kd.V_far (p:=⟨gb216,0,none⟩) (Kd.V_mono (Kd.V_mono HO_196001.out (fun k_ hk=>(⟨hk,hk.2⟩ : _ ∧ k_ ≠ gb216))) (fun k_ hk=>(⟨hk,hk.1.1.2.2.2.2.1⟩ : _ ∧ k_ ≠ gb201))) (fun _ hk=>hk.1.2) (.int .i64 t212)) (fun _ hk=>hk.1.2) (.slice Ao61 t213.length co61)) (fun _ hk=>hk.2) (.int .i64 t212)) (fun _ hk=>hk.2) (.slice Ao61 t213.length co61)) (fun _ hk=>⟨hk.1.1.1.1,⟨hk.1.1.1.2.1,⟨hk.1.1.1.2.2.1,⟨hk.1.1.1.2.2.2.1,⟨hk.1.1.1.2.2.2.2.1,hk.1.1.1.2.2.2.2.2.1⟩⟩⟩⟩⟩)⟩,⟨by (with_reducible repeat (first|apply Kd.V_alloc|apply Kd.V_drewN|apply Kd.V_drew));exact Kd.V_mono (Kd.V_far (p:=⟨gb201,1,none⟩) (Kd.V_far (p:=⟨gb201,0,none⟩) (Kd.V_far (p:=⟨gb216,1,none⟩) (Kd.V_far (p:=⟨gb216,0,none⟩) (Kd.V_mono (Kd.V_mono HO215.out (fun k_ hk=>(⟨hk,hk.2⟩ : _ ∧ k_ ≠ gb216))) (fun k_ hk=>(⟨hk,hk.1.1.2.2.2.2.1⟩ : _ ∧ k_ ≠ gb201))) (fun _ hk=>hk.1.2) (.int .i64 t212)) (fun _ hk=>hk.1.2) (.slice Ao61 t213.length co61)) (fun _ hk=>hk.2) (.int .i64 t212)) (fun _ hk=>hk.2) (.slice Ao61 t213.length co61)) (fun _ hk=>⟨hk.1.1.1.1,⟨hk.1.1.1.2.1,⟨hk.1.1.1.2.2.1,⟨hk.1.1.1.2.2.2.1,⟨hk.1.1.1.2.2.2.2.1,hk.1.1.1.2.2.2.2.2.1⟩⟩⟩⟩⟩)⟩,⟨by (with_reducible repeat (first|apply R_alloc|apply R_drewN|apply R_drew));exact R_mono (R_far (p:=⟨gb201,1,none⟩) (R_far (p:=⟨gb201,0,none⟩) (R_far (p:=⟨gb216,1,none⟩) (R_far (p:=⟨gb216,0,none⟩) (R_types (R_types HO_203001.out BK216.out (by decide)) BK201.out (by decide)) (fun _ hk=>hk.1.2) (.int .i64 t212)) (fun _ hk=>hk.1.2) (.slice Ao61 t213.length co61)) (fun _ hk=>hk.2) (.int .i64 t212)) (fun _ hk=>hk.2) (.slice Ao61 t213.length co61)) (fun _ hk=>hk.1.1)⟩,⟨by (with_reducible repeat (first|apply blk_drewN|apply blk_drew|apply blk_alloc));refine blk_far ?_ NB195_201.out _;(with_reducible repeat (first|apply blk_drewN|apply blk_drew|apply blk_alloc));refine blk_far ?_ NB195_201.out _;(with_reducible repeat (first|apply blk_drewN|apply blk_drew|apply blk_alloc));refine blk_far ?_ NB195_216.out _;(with_reducible repeat (first|apply blk_drewN|apply blk_drew|apply blk_alloc));refine blk_far ?_ NB195_216.out _;(with_reducible repeat (first|apply blk_drewN|apply blk_drew|apply blk_alloc));exact BK195.out⟩,⟨by (with_reducible repeat (first|apply blk_drewN|apply blk_drew|apply blk_alloc));refine blk_far ?_ NB196_201.out _;(with_reducible repeat (first|apply blk_drewN|apply blk_drew|apply blk_alloc));refine blk_far ?_ NB196_201.out _;(with_reducible repeat (first|apply blk_drewN|apply blk_drew|apply blk_alloc));refine blk_far ?_ NB196_216.out _;(with_reducible repeat (first|apply blk_drewN|apply blk_drew|apply blk_alloc));refine blk_far ?_ NB196_216.out _;(with_reducible repeat (first|apply blk_drewN|apply blk_drew|apply blk_alloc));exact BK196.out⟩,⟨by (with_reducible repeat (first|apply blk_drewN|apply blk_drew|apply blk_alloc));refine blk_put (cs:=#[.int .i64 t212,.slice Ao66 x202001_17.length co66]) ?_ 1 _ rfl;(with_reducible repeat (first|apply blk_drewN|apply blk_drew|apply blk_alloc));refine blk_put (cs:=#[.int .i64 x202000_17,.slice Ao66 x202001_17.length co66]) ?_ 0 _ rfl;(with_reducible repeat (first|apply blk_drewN|apply blk_drew|apply blk_alloc));refine blk_far ?_ NB201_216.out _;(with_reducible repeat (first|apply blk_drewN|apply blk_drew|apply blk_alloc));refine blk_far ?_ NB201_216.out _;(with_reducible repeat (first|apply blk_drewN|apply blk_drew|apply blk_alloc));exact BK201.out⟩,⟨by (with_reducible repeat (first|apply blk_drewN|apply blk_drew|apply blk_alloc));refine blk_far ?_ NB202_201.out _;(with_reducible repeat (first|apply blk_drewN|apply blk_drew|apply blk_alloc));refine blk_far ?_ NB202_201.out _;(with_reducible repeat (first|apply blk_drewN|apply blk_drew|apply blk_alloc));refine blk_far ?_ NB202_216.out _;(with_reducible repeat (first|apply blk_drewN|apply blk_drew|apply blk_alloc));refine blk_far ?_ NB202_216.out _;(with_reducible repeat (first|apply blk_drewN|apply blk_drew|apply blk_alloc));exact BK202.out⟩,⟨by repeat (first|(with_reducible first|exact HB.out|apply below_alloc|apply pw_below_drewN|apply below_drew1|refine below_set ?_ GE195.out|refine below_set ?_ GE196.out|refine below_set ?_ GE201.out|refine below_set ?_ GE202.out|refine below_set ?_ GE210.out|refine below_set ?_ GE216.out)|exact HB.out)⟩⟩


end
end Go.Proofs.Ytjmpanikfomgeaa.QFnExactAreSameForm
