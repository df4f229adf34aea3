/- Functions that the law FnWires comes to, and their walks: no condition but those named. -/
import Derived.Test.YtciihopkgblpkaaQFnWiresx0
import Derived.Test.YtciihopkgblpkaaQFnWiresx2
namespace Go.Proofs.Ytciihopkgblpkaa.QFnWires
open Go.RowKit Go.Proofs.YtciihopkgblpkaaW.PrintWords Go.Proofs.YtciihopkgblpkaaW.PrintLast Go.Proofs.YtciihopkgblpkaaW.PrintMore Go.Proofs.Ytciihopkgblpkaa.Short
attribute [local go_sem] max2_int min2_int max_two min_two max_three min_three max_four min_four
set_option linter.unusedVariables false
set_option linter.unusedSimpArgs false

section
open Kd
/-! ### spec_FallsOf: function 29 -/
mutual
def spec_FallsOf.l0 : Nat → List Int → List Int → Int → Int → List Int → List Int → Option (List Int × List Int × Bool)
 | 0,_,_,_,_,_,_=>none
 | k + 1,x5,x6,x7,x219000,x219001,x219002=>if x7 < (x219001.length : Int) then (if 0 ≤ x7 then (if x7 < (x219002.length : Int) then (if (rd x219002 x7) < 0 then (if x5.length < 17592186044416 then (if x6.length < 17592186044416 then (spec_FallsOf.l0 k (x5 ++ [rd x219001 x7]) (x6 ++ [(-1)]) (wrap64 (x7 + 1)) x219000 x219001 x219002) else (none)) else (none)) else (spec_FallsOf.l0 k x5 x6 (wrap64 (x7 + 1)) x219000 x219001 x219002)) else (none)) else (none)) else (spec_FallsOf.l1 k x5 x6 0 x219000 x219001 x219002)
def spec_FallsOf.l1 : Nat → List Int → List Int → Int → Int → List Int → List Int → Option (List Int × List Int × Bool)
 | 0,_,_,_,_,_,_=>none
 | k + 1,x5,x6,x8,x219000,x219001,x219002=>if x8 < (x219001.length : Int) then (if 0 ≤ x8 then (if x8 < (x219002.length : Int) then (if (rd x219002 x8) > 0 then (if x5.length < 17592186044416 then (if x6.length < 17592186044416 then (spec_FallsOf.l1 k (x5 ++ [wrap64 (x219000 - (rd x219001 x8))]) (x6 ++ [1]) (wrap64 (x8 + 1)) x219000 x219001 x219002) else (none)) else (none)) else (spec_FallsOf.l1 k x5 x6 (wrap64 (x8 + 1)) x219000 x219001 x219002)) else (none)) else (none)) else (some (x5,x6,true))
end
def spec_FallsOf.f (k : Nat) (a0_0 : Int) (l0_1 : List Int) (l0_2 : List Int) : Option (List Int × List Int × Bool):=(some (([] : List Int) : List Int)).bind fun y219=>((some (([] : List Int) : List Int)).bind fun y222=>((spec_l8Wire.f k a0_0 l0_1 l0_2).bind fun t225=>(if t225 = true then (spec_FallsOf.l0 k y219 y222 0 a0_0 l0_1 l0_2) else (some (y219,y222,false)))))
theorem spec_FallsOf.mono_l : ∀ k,(∀ y0 y1 y2 y3 y4 y5,LeO (spec_FallsOf.l0 k y0 y1 y2 y3 y4 y5) (spec_FallsOf.l0 (k + 1) y0 y1 y2 y3 y4 y5)) ∧ (∀ y0 y1 y2 y3 y4 y5,LeO (spec_FallsOf.l1 k y0 y1 y2 y3 y4 y5) (spec_FallsOf.l1 (k + 1) y0 y1 y2 y3 y4 y5))
 | 0=>by
  refine ⟨?_,?_⟩<;>(intros;intro r h;simp [spec_FallsOf.l0,spec_FallsOf.l1] at h)
 | k + 1=>by
  obtain ⟨ih0,ih1⟩:=spec_FallsOf.mono_l k
  refine ⟨?_,?_⟩<;>intros<;>(first|unfold spec_FallsOf.l0 | unfold spec_FallsOf.l1)<;>(repeat' first|(with_reducible exact ih0 ..)|(with_reducible exact ih1 ..)|(with_reducible exact spec_l8Wire.mono _ _ _ _)|(with_reducible exact LeO.refl _)|(with_reducible exact LeO.none _)|(with_reducible refine LeO.ite ?_ ?_)|(with_reducible refine LeO.bind ?_ (fun _=>?_))|exact ih0 ..|exact ih1 ..|exact spec_l8Wire.mono _ _ _ _|exact LeO.none _|refine LeO.ite ?_ ?_|refine LeO.bind ?_ (fun _=>?_))
theorem spec_FallsOf.mono : ∀ a0 a1 a2 k,LeO (spec_FallsOf.f k a0 a1 a2) (spec_FallsOf.f (k + 1) a0 a1 a2):=by
 intro a0 a1 a2 k
 obtain ⟨ih0,ih1⟩:=spec_FallsOf.mono_l k
 unfold spec_FallsOf.f
 repeat' first
   | (with_reducible exact ih0 _ _ _ _ _ _)
   | (with_reducible exact ih1 _ _ _ _ _ _)
   | (with_reducible exact spec_l8Wire.mono _ _ _ _)
   | (with_reducible exact LeO.refl _)
   | (with_reducible exact LeO.none _)
   | (with_reducible refine LeO.ite ?_ ?_)
   | (with_reducible refine LeO.bind ?_ (fun _=>?_))
   | exact ih0 _ _ _ _ _ _
   | exact ih1 _ _ _ _ _ _
   | exact spec_l8Wire.mono _ _ _ _
   | exact LeO.none _
   | refine LeO.ite ?_ ?_
   | refine LeO.bind ?_ (fun _=>?_)
def spec_FallsOf.T14 : Bool × List (List Nat × List Nat):=(true,[([],[]),([],[]),([1],[1]),([],[]),([3],[3]),([],[]),([4,5],[4,5]),([6],[6]),([2,7],[2,7]),([8],[8]),([0,9],[0,9]),([10,10,0,1,2,3,4,5,6,7,8,9,10],[0,10])])
def spec_FallsOf.B14 : List Nat:=[0,0,2,0,8,0,56,120,254,510,1023,2047]
theorem spec_FallsOf.tab14 : rtab .any (opsOf Try.f29 14) = spec_FallsOf.T14:=by kernel_rfl
theorem spec_FallsOf.bits14 : waitsOk spec_FallsOf.T14.2 spec_FallsOf.B14 = true:=by kernel_rfl
set_option maxHeartbeats 8000000 in
set_option maxRecDepth 100000 in
theorem spec_FallsOf.calls (k : Nat) (a0_0 : Int) (A0_1 : Option Addr) (c0_1 : Nat) (l0_1 : List Int) (A0_2 : Option Addr) (c0_2 : Nat) (l0_2 : List Int) (r1 : List Int) (r2 : List Int) (r3 : Bool) (w : World) (hr0_1 : Kd.C (Kd.int .i64) w A0_1 l0_1.length l0_1) (hc0_1 : l0_1.length ≤ c0_1) (hr0_2 : Kd.C (Kd.int .i64) w A0_2 l0_2.length l0_2) (hc0_2 : l0_2.length ≤ c0_2) (h : spec_FallsOf.f k a0_0 l0_1 l0_2 = some (r1,r2,r3)) :
  Calls Try.prog 29 #[.agg #[.int .i64 a0_0,.slice A0_1 l0_1.length c0_1,.slice A0_2 l0_2.length c0_2]] w fun e w'=>∃ v0_ v1_ : Value,e = .returned (.tuple #[v0_,v1_,.bool r3]) ∧ Kd.R (Kd.int .i64) 3 w' w.heap.size (fun k_=>ob k_ v1_) v0_ r1 ∧ Kd.R (Kd.int .i64) 3 w' w.heap.size (fun k_=>ob k_ v0_) v1_ r2 ∧ Below w.heap.size w w':=by
 have hu27:=Try.underlying27
 have HR0_1:=Aside0.mk hr0_1
 have HC0_1:=Aside0.mk hc0_1
 clear hr0_1 hc0_1
 have HR0_2:=Aside0.mk hr0_2
 have HC0_2:=Aside0.mk hc0_2
 clear hr0_2 hc0_2
 have HB:=Aside0.mk (Below.refl w.heap.size w)
 have H : ((some (([] : List Int) : List Int)).bind fun y219=>((some (([] : List Int) : List Int)).bind fun y222=>((spec_l8Wire.f k a0_0 l0_1 l0_2).bind fun t225=>(if t225 = true then (spec_FallsOf.l0 k y219 y222 0 a0_0 l0_1 l0_2) else (some (y219,y222,false)))))) = some (r1,r2,r3):=h
 clear h
 obtain ⟨y219,hy219⟩ : ∃ y_ : List Int,y_ = (([] : List Int)):=⟨_,rfl⟩
 replace H : ((some (([] : List Int) : List Int)).bind fun y222=>((spec_l8Wire.f k a0_0 l0_1 l0_2).bind fun t225=>(if t225 = true then (spec_FallsOf.l0 k y219 y222 0 a0_0 l0_1 l0_2) else (some (y219,y222,false))))) = some (r1,r2,r3):=by first|(rw [hy219];with_reducible exact H)|(have H2_:=(Option.bind_some _ _).symm.trans H;rw [hy219];with_reducible exact H2_)|(have H2_:=(Option.bind_some _ _).symm.trans H;with_reducible exact H2_)|with_reducible exact H|(rw [hy219];exact H)|exact H
 have Ny219:=Aside0.mk hy219
 clear hy219
 obtain ⟨y222,hy222⟩ : ∃ y_ : List Int,y_ = (([] : List Int)):=⟨_,rfl⟩
 replace H : ((spec_l8Wire.f k a0_0 l0_1 l0_2).bind fun t225=>(if t225 = true then (spec_FallsOf.l0 k y219 y222 0 a0_0 l0_1 l0_2) else (some (y219,y222,false)))) = some (r1,r2,r3):=by first|(rw [hy222];with_reducible exact H)|(have H2_:=(Option.bind_some _ _).symm.trans H;rw [hy222];with_reducible exact H2_)|(have H2_:=(Option.bind_some _ _).symm.trans H;with_reducible exact H2_)|with_reducible exact H|(rw [hy222];exact H)|exact H
 have Ny222:=Aside0.mk hy222
 clear hy222
 replace H:=Option.bind_eq_some_iff.mp H
 obtain ⟨t225,A20,H⟩:=H
 have A2:=Aside0.mk A20
 clear A20
 by_cases c3 : t225 = true
 rotate_left
 ·replace c3:=Bool.eq_false_iff.mpr c3
  subst c3
  rw [if_neg (show ¬ (false = true) by decide)] at H
  simp only [Option.some.injEq,Prod.mk.injEq] at H
  obtain ⟨rfl,rfl,rfl⟩:=H
  go_enter Try.func29,Try.ntmps29
  go_wp2_with (first|((with_reducible refine gate_dst (N:=1) rfl ?_);refine box_event ?hg (N:=1) ?hd (cs:=#[.int .i64 a0_0,.slice A0_1 l0_1.length c0_1,.slice A0_2 l0_2.length c0_2]) (t:=27) ?hr ?_;(case hd=>rfl);(case hg=>rfl);(case hr=>first|(go_simp;done)|(go_simp;rfl));intro gb218 hg w34 hbox hb;have BK218:=ak hbox;have GW218:=ak ((by rw [hg];exact (below_size (hm HB.out)) : w.heap.size ≤ gb218));have GE218:=ak ((by rw [hg];exact (below_size (hm HB.out)) : w.heap.size ≤ gb218));replace HB:=bs HB hb;clear hb hbox hg)|((with_reducible refine gate_dst (N:=9) rfl ?_);refine R_lit (Kd.int .i64) _ 3 ?hg (N:=9) ?hd (xs:=([] : List Int)) (inner:=[]) (ok:=fun _=>True) (okp:=fun _=>True) ?hr ?hp (fun _ hk=>hk) trivial (Below.refl _ _) (Nat.le_refl _) (by simp) ?_;(case hd=>rfl);(case hg=>rfl);(case hr=>first|(go_simp;done)|(go_simp;rfl));(case hp=>exact (Reps.none _ _));intro v220 w35 ho36 hb hg_ hnew_;clear hg_ hnew_;(rw [← Ny219.out] at ho36);have HO221:=ak (R_lower ho36 (below_size (h1 HB.out GE218.out)));replace BK218:=kb BK218 hb;replace HB:=ak (below_step (h1 HB.out GE218.out) hb);clear hb ho36)|((with_reducible refine gate_dst (N:=10) rfl ?_);refine R_lit (Kd.int .i64) _ 3 ?hg (N:=10) ?hd (xs:=([] : List Int)) (inner:=[]) (ok:=fun _=>True) (okp:=fun _=>True) ?hr ?hp (fun _ hk=>hk) trivial (Below.refl _ _) (Nat.le_refl _) (by simp) ?_;(case hd=>rfl);(case hg=>rfl);(case hr=>first|(go_simp;done)|(go_simp;rfl));(case hp=>exact (Reps.none _ _));intro v223 w37 ho38 hb hg_ hnew_;clear hg_ hnew_;(rw [← Ny222.out] at ho38);have HO224:=ak (R_lower (R_new' ho38 (R_lt (rm HO221.out))) (below_size (h1 HB.out GE218.out)));replace HO221:=ak (R_elder' (rm HO221.out) (R_base ho38) hb);replace BK218:=kb BK218 hb;replace HB:=ak (below_step (h1 HB.out GE218.out) hb);clear hb ho38;have hcz39_0 : w37.cell? ⟨gb218,0,none⟩ = some (.int .i64 a0_0):=(blk_cell BK218.out 0).trans rfl;have hcz39_1 : w37.cell? ⟨gb218,1,none⟩ = some (.slice A0_1 l0_1.length c0_1):=(blk_cell BK218.out 1).trans rfl;have hcz39_2 : w37.cell? ⟨gb218,2,none⟩ = some (.slice A0_2 l0_2.length c0_2):=(blk_cell BK218.out 2).trans rfl;have hfz39_0:=blk_frozen BK218.out 0;have hfz39_1:=blk_frozen BK218.out 1;have hfz39_2:=blk_frozen BK218.out 2)|((with_reducible refine gate_callee (f:=40) rfl ?_);refine goesL_ (some 12) rfl rfl Try.func40 (by kernel_rfl) rfl #[.agg #[.int .i64 a0_0,.slice A0_1 l0_1.length c0_1,.slice A0_2 l0_2.length c0_2]] rfl gl ?_;(with_reducible refine (spec_l8Wire.calls k a0_0 _ _ l0_1 _ _ l0_2 false _ ?side1 ?side2 ?side3 ?side4 A2.out).mono ?_);(case side1=>exact cm (C_below HR0_1.out HB.out));(case side2=>exact HC0_1.out);(case side3=>exact cm (C_below HR0_2.out HB.out));(case side4=>exact HC0_2.out);rintro e w40 ⟨rfl,hb⟩;refine ⟨_,rfl,?_⟩;replace HO221:=rb HO221 hb;replace HO224:=rb HO224 hb;replace BK218:=kb BK218 hb;replace HB:=ak (below_step (h1 HB.out GE218.out) hb);(try clear hb)))
  go_ret3
  exact ⟨_,_,fe,rm (R_mono HO221.out (fun _ hk=>hk.2)),rm (R_mono HO224.out (fun _ hk=>hk.2)),h1 HB.out GE218.out⟩
 subst c3
 rw [if_pos rfl] at H
 have H':=Aside0.mk H
 clear H
 go_enter Try.func29,Try.ntmps29
 go_wp2_with (first|((with_reducible refine gate_dst (N:=1) rfl ?_);refine box_event ?hg (N:=1) ?hd (cs:=#[.int .i64 a0_0,.slice A0_1 l0_1.length c0_1,.slice A0_2 l0_2.length c0_2]) (t:=27) ?hr ?_;(case hd=>rfl);(case hg=>rfl);(case hr=>first|(go_simp;done)|(go_simp;rfl));intro gb218 hg w4 hbox hb;have BK218:=ak hbox;have GW218:=ak ((by rw [hg];exact (below_size (hm HB.out)) : w.heap.size ≤ gb218));have GE218:=ak ((by rw [hg];exact (below_size (hm HB.out)) : w.heap.size ≤ gb218));replace HB:=bs HB hb;clear hb hbox hg)|((with_reducible refine gate_dst (N:=9) rfl ?_);refine R_lit (Kd.int .i64) _ 3 ?hg (N:=9) ?hd (xs:=([] : List Int)) (inner:=[]) (ok:=fun _=>True) (okp:=fun _=>True) ?hr ?hp (fun _ hk=>hk) trivial (Below.refl _ _) (Nat.le_refl _) (by simp) ?_;(case hd=>rfl);(case hg=>rfl);(case hr=>first|(go_simp;done)|(go_simp;rfl));(case hp=>exact (Reps.none _ _));intro v220 w5 ho6 hb hg_ hnew_;clear hg_ hnew_;(rw [← Ny219.out] at ho6);have HO221:=ak (R_lower ho6 (below_size (h1 HB.out GE218.out)));replace BK218:=kb BK218 hb;replace HB:=ak (below_step (h1 HB.out GE218.out) hb);clear hb ho6)|((with_reducible refine gate_dst (N:=10) rfl ?_);refine R_lit (Kd.int .i64) _ 3 ?hg (N:=10) ?hd (xs:=([] : List Int)) (inner:=[]) (ok:=fun _=>True) (okp:=fun _=>True) ?hr ?hp (fun _ hk=>hk) trivial (Below.refl _ _) (Nat.le_refl _) (by simp) ?_;(case hd=>rfl);(case hg=>rfl);(case hr=>first|(go_simp;done)|(go_simp;rfl));(case hp=>exact (Reps.none _ _));intro v223 w7 ho8 hb hg_ hnew_;clear hg_ hnew_;(rw [← Ny222.out] at ho8);have HO224:=ak (R_lower (R_new' ho8 (R_lt (rm HO221.out))) (below_size (h1 HB.out GE218.out)));replace HO221:=ak (R_elder' (rm HO221.out) (R_base ho8) hb);replace BK218:=kb BK218 hb;replace HB:=ak (below_step (h1 HB.out GE218.out) hb);clear hb ho8;have hcz9_0 : w7.cell? ⟨gb218,0,none⟩ = some (.int .i64 a0_0):=(blk_cell BK218.out 0).trans rfl;have hcz9_1 : w7.cell? ⟨gb218,1,none⟩ = some (.slice A0_1 l0_1.length c0_1):=(blk_cell BK218.out 1).trans rfl;have hcz9_2 : w7.cell? ⟨gb218,2,none⟩ = some (.slice A0_2 l0_2.length c0_2):=(blk_cell BK218.out 2).trans rfl;have hfz9_0:=blk_frozen BK218.out 0;have hfz9_1:=blk_frozen BK218.out 1;have hfz9_2:=blk_frozen BK218.out 2)|((with_reducible refine gate_callee (f:=40) rfl ?_);refine goesL_ (some 12) rfl rfl Try.func40 (by kernel_rfl) rfl #[.agg #[.int .i64 a0_0,.slice A0_1 l0_1.length c0_1,.slice A0_2 l0_2.length c0_2]] rfl gl ?_;(with_reducible refine (spec_l8Wire.calls k a0_0 _ _ l0_1 _ _ l0_2 true _ ?side1 ?side2 ?side3 ?side4 A2.out).mono ?_);(case side1=>exact cm (C_below HR0_1.out HB.out));(case side2=>exact HC0_1.out);(case side3=>exact cm (C_below HR0_2.out HB.out));(case side4=>exact HC0_2.out);rintro e w10 ⟨rfl,hb⟩;refine ⟨_,rfl,?_⟩;replace HO221:=rb HO221 hb;replace HO224:=rb HO224 hb;replace BK218:=kb BK218 hb;replace HB:=ak (below_step (h1 HB.out GE218.out) hb);(try clear hb)))
 go_loopg [5,6,7] k (fun kq v5 v6 v7 w'=>∃ (x5_1 : List Int) (x6_1 : List Int) (x7_1 : Int),v7 = .int .i64 x7_1 ∧ Aside0 (spec_FallsOf.l0 kq x5_1 x6_1 x7_1 a0_0 l0_1 l0_2 = some (r1,r2,r3)) ∧ Aside0 (kq ≤ k) ∧ Aside0 (Kd.R (Kd.int .i64) 3 w' w.heap.size (fun k_=>ob k_ v6) v5 x5_1) ∧ Aside0 (Kd.R (Kd.int .i64) 3 w' w.heap.size (fun k_=>ob k_ v5) v6 x6_1) ∧ Aside0 (w'.heap[gb218]? = some (.cells #[.int .i64 a0_0,(.slice A0_1 l0_1.length c0_1),(.slice A0_2 l0_2.length c0_2)] 27 (0,0))) ∧ Aside0 (Below w.heap.size w w'))
 case atStart=>exact ⟨(y219),(y222),(0),fd,H',⟨Nat.le_refl _⟩,⟨rm (R_mono HO221.out (fun _ hk=>hk.2))⟩,⟨rm (R_mono HO224.out (fun _ hk=>hk.2))⟩,⟨bm BK218.out⟩,⟨h1 HB.out GE218.out⟩⟩
 clear H'
 clear hcz9_0 hcz9_1 hcz9_2 hfz9_0 hfz9_1 hfz9_2
 obtain ⟨x5_1,x6_1,x7_1,rfl,HA,HK1,HO_5,HO_6,BK218,HB⟩:=hrel
 cases gk with
 | zero=>exact absurd HA.out (by simp [spec_FallsOf.l0])
 | succ k1 =>
  have H:=HA.out
  clear HA
  simp only [spec_FallsOf.l0] at H
  by_cases c11 : x7_1 < (l0_1.length : Int)
  ·rw [if_pos c11] at H
   have c11b0 : decide (x7_1 < (l0_1.length : Int)) = true:=decide_eq_true c11
   clear c11
   by_cases c12 : 0 ≤ x7_1
   rotate_left
   ·rw [if_neg c12] at H
    exact absurd H (by simp)
   rw [if_pos c12] at H
   have c12b0 : decide (0 ≤ x7_1) = true:=decide_eq_true c12
   clear c12
   by_cases c13 : x7_1 < (l0_2.length : Int)
   rotate_left
   ·rw [if_neg c13] at H
    exact absurd H (by simp)
   rw [if_pos c13] at H
   have c13b0 : decide (x7_1 < (l0_2.length : Int)) = true:=decide_eq_true c13
   clear c13
   by_cases c14 : (rd l0_2 x7_1) < 0
   rotate_left
   ·rw [if_neg c14] at H
    have c14b0 : decide ((rd l0_2 x7_1) < 0) = false:=decide_eq_false c14
    clear c14
    have H':=Aside0.mk H
    clear H
    have hcz20_0 : wr.cell? ⟨gb218,0,none⟩ = some (.int .i64 a0_0):=(blk_cell BK218.out 0).trans rfl
    have hcz20_1 : wr.cell? ⟨gb218,1,none⟩ = some (.slice A0_1 l0_1.length c0_1):=(blk_cell BK218.out 1).trans rfl
    have hcz20_2 : wr.cell? ⟨gb218,2,none⟩ = some (.slice A0_2 l0_2.length c0_2):=(blk_cell BK218.out 2).trans rfl
    have hfz20_0:=blk_frozen BK218.out 0
    have hfz20_1:=blk_frozen BK218.out 1
    have hfz20_2:=blk_frozen BK218.out 2
    have p226 : 0 ≤ (x7_1 : Int):=od
    have q226 : x7_1 < (l0_2.length : Int):=od
    obtain ⟨ad226,e226,hx226_0⟩:=Kd.at_int HR0_2.out x7_1 p226 q226
    cases e226
    replace hx226_0:=(HB.out.cell (World.block_lt_of_cell? w _ hx226_0)).trans hx226_0
    replace p226:=eq_true p226
    replace q226:=eq_true q226
    go_wp2
    go_roundg k1
    case measure=>have:=HK1.out;omega
    case rel=>exact ⟨(x5_1),(x6_1),(wrap64 (x7_1 + 1)),fd,H',⟨by have:=HK1.out;omega⟩,⟨rm HO_5.out⟩,⟨rm HO_6.out⟩,⟨bm BK218.out⟩,⟨h1 HB.out GE218.out⟩⟩
   rw [if_pos c14] at H
   have c14b0 : decide ((rd l0_2 x7_1) < 0) = true:=decide_eq_true c14
   clear c14
   by_cases c15 : x5_1.length < 17592186044416
   rotate_left
   ·rw [if_neg c15] at H
    exact absurd H (by simp)
   rw [if_pos c15] at H
   have LMc15:=Aside0.mk c15
   clear c15
   obtain ⟨y228,hy228⟩ : ∃ y_ : List Int,y_ = (x5_1 ++ [rd l0_1 x7_1]):=⟨_,rfl⟩
   replace H : (if x6_1.length < 17592186044416 then (spec_FallsOf.l0 k1 y228 (x6_1 ++ [(-1)]) (wrap64 (x7_1 + 1)) a0_0 l0_1 l0_2) else (none)) = some (r1,r2,r3):=by first|(rw [hy228];with_reducible exact H)|(have H2_:=(Option.bind_some _ _).symm.trans H;rw [hy228];with_reducible exact H2_)|(have H2_:=(Option.bind_some _ _).symm.trans H;with_reducible exact H2_)|with_reducible exact H|(rw [hy228];exact H)|exact H
   have Ny228:=Aside0.mk hy228
   clear hy228
   by_cases c16 : x6_1.length < 17592186044416
   rotate_left
   ·rw [if_neg c16] at H
    exact absurd H (by simp)
   rw [if_pos c16] at H
   have LMc16:=Aside0.mk c16
   clear c16
   obtain ⟨y231,hy231⟩ : ∃ y_ : List Int,y_ = (x6_1 ++ [(-1)]):=⟨_,rfl⟩
   replace H : (spec_FallsOf.l0 k1 y228 y231 (wrap64 (x7_1 + 1)) a0_0 l0_1 l0_2) = some (r1,r2,r3):=by first|(rw [hy231];with_reducible exact H)|(have H2_:=(Option.bind_some _ _).symm.trans H;rw [hy231];with_reducible exact H2_)|(have H2_:=(Option.bind_some _ _).symm.trans H;with_reducible exact H2_)|with_reducible exact H|(rw [hy231];exact H)|exact H
   have Ny231:=Aside0.mk hy231
   clear hy231
   have H':=Aside0.mk H
   clear H
   have hcz17_0 : wr.cell? ⟨gb218,0,none⟩ = some (.int .i64 a0_0):=(blk_cell BK218.out 0).trans rfl
   have hcz17_1 : wr.cell? ⟨gb218,1,none⟩ = some (.slice A0_1 l0_1.length c0_1):=(blk_cell BK218.out 1).trans rfl
   have hcz17_2 : wr.cell? ⟨gb218,2,none⟩ = some (.slice A0_2 l0_2.length c0_2):=(blk_cell BK218.out 2).trans rfl
   have hfz17_0:=blk_frozen BK218.out 0
   have hfz17_1:=blk_frozen BK218.out 1
   have hfz17_2:=blk_frozen BK218.out 2
   have p226 : 0 ≤ (x7_1 : Int):=od
   have q226 : x7_1 < (l0_2.length : Int):=od
   obtain ⟨ad226,e226,hx226_0⟩:=Kd.at_int HR0_2.out x7_1 p226 q226
   cases e226
   replace hx226_0:=(HB.out.cell (World.block_lt_of_cell? w _ hx226_0)).trans hx226_0
   replace p226:=eq_true p226
   replace q226:=eq_true q226
   have p227 : 0 ≤ (x7_1 : Int):=od
   have q227 : x7_1 < (l0_1.length : Int):=od
   obtain ⟨ad227,e227,hx227_0⟩:=Kd.at_int HR0_1.out x7_1 p227 q227
   cases e227
   replace hx227_0:=(HB.out.cell (World.block_lt_of_cell? w _ hx227_0)).trans hx227_0
   replace p227:=eq_true p227
   replace q227:=eq_true q227
   go_wp2_with (first|((with_reducible refine gate_builtin (b:=.append) (xs:=#[.tmp 29,.tmp 35]) rfl ?_);at_builtin;refine R_append (Kd.int .i64) (w0:=w) w.heap.size rfl (.tmp 29) (.tmp 35) 22 3 (.int .i64 0) 8 rfl Try.underlying22 info3 rfl (by decide) (by omega) u5 x5_1 (rd l0_1 x7_1) [.int .i64 (rd l0_1 x7_1)] (fun k_=>ob k_ u6) (fun _=>False) rfl rfl ?aP (fun _ hk=>hk.elim) ?aF ?aO ?aB ?aS ?aL ?_;(case aP=>exact rfl);(case aB=>exact (h1 HB.out GE218.out));(case aF=>exact (fun k_ hk=>Kd.fresh' (R_lt (rm HO_6.out)) k_ hk));(case aO=>exact (rm HO_5.out));(case aS=>exact (below_size (h1 HB.out GE218.out)));(case aL=>have:=LMc15.out;omega);intro v229 w18 ho hb hg hat;rw [← Ny228.out] at ho;replace HO_6:=ak (R_after (ok:=(fun _=>True)) (rm (R_mono HO_6.out (fun _ hk=>⟨trivial,hk⟩))) hg hat);replace BK218:=ak (blk_grown (g:=gb218) (o:=.cells #[.int .i64 a0_0,.slice (some ad227) l0_1.length c0_1,.slice (some ad226) l0_2.length c0_2] 27 (0,0)) (bm BK218.out) hg (R_ne HO_5.out BK218.out (by decide)));replace HB:=ak hb;have HO230:=ak ho;clear HO_5;clear ho hb hg hat)|((with_reducible refine gate_builtin (b:=.append) (xs:=#[.tmp 37,.tmp 38]) rfl ?_);at_builtin;refine R_append (Kd.int .i64) (w0:=w) w.heap.size rfl (.tmp 37) (.tmp 38) 22 3 (.int .i64 0) 8 rfl Try.underlying22 info3 rfl (by decide) (by omega) u6 x6_1 (-1) [.int .i64 (-1)] (fun k_=>ob k_ v229) (fun _=>False) rfl rfl ?aP (fun _ hk=>hk.elim) ?aF ?aO ?aB ?aS ?aL ?_;(case aP=>exact rfl);(case aB=>exact (h1 HB.out GE218.out));(case aF=>exact (fun k_ hk=>Kd.fresh' (R_lt (rm HO230.out)) k_ hk));(case aO=>exact (rm (R_mono HO_6.out (fun _ hk=>hk.2))));(case aS=>exact (below_size (h1 HB.out GE218.out)));(case aL=>have:=LMc16.out;omega);intro v232 w19 ho hb hg hat;rw [← Ny231.out] at ho;replace BK218:=ak (blk_grown (g:=gb218) (o:=.cells #[.int .i64 a0_0,.slice (some ad227) l0_1.length c0_1,.slice (some ad226) l0_2.length c0_2] 27 (0,0)) (bm BK218.out) hg (R_ne HO_6.out BK218.out (by decide)));replace HO230:=ak (R_after (ok:=(fun _=>True)) (rm (R_mono HO230.out (fun _ hk=>⟨trivial,hk⟩))) hg hat);replace HB:=ak hb;have HO233:=ak ho;clear HO_6;clear ho hb hg hat))
   go_roundg k1
   case measure=>have:=HK1.out;omega
   case rel=>exact ⟨(y228),(y231),(wrap64 (x7_1 + 1)),fd,H',⟨by have:=HK1.out;omega⟩,⟨rm (R_mono HO230.out (fun _ hk=>hk.2))⟩,⟨rm HO233.out⟩,⟨bm BK218.out⟩,⟨h1 HB.out GE218.out⟩⟩
  rw [if_neg c11] at H
  have c11b0 : decide (x7_1 < (l0_1.length : Int)) = false:=decide_eq_false c11
  clear c11
  have H':=Aside0.mk H
  clear H
  have hcz21_0 : wr.cell? ⟨gb218,0,none⟩ = some (.int .i64 a0_0):=(blk_cell BK218.out 0).trans rfl
  have hcz21_1 : wr.cell? ⟨gb218,1,none⟩ = some (.slice A0_1 l0_1.length c0_1):=(blk_cell BK218.out 1).trans rfl
  have hcz21_2 : wr.cell? ⟨gb218,2,none⟩ = some (.slice A0_2 l0_2.length c0_2):=(blk_cell BK218.out 2).trans rfl
  have hfz21_0:=blk_frozen BK218.out 0
  have hfz21_1:=blk_frozen BK218.out 1
  have hfz21_2:=blk_frozen BK218.out 2
  go_wp2
  go_loopg [5,6,8] k1 (fun kq v5 v6 v8 w'=>∃ (x5_2 : List Int) (x6_2 : List Int) (x8_2 : Int),v8 = .int .i64 x8_2 ∧ Aside0 (spec_FallsOf.l1 kq x5_2 x6_2 x8_2 a0_0 l0_1 l0_2 = some (r1,r2,r3)) ∧ Aside0 (kq ≤ k1) ∧ Aside0 (Kd.R (Kd.int .i64) 3 w' w.heap.size (fun k_=>ob k_ v6) v5 x5_2) ∧ Aside0 (Kd.R (Kd.int .i64) 3 w' w.heap.size (fun k_=>ob k_ v5) v6 x6_2) ∧ Aside0 (w'.heap[gb218]? = some (.cells #[.int .i64 a0_0,(.slice A0_1 l0_1.length c0_1),(.slice A0_2 l0_2.length c0_2)] 27 (0,0))) ∧ Aside0 (Below w.heap.size w w'))
  case atStart=>exact ⟨(x5_1),(x6_1),(0),fd,H',⟨Nat.le_refl _⟩,⟨rm HO_5.out⟩,⟨rm HO_6.out⟩,⟨bm BK218.out⟩,⟨h1 HB.out GE218.out⟩⟩
  clear H'
  clear c11b0 hcz21_0 hcz21_1 hcz21_2 hfz21_0 hfz21_1 hfz21_2
  obtain ⟨x5_2,x6_2,x8_2,rfl,HA,HK2,HO_5,HO_6,BK218,HB⟩:=hrel
  cases gk with
  | zero=>exact absurd HA.out (by simp [spec_FallsOf.l1])
  | succ k2 =>
   have H:=HA.out
   clear HA
   simp only [spec_FallsOf.l1] at H
   by_cases c22 : x8_2 < (l0_1.length : Int)
   rotate_left
   ·rw [if_neg c22] at H
    have c22b0 : decide (x8_2 < (l0_1.length : Int)) = false:=decide_eq_false c22
    clear c22
    simp only [Option.some.injEq,Prod.mk.injEq] at H
    obtain ⟨rfl,rfl,rfl⟩:=H
    have hcz33_0 : wr.cell? ⟨gb218,0,none⟩ = some (.int .i64 a0_0):=(blk_cell BK218.out 0).trans rfl
    have hcz33_1 : wr.cell? ⟨gb218,1,none⟩ = some (.slice A0_1 l0_1.length c0_1):=(blk_cell BK218.out 1).trans rfl
    have hcz33_2 : wr.cell? ⟨gb218,2,none⟩ = some (.slice A0_2 l0_2.length c0_2):=(blk_cell BK218.out 2).trans rfl
    have hfz33_0:=blk_frozen BK218.out 0
    have hfz33_1:=blk_frozen BK218.out 1
    have hfz33_2:=blk_frozen BK218.out 2
    go_wp2
    go_ret3
    exact ⟨_,_,fe,rm HO_5.out,rm HO_6.out,h1 HB.out GE218.out⟩
   rw [if_pos c22] at H
   have c22b0 : decide (x8_2 < (l0_1.length : Int)) = true:=decide_eq_true c22
   clear c22
   by_cases c23 : 0 ≤ x8_2
   rotate_left
   ·rw [if_neg c23] at H
    exact absurd H (by simp)
   rw [if_pos c23] at H
   have c23b0 : decide (0 ≤ x8_2) = true:=decide_eq_true c23
   clear c23
   by_cases c24 : x8_2 < (l0_2.length : Int)
   rotate_left
   ·rw [if_neg c24] at H
    exact absurd H (by simp)
   rw [if_pos c24] at H
   have c24b0 : decide (x8_2 < (l0_2.length : Int)) = true:=decide_eq_true c24
   clear c24
   by_cases c25 : (rd l0_2 x8_2) > 0
   rotate_left
   ·rw [if_neg c25] at H
    have c25b0 : decide (0 < (rd l0_2 x8_2)) = false:=decide_eq_false c25
    clear c25
    have H':=Aside0.mk H
    clear H
    have hcz32_0 : wr.cell? ⟨gb218,0,none⟩ = some (.int .i64 a0_0):=(blk_cell BK218.out 0).trans rfl
    have hcz32_1 : wr.cell? ⟨gb218,1,none⟩ = some (.slice A0_1 l0_1.length c0_1):=(blk_cell BK218.out 1).trans rfl
    have hcz32_2 : wr.cell? ⟨gb218,2,none⟩ = some (.slice A0_2 l0_2.length c0_2):=(blk_cell BK218.out 2).trans rfl
    have hfz32_0:=blk_frozen BK218.out 0
    have hfz32_1:=blk_frozen BK218.out 1
    have hfz32_2:=blk_frozen BK218.out 2
    have p234 : 0 ≤ (x8_2 : Int):=od
    have q234 : x8_2 < (l0_2.length : Int):=od
    obtain ⟨ad234,e234,hx234_0⟩:=Kd.at_int HR0_2.out x8_2 p234 q234
    cases e234
    replace hx234_0:=(HB.out.cell (World.block_lt_of_cell? w _ hx234_0)).trans hx234_0
    replace p234:=eq_true p234
    replace q234:=eq_true q234
    go_wp2
    go_roundg k2
    case measure=>have:=HK1.out;have:=HK2.out;omega
    case rel=>exact ⟨(x5_2),(x6_2),(wrap64 (x8_2 + 1)),fd,H',⟨by have:=HK1.out;have:=HK2.out;omega⟩,⟨rm HO_5.out⟩,⟨rm HO_6.out⟩,⟨bm BK218.out⟩,⟨h1 HB.out GE218.out⟩⟩
   rw [if_pos c25] at H
   have c25b0 : decide (0 < (rd l0_2 x8_2)) = true:=decide_eq_true c25
   clear c25
   by_cases c26 : x5_2.length < 17592186044416
   rotate_left
   ·rw [if_neg c26] at H
    exact absurd H (by simp)
   rw [if_pos c26] at H
   have LMc26:=Aside0.mk c26
   clear c26
   obtain ⟨y236,hy236⟩ : ∃ y_ : List Int,y_ = (x5_2 ++ [wrap64 (a0_0 - (rd l0_1 x8_2))]):=⟨_,rfl⟩
   replace H : (if x6_2.length < 17592186044416 then (spec_FallsOf.l1 k2 y236 (x6_2 ++ [1]) (wrap64 (x8_2 + 1)) a0_0 l0_1 l0_2) else (none)) = some (r1,r2,r3):=by first|(rw [hy236];with_reducible exact H)|(have H2_:=(Option.bind_some _ _).symm.trans H;rw [hy236];with_reducible exact H2_)|(have H2_:=(Option.bind_some _ _).symm.trans H;with_reducible exact H2_)|with_reducible exact H|(rw [hy236];exact H)|exact H
   have Ny236:=Aside0.mk hy236
   clear hy236
   by_cases c27 : x6_2.length < 17592186044416
   rotate_left
   ·rw [if_neg c27] at H
    exact absurd H (by simp)
   rw [if_pos c27] at H
   have LMc27:=Aside0.mk c27
   clear c27
   obtain ⟨y239,hy239⟩ : ∃ y_ : List Int,y_ = (x6_2 ++ [1]):=⟨_,rfl⟩
   replace H : (spec_FallsOf.l1 k2 y236 y239 (wrap64 (x8_2 + 1)) a0_0 l0_1 l0_2) = some (r1,r2,r3):=by first|(rw [hy239];with_reducible exact H)|(have H2_:=(Option.bind_some _ _).symm.trans H;rw [hy239];with_reducible exact H2_)|(have H2_:=(Option.bind_some _ _).symm.trans H;with_reducible exact H2_)|with_reducible exact H|(rw [hy239];exact H)|exact H
   have Ny239:=Aside0.mk hy239
   clear hy239
   have H':=Aside0.mk H
   clear H
   have hcz28_0 : wr.cell? ⟨gb218,0,none⟩ = some (.int .i64 a0_0):=(blk_cell BK218.out 0).trans rfl
   have hcz28_1 : wr.cell? ⟨gb218,1,none⟩ = some (.slice A0_1 l0_1.length c0_1):=(blk_cell BK218.out 1).trans rfl
   have hcz28_2 : wr.cell? ⟨gb218,2,none⟩ = some (.slice A0_2 l0_2.length c0_2):=(blk_cell BK218.out 2).trans rfl
   have hfz28_0:=blk_frozen BK218.out 0
   have hfz28_1:=blk_frozen BK218.out 1
   have hfz28_2:=blk_frozen BK218.out 2
   have p234 : 0 ≤ (x8_2 : Int):=od
   have q234 : x8_2 < (l0_2.length : Int):=od
   obtain ⟨ad234,e234,hx234_0⟩:=Kd.at_int HR0_2.out x8_2 p234 q234
   cases e234
   replace hx234_0:=(HB.out.cell (World.block_lt_of_cell? w _ hx234_0)).trans hx234_0
   replace p234:=eq_true p234
   replace q234:=eq_true q234
   try go_wp2
   replace HO_5:=ak (R_drew HO_5.out)
   replace HO_6:=ak (R_drew HO_6.out)
   replace BK218:=ak (blk_drew BK218.out)
   replace HB:=ak (below_drew1 HB.out)
   have p235 : 0 ≤ (x8_2 : Int):=od
   have q235 : x8_2 < (l0_1.length : Int):=od
   obtain ⟨ad235,e235,hx235_0⟩:=Kd.at_int HR0_1.out x8_2 p235 q235
   have hw235_0:=hx235_0
   cases e235
   replace hx235_0:=(HB.out.cell (World.block_lt_of_cell? w _ hx235_0)).trans hx235_0
   replace p235:=eq_true p235
   replace q235:=eq_true q235
   refine start_ (n:=12) (S:=fun w'=>w'.cell? ⟨gb218,0,none⟩ = some (.int .i64 a0_0) ∧ w'.cell? ⟨gb218,1,none⟩ = some (.slice (some ad235) l0_1.length c0_1) ∧ w'.cell? ⟨gb218,2,none⟩ = some (.slice (some ad234) l0_2.length c0_2) ∧ w'.cell? (ad235.add (x8_2).toNat) = some (.int .i64 (rd l0_1 x8_2))) (ds:=[]) (lb 12 0) (by kernel_rfl) rfl rfl ⟨(blk_cell BK218.out 0).trans rfl,(blk_cell BK218.out 1).trans rfl,(blk_cell BK218.out 2).trans rfl,((HB.out.cell (World.block_lt_of_cell? w _ hw235_0)).trans hw235_0)⟩ (fun hHeld=>?_);refine with_tabW spec_FallsOf.tab14 spec_FallsOf.bits14 (fun HT_ HW_=>?_)
   generalize wr.drew = w29 at HO_5 HO_6 BK218 HB hx235_0 hHeld ⊢
   refine pq 0 (N:=some 53) (lb 12 1) HT_ ?_
   refine pq 1 (N:=some 54) (lb 12 3) HT_ ?_
   refine pq 3 (N:=some 56) (lb 12 11) HT_ ?_
   refine pq 5 (N:=some 58) (lb 12 43) HT_ ?_
   refine tq 2 (N:=some 55) (lb 12 47) HT_ HW_ hHeld ?_
   refine tq 4 (N:=some 57) (lb 12 63) HT_ HW_ hHeld ?_
   refine pq 6 (N:=some 59) (lb 12 127) HT_ ?_
   refine tq 7 (N:=some 60) (lb 12 255) HT_ HW_ hHeld ?_
   refine pq 8 (N:=some 61) (lb 12 511) HT_ ?_
   refine one_ (i:=9) (N:=some 62) (lb 12 1023) rfl rfl (one_of HT_.out (by kernel_rfl)) (by decide) (fun K hK=>?_)
   refine value_ (w1:=?_) (v:=?_) (by rfl) rfl ?_ ?_
   rotate_left 2
   ·go_simp
    constructor
    rotate_left
    ·rfl
    rfl
   refine hK.out _ _ ⟨(blk_cell (blk_alloc BK218.out _) 0).trans rfl,(blk_cell (blk_alloc BK218.out _) 1).trans rfl,(blk_cell (blk_alloc BK218.out _) 2).trans rfl,(World.cell?_alloc_lt _ _ _ (World.block_lt_of_cell? _ _ (((HB.out.cell (World.block_lt_of_cell? w _ hw235_0)).trans hw235_0)))).trans (((HB.out.cell (World.block_lt_of_cell? w _ hw235_0)).trans hw235_0))⟩ (fun hHeld=>?_)
   clear hK K
   refine norm_ (a':=?_) ?_ ?_
   rotate_left
   ·show Act.put _ (some 62) _ = _
    simp only [ap]
    rfl
   refine one_ (i:=10) (N:=some 63) (lb 12 2047) rfl rfl (one_of HT_.out (by kernel_rfl)) (by decide) (fun K hK=>?_)
   refine R_append_step (Kd.int .i64) (w0:=w) w.heap.size (by rfl) (.tmp 53) (.tmp 62) 22 3 (.int .i64 0) 8 rfl Try.underlying22 info3 rfl (by decide) (by omega) u5 x5_2 (wrap64 (a0_0 - (rd l0_1 x8_2))) [.int .i64 (wrap64 (a0_0 - (rd l0_1 x8_2)))] (fun k_=>ob k_ u6) (fun _=>False) rfl rfl ?aP (fun _ hk=>hk.elim) ?aF ?aO ?aB ?aS ?aL ?_
   (case aP=>exact rfl)
   (case aB=>exact (h1 HB.out GE218.out))
   (case aF=>exact (fun k_ hk=>Kd.fresh' (R_lt (rm HO_6.out)) k_ hk))
   (case aO=>exact (rm HO_5.out))
   (case aS=>exact (below_size (h1 HB.out GE218.out)))
   (case aL=>have:=LMc26.out;omega)
   intro v237 w30 ho hb hg hat
   rw [← Ny236.out] at ho
   replace HO_6:=ak (R_after (ok:=(fun _=>True)) (rm (R_mono HO_6.out (fun _ hk=>⟨trivial,hk⟩))) hg hat)
   replace BK218:=ak (blk_grown (g:=gb218) (o:=.cells #[.int .i64 a0_0,.slice (some ad235) l0_1.length c0_1,.slice (some ad234) l0_2.length c0_2] 27 (0,0)) (bm BK218.out) hg (R_ne HO_5.out BK218.out (by decide)))
   replace HB:=ak hb
   have HO238:=ak ho
   clear HO_5
   clear ho hb hg hat
   refine hK.out _ _ ⟨(blk_cell BK218.out 0).trans rfl,(blk_cell BK218.out 1).trans rfl,(blk_cell BK218.out 2).trans rfl,((HB.out.cell (World.block_lt_of_cell? w _ hw235_0)).trans hw235_0)⟩ (fun hHeld=>?_)
   clear hK K
   refine norm_ (a':=?_) ?_ ?_
   rotate_left
   ·show Act.put _ (some 63) _ = _
    simp only [ap]
    rfl
   refine pq 11 (N:=some 5) (lb 12 4095) HT_ ?_
   refine done_ (done_of HT_.out (by kernel_rfl)) ?_
   try go_wp2_with (((with_reducible refine gate_builtin (b:=.append) (xs:=#[.tmp 64,.tmp 65]) rfl ?_);at_builtin;refine R_append (Kd.int .i64) (w0:=w) w.heap.size rfl (.tmp 64) (.tmp 65) 22 3 (.int .i64 0) 8 rfl Try.underlying22 info3 rfl (by decide) (by omega) u6 x6_2 1 [.int .i64 1] (fun k_=>ob k_ v237) (fun _=>False) rfl rfl ?aP (fun _ hk=>hk.elim) ?aF ?aO ?aB ?aS ?aL ?_;(case aP=>exact rfl);(case aB=>exact (h1 HB.out GE218.out));(case aF=>exact (fun k_ hk=>Kd.fresh' (R_lt (rm HO238.out)) k_ hk));(case aO=>exact (rm (R_mono HO_6.out (fun _ hk=>hk.2))));(case aS=>exact (below_size (h1 HB.out GE218.out)));(case aL=>have:=LMc27.out;omega);intro v240 w31 ho hb hg hat;rw [← Ny239.out] at ho;replace BK218:=ak (blk_grown (g:=gb218) (o:=.cells #[.int .i64 a0_0,.slice (some ad235) l0_1.length c0_1,.slice (some ad234) l0_2.length c0_2] 27 (0,0)) (bm BK218.out) hg (R_ne HO_6.out BK218.out (by decide)));replace HO238:=ak (R_after (ok:=(fun _=>True)) (rm (R_mono HO238.out (fun _ hk=>⟨trivial,hk⟩))) hg hat);replace HB:=ak hb;have HO241:=ak ho;clear HO_6;clear ho hb hg hat))
   go_roundg k2
   case measure=>have:=HK1.out;have:=HK2.out;omega
   case rel=>exact ⟨(y236),(y239),(wrap64 (x8_2 + 1)),fd,H',⟨by have:=HK1.out;have:=HK2.out;omega⟩,⟨rm (R_mono HO238.out (fun _ hk=>hk.2))⟩,⟨rm HO241.out⟩,⟨bm BK218.out⟩,⟨h1 HB.out GE218.out⟩⟩

/-! ### cmp_isNaN_int: function 84 -/
def cmp_isNaN_int.f (a0 : Int) : Option (Bool):=some (a0 != a0)
set_option maxHeartbeats 8000000 in
set_option maxRecDepth 100000 in
theorem cmp_isNaN_int.calls (a0 : Int) (r : Bool) (w : World) (h : cmp_isNaN_int.f a0 = some r) :
  Calls Try.prog 84 #[.int .i64 a0] w fun e w'=>e = .returned (.bool r) ∧ Drawn0 w w':=by
 have H : (some (a0 != a0)) = some r:=h
 clear h
 obtain rfl:=Option.some.inj H
 go_enter Try.func84,Try.ntmps84
 go_wp2
 go_ret
 exact ⟨by first|rfl|(simp;done)|(simp [*];done),by repeat (exact Drawn0.refl _)⟩

/-! ### cmp_Less_int: function 71 -/
def cmp_Less_int.f (a0 : Int) (a1 : Int) : Option (Bool):=(cmp_isNaN_int.f a0).bind fun t242=>(if t242 = true then ((cmp_isNaN_int.f a1).bind fun t243=>(if t243 = true then (some (decide (a0 < a1))) else (some true))) else (some (decide (a0 < a1))))
set_option maxHeartbeats 8000000 in
set_option maxRecDepth 100000 in
theorem cmp_Less_int.calls (a0 : Int) (a1 : Int) (r : Bool) (w : World) (h : cmp_Less_int.f a0 a1 = some r) :
  Calls Try.prog 71 #[.int .i64 a0,.int .i64 a1] w fun e w'=>e = .returned (.bool r) ∧ Drawn0 w w':=by
 have H : ((cmp_isNaN_int.f a0).bind fun t242=>(if t242 = true then ((cmp_isNaN_int.f a1).bind fun t243=>(if t243 = true then (some (decide (a0 < a1))) else (some true))) else (some (decide (a0 < a1))))) = some r:=h
 clear h
 replace H:=Option.bind_eq_some_iff.mp H
 obtain ⟨t242,A30,H⟩:=H
 have A3:=Aside0.mk A30
 clear A30
 by_cases c4 : t242 = true
 rotate_left
 ·replace c4:=Bool.eq_false_iff.mpr c4
  subst c4
  rw [if_neg (show ¬ (false = true) by decide)] at H
  obtain rfl:=Option.some.inj H
  go_enter Try.func71,Try.ntmps71
  go_wp2_with (((with_reducible refine gate_callee (f:=84) rfl ?_);refine goesL_ (some 6) rfl rfl Try.func84 (by kernel_rfl) rfl #[.int .i64 a0] rfl gl ?_;(with_reducible refine (cmp_isNaN_int.calls a0 false _ A3.out).mono ?_);rintro e w' ⟨rfl,⟨nd,rfl⟩⟩;refine ⟨_,rfl,?_⟩))
  go_ret
  exact ⟨by first|rfl|(simp;done)|(simp [*];done),by repeat (first|exact Drawn0.refl _|apply Drawn0.step)⟩
 subst c4
 rw [if_pos rfl] at H
 replace H:=Option.bind_eq_some_iff.mp H
 obtain ⟨t243,A50,H⟩:=H
 have A5:=Aside0.mk A50
 clear A50
 by_cases c6 : t243 = true
 ·subst c6
  rw [if_pos rfl] at H
  obtain rfl:=Option.some.inj H
  go_enter Try.func71,Try.ntmps71
  go_wp2_with (first|((with_reducible refine gate_callee (f:=84) rfl ?_);refine goesL_ (some 6) rfl rfl Try.func84 (by kernel_rfl) rfl #[.int .i64 a0] rfl gl ?_;(with_reducible refine (cmp_isNaN_int.calls a0 true _ A3.out).mono ?_);rintro e w' ⟨rfl,⟨nd,rfl⟩⟩;refine ⟨_,rfl,?_⟩)|(go_at_call 84;(with_reducible refine (cmp_isNaN_int.calls a1 true _ A5.out).mono ?_);rintro e w' ⟨rfl,⟨nd,rfl⟩⟩))
  go_ret
  exact ⟨by first|rfl|(simp;done)|(simp [*];done),by repeat (first|exact Drawn0.refl _|apply Drawn0.step)⟩
 replace c6:=Bool.eq_false_iff.mpr c6
 subst c6
 rw [if_neg (show ¬ (false = true) by decide)] at H
 obtain rfl:=Option.some.inj H
 go_enter Try.func71,Try.ntmps71
 go_wp2_with (first|((with_reducible refine gate_callee (f:=84) rfl ?_);refine goesL_ (some 6) rfl rfl Try.func84 (by kernel_rfl) rfl #[.int .i64 a0] rfl gl ?_;(with_reducible refine (cmp_isNaN_int.calls a0 true _ A3.out).mono ?_);rintro e w' ⟨rfl,⟨nd,rfl⟩⟩;refine ⟨_,rfl,?_⟩)|(go_at_call 84;(with_reducible refine (cmp_isNaN_int.calls a1 false _ A5.out).mono ?_);rintro e w' ⟨rfl,⟨nd,rfl⟩⟩))
 go_ret
 exact ⟨by first|rfl|(simp;done)|(simp [*];done),by repeat (first|exact Drawn0.refl _|apply Drawn0.step)⟩


end
end Go.Proofs.Ytciihopkgblpkaa.QFnWires
