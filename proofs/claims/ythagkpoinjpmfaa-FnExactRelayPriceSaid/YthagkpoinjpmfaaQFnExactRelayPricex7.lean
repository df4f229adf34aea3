/- Functions that the law FnExactRelayPrice comes to, as Lean functions, with the proof that the Go code does what they say: written by a program of this session over the kit's print. No condition but those named. -/
import Derived.Test.YthagkpoinjpmfaaQFnExactRelayPricex0
import Derived.Test.YthagkpoinjpmfaaQFnExactRelayPricex5
import Derived.Test.YthagkpoinjpmfaaQFnExactRelayPricex6
namespace Go.Proofs.Ythagkpoinjpmfaa.QFnExactRelayPrice
open Go.RowKit Go.Proofs.YthagkpoinjpmfaaW.PrintWords Go.Proofs.YthagkpoinjpmfaaW.PrintLast Go.Proofs.YthagkpoinjpmfaaW.PrintMore
attribute [local go_sem] max2_int min2_int max_two min_two max_three min_three max_four min_four   -- for this text's walks alone
set_option linter.unusedVariables false
set_option linter.unusedSimpArgs false

/-! ### impl_RelayPrice: function 19 -/
section
open Kd
mutual
def impl_RelayPrice.j0 : Nat → List (S63) → List (S70) → Bool → Int → Bool → Option (Int × Bool)
 | 0,_,_,_,_,_=>none
 | k + 1,x1,x4,x31,x228000,x228001=>if x31 = true then (some (0,false)) else (impl_RelayPrice.l0 k x1 0 x4 (x4.length : Int) 0 x228000 x228001)
def impl_RelayPrice.l0 : Nat → List (S63) → Int → List (S70) → Int → Int → Int → Bool → Option (Int × Bool)
 | 0,_,_,_,_,_,_,_=>none
 | k + 1,x1,x12,x32,x33,x34,x228000,x228001=>if x34 < x33 then (if 0 ≤ x34 then (if x34 < (x32.length : Int) then (if 0 ≤ ((rd_T70 x32 x34).f0) then (if ((rd_T70 x32 x34).f0) < (x1.length : Int) then ((impl_Road_steps.f x228000 x228001 ((rd_T63 x1 ((rd_T70 x32 x34).f0)).f0) ((rd_T63 x1 ((rd_T70 x32 x34).f0)).f1) ((rd_T63 x1 ((rd_T70 x32 x34).f0)).f2) ((rd_T70 x32 x34).f1) ((rd_T70 x32 x34).f2)).bind fun t237=>(impl_RelayPrice.l0 k x1 (wrap64 (x12 + (wrap64 (((rd_T63 x1 ((rd_T70 x32 x34).f0)).f2) * t237)))) x32 x33 (wrap64 (x34 + 1)) x228000 x228001)) else (none)) else (none)) else (none)) else (none)) else (some (x12,true))
end
def impl_RelayPrice.f (k : Nat) (a0_0 : Int) (a0_1 : Bool) (l1 : List (S63)) (a2 : Int) (a3 : Int) (l4 : List (S70)) : Option (Int × Bool):=(impl_isCarried.f k a0_0 a0_1 l1 (([a2,a3] : List Int))).bind fun t231=>(if t231 = true then ((impl_Road_isRelay.f k a0_0 a0_1 l1 a2 a3 l4).bind fun t232=>(impl_RelayPrice.j0 k l1 l4 (!t232) a0_0 a0_1)) else (impl_RelayPrice.j0 k l1 l4 true a0_0 a0_1))
theorem impl_RelayPrice.mono_l : ∀ k,(∀ y0 y1 y2 y3 y4,LeO (impl_RelayPrice.j0 k y0 y1 y2 y3 y4) (impl_RelayPrice.j0 (k + 1) y0 y1 y2 y3 y4)) ∧ (∀ y0 y1 y2 y3 y4 y5 y6,LeO (impl_RelayPrice.l0 k y0 y1 y2 y3 y4 y5 y6) (impl_RelayPrice.l0 (k + 1) y0 y1 y2 y3 y4 y5 y6))
 | 0=>⟨fun _ _ _ _ _ r h=>by simp [impl_RelayPrice.j0] at h,fun _ _ _ _ _ _ _ r h=>by simp [impl_RelayPrice.l0] at h⟩
 | k + 1=>by
  obtain ⟨ih0,ih1⟩:=impl_RelayPrice.mono_l k
  refine ⟨?_,?_⟩
  ·intro y0 y1 y2 y3 y4
   unfold impl_RelayPrice.j0
   repeat' first
   | (with_reducible exact ih0 _ _ _ _ _)
   | (with_reducible exact ih1 _ _ _ _ _ _ _)
   | (with_reducible exact impl_Road_isRelay.mono _ _ _ _ _ _ _)
   | (with_reducible exact impl_isCarried.mono _ _ _ _ _)
   | (with_reducible exact LeO.refl _)
   | (with_reducible exact LeO.none _)
   | (with_reducible refine LeO.ite ?_ ?_)
   | (with_reducible refine LeO.bind ?_ (fun _=>?_))
   | exact ih0 _ _ _ _ _
   | exact ih1 _ _ _ _ _ _ _
   | exact impl_Road_isRelay.mono _ _ _ _ _ _ _
   | exact impl_isCarried.mono _ _ _ _ _
   | exact LeO.none _
   | refine LeO.ite ?_ ?_
   | refine LeO.bind ?_ (fun _=>?_)
  ·intro y0 y1 y2 y3 y4 y5 y6
   unfold impl_RelayPrice.l0
   repeat' first
   | (with_reducible exact ih0 _ _ _ _ _)
   | (with_reducible exact ih1 _ _ _ _ _ _ _)
   | (with_reducible exact impl_Road_isRelay.mono _ _ _ _ _ _ _)
   | (with_reducible exact impl_isCarried.mono _ _ _ _ _)
   | (with_reducible exact LeO.refl _)
   | (with_reducible exact LeO.none _)
   | (with_reducible refine LeO.ite ?_ ?_)
   | (with_reducible refine LeO.bind ?_ (fun _=>?_))
   | exact ih0 _ _ _ _ _
   | exact ih1 _ _ _ _ _ _ _
   | exact impl_Road_isRelay.mono _ _ _ _ _ _ _
   | exact impl_isCarried.mono _ _ _ _ _
   | exact LeO.none _
   | refine LeO.ite ?_ ?_
   | refine LeO.bind ?_ (fun _=>?_)
theorem impl_RelayPrice.mono : ∀ a0 a1 a2 a3 a4 a5 k,LeO (impl_RelayPrice.f k a0 a1 a2 a3 a4 a5) (impl_RelayPrice.f (k + 1) a0 a1 a2 a3 a4 a5):=by
 intro a0 a1 a2 a3 a4 a5 k
 obtain ⟨ih0,ih1⟩:=impl_RelayPrice.mono_l k
 unfold impl_RelayPrice.f
 repeat' first
   | (with_reducible exact ih0 _ _ _ _ _)
   | (with_reducible exact ih1 _ _ _ _ _ _ _)
   | (with_reducible exact impl_Road_isRelay.mono _ _ _ _ _ _ _)
   | (with_reducible exact impl_isCarried.mono _ _ _ _ _)
   | (with_reducible exact LeO.refl _)
   | (with_reducible exact LeO.none _)
   | (with_reducible refine LeO.ite ?_ ?_)
   | (with_reducible refine LeO.bind ?_ (fun _=>?_))
   | exact ih0 _ _ _ _ _
   | exact ih1 _ _ _ _ _ _ _
   | exact impl_Road_isRelay.mono _ _ _ _ _ _ _
   | exact impl_isCarried.mono _ _ _ _ _
   | exact LeO.none _
   | refine LeO.ite ?_ ?_
   | refine LeO.bind ?_ (fun _=>?_)
def impl_RelayPrice.T8 : Bool × List (List Nat × List Nat):=(true,[([],[]),([],[]),([1],[1]),([],[]),([],[]),([],[]),([5],[5]),([],[]),([7],[7]),([3,4,6,8],[3,4,6,8]),([2,9],[2,9]),([0,10],[0,10]),([11,9,0,1,2,3,4,5,6,7,8,9,10,11],[0,11])])
def impl_RelayPrice.B8 : List Nat:=[0,0,2,0,0,0,32,0,128,504,1022,2047,4095]
theorem impl_RelayPrice.tab8 : rtab .any (opsOf Try.f19 8) = impl_RelayPrice.T8:=by kernel_rfl
theorem impl_RelayPrice.bits8 : waitsOk impl_RelayPrice.T8.2 impl_RelayPrice.B8 = true:=by kernel_rfl
set_option maxHeartbeats 8000000 in
set_option maxRecDepth 100000 in
theorem impl_RelayPrice.calls (k : Nat) (a0_0 : Int) (a0_1 : Bool) (A1 : Option Addr) (c1 : Nat) (l1 : List (S63)) (a2 : Int) (a3 : Int) (A4 : Option Addr) (c4 : Nat) (l4 : List (S70)) (r1 : Int) (r2 : Bool) (w : World) (hr1 : Kd.C k63 w A1 l1.length l1) (hc1 : l1.length ≤ c1) (hr4 : Kd.C k70 w A4 l4.length l4) (hc4 : l4.length ≤ c4) (h : impl_RelayPrice.f k a0_0 a0_1 l1 a2 a3 l4 = some (r1,r2)) :
  Calls Try.prog 19 #[.agg #[.int .i64 a0_0,.bool a0_1],.slice A1 l1.length c1,.int .i64 a2,.int .i64 a3,.slice A4 l4.length c4] w fun e w'=>e = .returned (.tuple #[.int .i64 r1,.bool r2]) ∧ Below w.heap.size w w':=by
 have hu28:=Try.underlying28
 have hu70:=Try.underlying70
 have hu63:=Try.underlying63
 have HR1:=Aside0.mk hr1
 have HC1:=Aside0.mk hc1
 clear hr1 hc1
 have HR4:=Aside0.mk hr4
 have HC4:=Aside0.mk hc4
 clear hr4 hc4
 have HB:=Aside0.mk (Below.refl w.heap.size w)
 have H : ((impl_isCarried.f k a0_0 a0_1 l1 (([a2,a3] : List Int))).bind fun t231=>(if t231 = true then ((impl_Road_isRelay.f k a0_0 a0_1 l1 a2 a3 l4).bind fun t232=>(impl_RelayPrice.j0 k l1 l4 (!t232) a0_0 a0_1)) else (impl_RelayPrice.j0 k l1 l4 true a0_0 a0_1))) = some (r1,r2):=h
 clear h
 have HC6:=Aside0.mk H
 clear H
 go_enter Try.func19,Try.ntmps19
 go_upto_region 1 with (first|((with_reducible refine gate_dst (N:=5) rfl ?_);refine box_event ?hg (N:=5) ?hd (cs:=#[.int .i64 a0_0,.bool a0_1]) (t:=28) ?hr ?_;(case hd=>rfl);(case hg=>rfl);(case hr=>first|(go_simp;done)|(go_simp;rfl));intro gb227 hg w7 hbox hb;have n0_:=Aside0.mk (below_step (by repeat (first|(with_reducible first|exact HB.out|apply below_alloc|apply pw_below_drewN|apply below_drew1)|exact HB.out)) hb);have n1_:=Aside0.mk (hbox);have n2_:=Aside0.mk ((by rw [hg];exact (below_size (by repeat (first|(with_reducible first|exact HB.out|apply below_alloc|apply pw_below_drewN|apply below_drew1)|exact HB.out))) : w.heap.size ≤ gb227));have n3_:=Aside0.mk ((by rw [hg];exact (below_size (by repeat (first|(with_reducible first|exact HB.out|apply below_alloc|apply pw_below_drewN|apply below_drew1)|exact HB.out))) : w.heap.size ≤ gb227));clear HB;have HB:=n0_;have BK227:=n1_;have GW227:=n2_;have GE227:=n3_;clear n0_ n1_ n2_ n3_;clear hb hbox hg))
 (try simp only [Act.put,List.setIfInBounds_toArray,List.set_cons_zero,List.set_cons_succ])
 go_cut [31] (fun v31 wc=>∃ (kq : Nat) (x31_5 : Bool),v31 = .bool x31_5 ∧ Aside0 (impl_RelayPrice.j0 kq l1 l4 x31_5 a0_0 a0_1 = some (r1,r2)) ∧ Aside0 (kq ≤ k) ∧ Aside0 (wc.heap[gb227]? = some (.cells #[.int .i64 a0_0,.bool a0_1] 28 (0,0))) ∧ Aside0 (Below w.heap.size w wc))
 case first =>
  have H:=HC6.out
  clear HC6
  obtain ⟨y228,hy228⟩ : ∃ y_ : List Int,y_ = (([a2,a3] : List Int)):=⟨_,rfl⟩
  replace H : ((impl_isCarried.f k a0_0 a0_1 l1 y228).bind fun t231=>(if t231 = true then ((impl_Road_isRelay.f k a0_0 a0_1 l1 a2 a3 l4).bind fun t232=>(impl_RelayPrice.j0 k l1 l4 (!t232) a0_0 a0_1)) else (impl_RelayPrice.j0 k l1 l4 true a0_0 a0_1))) = some (r1,r2):=by first|(rw [hy228];with_reducible exact H)|(have H2_:=(Option.bind_some _ _).symm.trans H;rw [hy228];with_reducible exact H2_)|(have H2_:=(Option.bind_some _ _).symm.trans H;with_reducible exact H2_)|with_reducible exact H|(rw [hy228];exact H)|exact H
  have Ny228:=Aside0.mk hy228
  clear hy228
  replace H:=Option.bind_eq_some_iff.mp H
  obtain ⟨t231,A80,H⟩:=H
  replace H : (if t231 = true then ((impl_Road_isRelay.f k a0_0 a0_1 l1 a2 a3 l4).bind fun t232=>(impl_RelayPrice.j0 k l1 l4 (!t232) a0_0 a0_1)) else (impl_RelayPrice.j0 k l1 l4 true a0_0 a0_1)) = some (r1,r2):=H
  have A8:=Aside0.mk A80
  clear A80
  by_cases c9 : t231 = true
  rotate_left
  ·replace c9:=Bool.eq_false_iff.mpr c9
   subst c9
   have H1 : (impl_RelayPrice.j0 k l1 l4 true a0_0 a0_1) = some (r1,r2):=by rw [if_neg (show ¬ (false = true) by decide)] at H;exact H
   clear H
   have H:=H1
   clear H1
   have H':=Aside0.mk H
   clear H
   have hcz18_0 : w7.cell? ⟨gb227,0,none⟩ = some (.int .i64 a0_0):=(blk_cell BK227.out 0).trans rfl
   have hcz18_1 : w7.cell? ⟨gb227,1,none⟩ = some (.bool a0_1):=(blk_cell BK227.out 1).trans rfl
   have hfz18_0:=blk_frozen BK227.out 0
   have hfz18_1:=blk_frozen BK227.out 1
   go_wp2_with (first|((with_reducible refine gate_dst (N:=20) rfl ?_);refine R_lit (Kd.int .i64) _ 3 ?hg (N:=20) ?hd (xs:=([a2,a3] : List Int)) (inner:=[.int .i64 a2,.int .i64 a3]) (ok:=fun _=>True) (okp:=fun _=>True) ?hr ?hp (fun _ hk=>hk) trivial (Below.refl _ _) (Nat.le_refl _) (by simp) ?_;(case hd=>rfl);(case hg=>rfl);(case hr=>first|(go_simp;done)|(go_simp;rfl));(case hp=>exact (Reps.one (show Kd.M (Kd.int .i64) _ _ _ a2 [.int .i64 a2] from rfl) (Reps.one (show Kd.M (Kd.int .i64) _ _ _ a3 [.int .i64 a3] from rfl) (Reps.none _ _))));intro v229 w19 ho20 hb hg_ hnew_;clear hg_ hnew_;(first|rw [← Ny228.out] at ho20|(simp only [Int.reduceToNat] at ho20;rw [← Ny228.out] at ho20));have n0_:=Aside0.mk (R_lower ho20 (below_size (by repeat (first|(with_reducible first|exact HB.out|apply below_alloc|apply pw_below_drewN|apply below_drew1|refine below_set ?_ GE227.out)|exact HB.out))));have n1_:=Aside0.mk (blk_below (g:=gb227) (o:=.cells #[.int .i64 a0_0,.bool a0_1] 28 (0,0)) (by (with_reducible repeat (first|apply blk_drewN|apply blk_drew|apply blk_alloc));exact BK227.out) hb);have n2_:=Aside0.mk (below_step (by repeat (first|(with_reducible first|exact HB.out|apply below_alloc|apply pw_below_drewN|apply below_drew1|refine below_set ?_ GE227.out)|exact HB.out)) hb);clear BK227;clear HB;have HO230:=n0_;have BK227:=n1_;have HB:=n2_;clear n0_ n1_ n2_;clear hb ho20;obtain ⟨Ao21,co21,eo21⟩:=R_slice HO230.out;subst eo21)|((with_reducible refine gate_callee (f:=63) rfl ?_);refine goesL_ (some 21) rfl rfl Try.func63 (by kernel_rfl) rfl #[.agg #[.int .i64 a0_0,.bool a0_1],.slice A1 l1.length c1,.slice Ao21 y228.length co21] rfl (by (try simp only [List.map_toArray,List.map_cons,List.map_nil]);first|done|rfl|(simp only [List.length_drop,List.length_take];rfl)) ?_;(with_reducible refine (impl_isCarried.calls k a0_0 a0_1 _ _ l1 _ _ y228 false _ ?side1 ?side2 ?side3 ?side4 A8.out).mono ?_);(case side1=>repeat (first|exact (C_below HR1.out HB.out)|(with_reducible refine C_alloc ?_ _)|(with_reducible refine C_drewN ?_ _)|(with_reducible refine C_drew ?_)));(case side2=>exact HC1.out);(case side3=>repeat (first|exact (R_reads' HO230.out).2.2|(with_reducible refine C_alloc ?_ _)|(with_reducible refine C_drewN ?_ _)|(with_reducible refine C_drew ?_)));(case side4=>exact (R_reads' HO230.out).2.1);rintro e w22 ⟨rfl,hb⟩;refine ⟨_,rfl,?_⟩;have n0_:=Aside0.mk (R_below (by (with_reducible repeat (first|apply R_alloc|apply R_drewN|apply R_drew));exact HO230.out) hb);have n1_:=Aside0.mk (blk_below (g:=gb227) (o:=.cells #[.int .i64 a0_0,.bool a0_1] 28 (0,0)) (by (with_reducible repeat (first|apply blk_drewN|apply blk_drew|apply blk_alloc));exact BK227.out) hb);have n2_:=Aside0.mk (below_step (by repeat (first|(with_reducible first|exact HB.out|apply below_alloc|apply pw_below_drewN|apply below_drew1|refine below_set ?_ GE227.out)|exact HB.out)) hb);clear HO230;clear BK227;clear HB;have HO230:=n0_;have BK227:=n1_;have HB:=n2_;clear n0_ n1_ n2_;(try clear hb);(try clear hb2);(try clear hk);(try clear hi)))
   go_meet
   case rel=>exact ⟨_,(true),(by first|rfl|(simp;done)|(simp [*];done)),H',⟨by first|omega|exact Nat.le_refl _⟩,⟨by (with_reducible repeat (first|apply blk_drewN|apply blk_drew|apply blk_alloc));exact BK227.out⟩,⟨by repeat (first|(with_reducible first|exact HB.out|apply below_alloc|apply pw_below_drewN|apply below_drew1|refine below_set ?_ GE227.out)|exact HB.out)⟩⟩
  subst c9
  have H1 : ((impl_Road_isRelay.f k a0_0 a0_1 l1 a2 a3 l4).bind fun t232=>(impl_RelayPrice.j0 k l1 l4 (!t232) a0_0 a0_1)) = some (r1,r2):=by rw [if_pos rfl] at H;exact H
  clear H
  have H:=H1
  clear H1
  replace H:=Option.bind_eq_some_iff.mp H
  obtain ⟨t232,A100,H⟩:=H
  replace H : (impl_RelayPrice.j0 k l1 l4 (!t232) a0_0 a0_1) = some (r1,r2):=H
  have A10:=Aside0.mk A100
  clear A100
  have H':=Aside0.mk H
  clear H
  have hcz11_0 : w7.cell? ⟨gb227,0,none⟩ = some (.int .i64 a0_0):=(blk_cell BK227.out 0).trans rfl
  have hcz11_1 : w7.cell? ⟨gb227,1,none⟩ = some (.bool a0_1):=(blk_cell BK227.out 1).trans rfl
  have hfz11_0:=blk_frozen BK227.out 0
  have hfz11_1:=blk_frozen BK227.out 1
  go_wp2_with (first|((with_reducible refine gate_dst (N:=20) rfl ?_);refine R_lit (Kd.int .i64) _ 3 ?hg (N:=20) ?hd (xs:=([a2,a3] : List Int)) (inner:=[.int .i64 a2,.int .i64 a3]) (ok:=fun _=>True) (okp:=fun _=>True) ?hr ?hp (fun _ hk=>hk) trivial (Below.refl _ _) (Nat.le_refl _) (by simp) ?_;(case hd=>rfl);(case hg=>rfl);(case hr=>first|(go_simp;done)|(go_simp;rfl));(case hp=>exact (Reps.one (show Kd.M (Kd.int .i64) _ _ _ a2 [.int .i64 a2] from rfl) (Reps.one (show Kd.M (Kd.int .i64) _ _ _ a3 [.int .i64 a3] from rfl) (Reps.none _ _))));intro v229 w12 ho13 hb hg_ hnew_;clear hg_ hnew_;(first|rw [← Ny228.out] at ho13|(simp only [Int.reduceToNat] at ho13;rw [← Ny228.out] at ho13));have n0_:=Aside0.mk (R_lower ho13 (below_size (by repeat (first|(with_reducible first|exact HB.out|apply below_alloc|apply pw_below_drewN|apply below_drew1|refine below_set ?_ GE227.out)|exact HB.out))));have n1_:=Aside0.mk (blk_below (g:=gb227) (o:=.cells #[.int .i64 a0_0,.bool a0_1] 28 (0,0)) (by (with_reducible repeat (first|apply blk_drewN|apply blk_drew|apply blk_alloc));exact BK227.out) hb);have n2_:=Aside0.mk (below_step (by repeat (first|(with_reducible first|exact HB.out|apply below_alloc|apply pw_below_drewN|apply below_drew1|refine below_set ?_ GE227.out)|exact HB.out)) hb);clear BK227;clear HB;have HO230:=n0_;have BK227:=n1_;have HB:=n2_;clear n0_ n1_ n2_;clear hb ho13;obtain ⟨Ao14,co14,eo14⟩:=R_slice HO230.out;subst eo14)|((with_reducible refine gate_callee (f:=63) rfl ?_);refine goesL_ (some 21) rfl rfl Try.func63 (by kernel_rfl) rfl #[.agg #[.int .i64 a0_0,.bool a0_1],.slice A1 l1.length c1,.slice Ao14 y228.length co14] rfl (by (try simp only [List.map_toArray,List.map_cons,List.map_nil]);first|done|rfl|(simp only [List.length_drop,List.length_take];rfl)) ?_;(with_reducible refine (impl_isCarried.calls k a0_0 a0_1 _ _ l1 _ _ y228 true _ ?side1 ?side2 ?side3 ?side4 A8.out).mono ?_);(case side1=>repeat (first|exact (C_below HR1.out HB.out)|(with_reducible refine C_alloc ?_ _)|(with_reducible refine C_drewN ?_ _)|(with_reducible refine C_drew ?_)));(case side2=>exact HC1.out);(case side3=>repeat (first|exact (R_reads' HO230.out).2.2|(with_reducible refine C_alloc ?_ _)|(with_reducible refine C_drewN ?_ _)|(with_reducible refine C_drew ?_)));(case side4=>exact (R_reads' HO230.out).2.1);rintro e w15 ⟨rfl,hb⟩;refine ⟨_,rfl,?_⟩;have n0_:=Aside0.mk (R_below (by (with_reducible repeat (first|apply R_alloc|apply R_drewN|apply R_drew));exact HO230.out) hb);have n1_:=Aside0.mk (blk_below (g:=gb227) (o:=.cells #[.int .i64 a0_0,.bool a0_1] 28 (0,0)) (by (with_reducible repeat (first|apply blk_drewN|apply blk_drew|apply blk_alloc));exact BK227.out) hb);have n2_:=Aside0.mk (below_step (by repeat (first|(with_reducible first|exact HB.out|apply below_alloc|apply pw_below_drewN|apply below_drew1|refine below_set ?_ GE227.out)|exact HB.out)) hb);clear HO230;clear BK227;clear HB;have HO230:=n0_;have BK227:=n1_;have HB:=n2_;clear n0_ n1_ n2_;(try clear hb);(try clear hb2);(try clear hk);(try clear hi);have hcz16_0 : w15.cell? ⟨gb227,0,none⟩ = some (.int .i64 a0_0):=(blk_cell BK227.out 0).trans rfl;have hcz16_1 : w15.cell? ⟨gb227,1,none⟩ = some (.bool a0_1):=(blk_cell BK227.out 1).trans rfl;have hfz16_0:=blk_frozen BK227.out 0;have hfz16_1:=blk_frozen BK227.out 1)|(go_at_call 64;(with_reducible refine (impl_Road_isRelay.calls k a0_0 a0_1 _ _ l1 a2 a3 _ _ l4 t232 _ ?side1 ?side2 ?side3 ?side4 A10.out).mono ?_);(case side1=>repeat (first|exact (C_below HR1.out HB.out)|(with_reducible refine C_alloc ?_ _)|(with_reducible refine C_drewN ?_ _)|(with_reducible refine C_drew ?_)));(case side2=>exact HC1.out);(case side3=>repeat (first|exact (C_below HR4.out HB.out)|(with_reducible refine C_alloc ?_ _)|(with_reducible refine C_drewN ?_ _)|(with_reducible refine C_drew ?_)));(case side4=>exact HC4.out);rintro e w17 ⟨rfl,hb⟩;have n0_:=Aside0.mk (R_below (by (with_reducible repeat (first|apply R_alloc|apply R_drewN|apply R_drew));exact HO230.out) hb);have n1_:=Aside0.mk (blk_below (g:=gb227) (o:=.cells #[.int .i64 a0_0,.bool a0_1] 28 (0,0)) (by (with_reducible repeat (first|apply blk_drewN|apply blk_drew|apply blk_alloc));exact BK227.out) hb);have n2_:=Aside0.mk (below_step (by repeat (first|(with_reducible first|exact HB.out|apply below_alloc|apply pw_below_drewN|apply below_drew1|refine below_set ?_ GE227.out)|exact HB.out)) hb);clear HO230;clear BK227;clear HB;have HO230:=n0_;have BK227:=n1_;have HB:=n2_;clear n0_ n1_ n2_;(try clear hb);(try clear hb2);(try clear hk);(try clear hi)))
  go_meet
  case rel=>exact ⟨_,(!t232),(by first|rfl|(simp;done)|(simp [*];done)),H',⟨by first|omega|exact Nat.le_refl _⟩,⟨by (with_reducible repeat (first|apply blk_drewN|apply blk_drew|apply blk_alloc));exact BK227.out⟩,⟨by repeat (first|(with_reducible first|exact HB.out|apply below_alloc|apply pw_below_drewN|apply below_drew1|refine below_set ?_ GE227.out)|exact HB.out)⟩⟩
 clear HC6
 try clear c1
 try clear p2
 try clear c4
 try clear c6
 try clear c9
 try clear c19
 try clear hcz11_0
 try clear hcz11_1
 try clear hcz16_0
 try clear hcz16_1
 try clear hcz18_0
 try clear hcz18_1
 try clear hfz11_0
 try clear hfz11_1
 try clear hfz16_0
 try clear hfz16_1
 try clear hfz18_0
 try clear hfz18_1
 obtain ⟨kq,x31_5,rfl,HA,HJ5,BK227,HB⟩:=hcut
 cases kq with
 | zero=>exact absurd HA.out (by simp [impl_RelayPrice.j0])
 | succ kj5 =>
  have H:=HA.out
  clear HA
  simp only [impl_RelayPrice.j0] at H
  by_cases c23 : x31_5 = true
  ·subst c23
   have H1 : (some (0,false)) = some (r1,r2):=by rw [if_pos rfl] at H;exact H
   clear H
   have H:=H1
   clear H1
   simp only [Option.some.injEq,Prod.mk.injEq] at H
   obtain ⟨rfl,rfl⟩:=H
   go_wp2
   go_ret2
   exact ⟨by first|rfl|(simp [errW_none,errW_some] <;> rfl)|(simp [*,errW_none,errW_some] <;> rfl),by repeat (first|(with_reducible first|exact HB.out|apply below_alloc|apply pw_below_drewN|apply below_drew1|refine below_set ?_ GE227.out)|exact HB.out)⟩
  replace c23:=Bool.eq_false_iff.mpr c23
  subst c23
  have H1 : (impl_RelayPrice.l0 kj5 l1 0 l4 (l4.length : Int) 0 a0_0 a0_1) = some (r1,r2):=by rw [if_neg (show ¬ (false = true) by decide)] at H;exact H
  clear H
  have H:=H1
  clear H1
  have H':=Aside0.mk H
  clear H
  go_wp2
  go_loopg [12,34] kj5 (fun kq v12 v34 w'=>∃ (x12_2 : Int) (x34_2 : Int),v12 = .int .i64 x12_2 ∧ v34 = .int .i64 x34_2 ∧ Aside0 (impl_RelayPrice.l0 kq l1 x12_2 l4 (l4.length : Int) x34_2 a0_0 a0_1 = some (r1,r2)) ∧ Aside0 (kq ≤ kj5) ∧ Aside0 (w'.heap[gb227]? = some (.cells #[.int .i64 a0_0,.bool a0_1] 28 (0,0))) ∧ Aside0 (Below w.heap.size w w'))
  case atStart=>exact ⟨(0),(0),(by first|rfl|(simp;done)|(simp [*];done)),(by first|rfl|(simp;done)|(simp [*];done)),H',⟨Nat.le_refl _⟩,⟨by (with_reducible repeat (first|apply blk_drewN|apply blk_drew|apply blk_alloc));exact BK227.out⟩,⟨by repeat (first|(with_reducible first|exact HB.out|apply below_alloc|apply pw_below_drewN|apply below_drew1|refine below_set ?_ GE227.out)|exact HB.out)⟩⟩
  clear H'
  try clear c1
  try clear c2
  try clear p2
  try clear c4
  try clear c6
  try clear c9
  try clear c19
  try clear c23
  try clear hcz11_0
  try clear hcz11_1
  try clear hcz16_0
  try clear hcz16_1
  try clear hcz18_0
  try clear hcz18_1
  try clear hfz11_0
  try clear hfz11_1
  try clear hfz16_0
  try clear hfz16_1
  try clear hfz18_0
  try clear hfz18_1
  try clear p2
  obtain ⟨x12_2,x34_2,rfl,rfl,HA,HK2,BK227,HB⟩:=hrel
  cases gk with
  | zero=>exact absurd HA.out (by simp [impl_RelayPrice.l0])
  | succ k2 =>
   have H:=HA.out
   clear HA
   simp only [impl_RelayPrice.l0] at H
   by_cases c24 : x34_2 < (l4.length : Int)
   rotate_left
   ·rw [if_neg c24] at H
    have c24b0 : decide (x34_2 < (l4.length : Int)) = false:=decide_eq_false c24
    clear c24
    simp only [Option.some.injEq,Prod.mk.injEq] at H
    obtain ⟨rfl,rfl⟩:=H
    go_wp2
    go_ret2
    exact ⟨by first|rfl|(simp [errW_none,errW_some] <;> rfl)|(simp [*,errW_none,errW_some] <;> rfl),by repeat (first|(with_reducible first|exact HB.out|apply below_alloc|apply pw_below_drewN|apply below_drew1|refine below_set ?_ GE227.out)|exact HB.out)⟩
   rw [if_pos c24] at H
   have c24b0 : decide (x34_2 < (l4.length : Int)) = true:=decide_eq_true c24
   clear c24
   by_cases c25 : 0 ≤ x34_2
   rotate_left
   ·rw [if_neg c25] at H
    exact absurd H (by simp)
   rw [if_pos c25] at H
   have c25b0 : decide (0 ≤ x34_2) = true:=decide_eq_true c25
   clear c25
   by_cases c26 : x34_2 < (l4.length : Int)
   rotate_left
   ·rw [if_neg c26] at H
    exact absurd H (by simp)
   rw [if_pos c26] at H
   have c26b0 : decide (x34_2 < (l4.length : Int)) = true:=decide_eq_true c26
   clear c26
   by_cases c27 : 0 ≤ ((rd_T70 l4 x34_2).f0)
   rotate_left
   ·rw [if_neg c27] at H
    exact absurd H (by simp)
   rw [if_pos c27] at H
   have c27b0 : decide (0 ≤ ((rd_T70 l4 x34_2).f0)) = true:=decide_eq_true c27
   clear c27
   by_cases c28 : ((rd_T70 l4 x34_2).f0) < (l1.length : Int)
   rotate_left
   ·rw [if_neg c28] at H
    exact absurd H (by simp)
   rw [if_pos c28] at H
   have c28b0 : decide (((rd_T70 l4 x34_2).f0) < (l1.length : Int)) = true:=decide_eq_true c28
   clear c28
   replace H:=Option.bind_eq_some_iff.mp H
   obtain ⟨t237,A290,H⟩:=H
   replace H : (impl_RelayPrice.l0 k2 l1 (wrap64 (x12_2 + (wrap64 (((rd_T63 l1 ((rd_T70 l4 x34_2).f0)).f2) * t237)))) l4 (l4.length : Int) (wrap64 (x34_2 + 1)) a0_0 a0_1) = some (r1,r2):=H
   have A29:=Aside0.mk A290
   clear A290
   have H':=Aside0.mk H
   clear H
   have p233 : 0 ≤ (x34_2 : Int):=of_decide_eq_true (by first|(with_reducible assumption)|assumption)
   have q233 : x34_2 < (l4.length : Int):=of_decide_eq_true (by first|(with_reducible assumption)|assumption)
   obtain ⟨ad233,e233,hx233_0,hx233_1,hx233_2⟩:=at_T70 HR4.out x34_2 p233 q233
   cases e233
   replace hx233_0:=(HB.out.cell (World.block_lt_of_cell? w _ hx233_0)).trans hx233_0
   replace hx233_1:=(HB.out.cell (World.block_lt_of_cell? w _ hx233_1)).trans hx233_1
   replace hx233_2:=(HB.out.cell (World.block_lt_of_cell? w _ hx233_2)).trans hx233_2
   replace p233:=eq_true p233
   replace q233:=eq_true q233
   try go_wp2_with (first|((with_reducible refine gate_dst (N:=14) rfl ?_);refine box_event ?hg (N:=14) ?hd (cs:=#[.int .i64 0,.int .i64 0,.int .i64 0]) (t:=70) ?hr ?_;(case hd=>rfl);(case hg=>rfl);(case hr=>first|(go_simp;done)|(go_simp;rfl));intro gb234 hg w30 hbox hb;have n0_:=Aside0.mk (blk_below (g:=gb227) (o:=.cells #[.int .i64 a0_0,.bool a0_1] 28 (0,0)) (by (with_reducible repeat (first|apply blk_drewN|apply blk_drew|apply blk_alloc));exact BK227.out) hb);have n1_:=Aside0.mk (below_step (by repeat (first|(with_reducible first|exact HB.out|apply below_alloc|apply pw_below_drewN|apply below_drew1|refine below_set ?_ GE227.out)|exact HB.out)) hb);have n2_:=Aside0.mk (hbox);have n3_:=Aside0.mk ((by rw [hg];exact (below_size (by repeat (first|(with_reducible first|exact HB.out|apply below_alloc|apply pw_below_drewN|apply below_drew1|refine below_set ?_ GE227.out)|exact HB.out))) : w.heap.size ≤ gb234));have n4_:=Aside0.mk ((by rw [hg];exact (below_size (by repeat (first|(with_reducible first|exact HB.out|apply below_alloc|apply pw_below_drewN|apply below_drew1|refine below_set ?_ GE227.out)|exact HB.out))) : w.heap.size ≤ gb234));have n5_:=Aside0.mk ((by rw [hg];exact Nat.ne_of_lt (blk_lt (g:=gb227) (o:=.cells #[.int .i64 a0_0,.bool a0_1] 28 (0,0)) (by (with_reducible repeat (first|apply blk_drewN|apply blk_drew|apply blk_alloc));exact BK227.out)) : gb227 ≠ gb234));have n6_:=Aside0.mk ((by rw [hg];exact Nat.ne_of_gt (blk_lt (g:=gb227) (o:=.cells #[.int .i64 a0_0,.bool a0_1] 28 (0,0)) (by (with_reducible repeat (first|apply blk_drewN|apply blk_drew|apply blk_alloc));exact BK227.out)) : gb234 ≠ gb227));clear BK227;clear HB;have BK227:=n0_;have HB:=n1_;have BK234:=n2_;have GW234:=n3_;have GE234:=n4_;have NB227_234:=n5_;have NB234_227:=n6_;clear n0_ n1_ n2_ n3_ n4_ n5_ n6_;clear hb hbox hg;have hnb31:=NB234_227.out;have hnc31:=NB227_234.out;have hcz32_0 : w30.cell? ⟨gb234,0,none⟩ = some (.int .i64 0):=(blk_cell BK234.out 0).trans rfl;have hcz32_1 : w30.cell? ⟨gb234,1,none⟩ = some (.int .i64 0):=(blk_cell BK234.out 1).trans rfl;have hcz32_2 : w30.cell? ⟨gb234,2,none⟩ = some (.int .i64 0):=(blk_cell BK234.out 2).trans rfl;have hfz32_0:=blk_frozen BK234.out 0;have hfz32_1:=blk_frozen BK234.out 1;have hfz32_2:=blk_frozen BK234.out 2;have p235 : 0 ≤ (((rd_T70 l4 x34_2).f0) : Int):=of_decide_eq_true (by first|(with_reducible assumption)|assumption);have q235 : ((rd_T70 l4 x34_2).f0) < (l1.length : Int):=of_decide_eq_true (by first|(with_reducible assumption)|assumption);obtain ⟨ad235,e235,hx235_0,hx235_1,hx235_2⟩:=at_T63 HR1.out ((rd_T70 l4 x34_2).f0) p235 q235;cases e235;have hn235_0 : ad235.block ≠ gb234:=Nat.ne_of_lt (Nat.lt_of_lt_of_le (by have:=World.block_lt_of_cell? _ _ hx235_0;first|rwa [add_block] at this|exact this) GW234.out);have hn235_1 : ad235.block ≠ gb234:=Nat.ne_of_lt (Nat.lt_of_lt_of_le (by have:=World.block_lt_of_cell? _ _ hx235_0;first|rwa [add_block] at this|exact this) GW234.out);have hn235_2 : ad235.block ≠ gb234:=Nat.ne_of_lt (Nat.lt_of_lt_of_le (by have:=World.block_lt_of_cell? _ _ hx235_0;first|rwa [add_block] at this|exact this) GW234.out);replace hx235_0:=(HB.out.cell (World.block_lt_of_cell? w _ hx235_0)).trans hx235_0;replace hx235_1:=(HB.out.cell (World.block_lt_of_cell? w _ hx235_1)).trans hx235_1;replace hx235_2:=(HB.out.cell (World.block_lt_of_cell? w _ hx235_2)).trans hx235_2;replace hx235_0:=(cell_far (p:=⟨gb234,0,none⟩) (by first|(rw [add_block];exact hn235_0)|(show (Addr.add _ _).block ≠ _;rw [add_block];exact hn235_0)|exact hn235_0) (.int .i64 ((rd_T70 l4 x34_2).f0))).trans hx235_0;replace hx235_1:=(cell_far (p:=⟨gb234,0,none⟩) (by first|(rw [add_block];exact hn235_0)|(show (Addr.add _ _).block ≠ _;rw [add_block];exact hn235_0)|exact hn235_0) (.int .i64 ((rd_T70 l4 x34_2).f0))).trans hx235_1;replace hx235_2:=(cell_far (p:=⟨gb234,0,none⟩) (by first|(rw [add_block];exact hn235_0)|(show (Addr.add _ _).block ≠ _;rw [add_block];exact hn235_0)|exact hn235_0) (.int .i64 ((rd_T70 l4 x34_2).f0))).trans hx235_2;replace hx235_0:=(cell_far (p:=⟨gb234,1,none⟩) (by first|(rw [add_block];exact hn235_1)|(show (Addr.add _ _).block ≠ _;rw [add_block];exact hn235_1)|exact hn235_1) (.int .i64 ((rd_T70 l4 x34_2).f1))).trans hx235_0;replace hx235_1:=(cell_far (p:=⟨gb234,1,none⟩) (by first|(rw [add_block];exact hn235_1)|(show (Addr.add _ _).block ≠ _;rw [add_block];exact hn235_1)|exact hn235_1) (.int .i64 ((rd_T70 l4 x34_2).f1))).trans hx235_1;replace hx235_2:=(cell_far (p:=⟨gb234,1,none⟩) (by first|(rw [add_block];exact hn235_1)|(show (Addr.add _ _).block ≠ _;rw [add_block];exact hn235_1)|exact hn235_1) (.int .i64 ((rd_T70 l4 x34_2).f1))).trans hx235_2;replace hx235_0:=(cell_far (p:=⟨gb234,2,none⟩) (by first|(rw [add_block];exact hn235_2)|(show (Addr.add _ _).block ≠ _;rw [add_block];exact hn235_2)|exact hn235_2) (.int .i64 ((rd_T70 l4 x34_2).f2))).trans hx235_0;replace hx235_1:=(cell_far (p:=⟨gb234,2,none⟩) (by first|(rw [add_block];exact hn235_2)|(show (Addr.add _ _).block ≠ _;rw [add_block];exact hn235_2)|exact hn235_2) (.int .i64 ((rd_T70 l4 x34_2).f2))).trans hx235_1;replace hx235_2:=(cell_far (p:=⟨gb234,2,none⟩) (by first|(rw [add_block];exact hn235_2)|(show (Addr.add _ _).block ≠ _;rw [add_block];exact hn235_2)|exact hn235_2) (.int .i64 ((rd_T70 l4 x34_2).f2))).trans hx235_2;clear hn235_0;clear hn235_1;clear hn235_2;replace p235:=eq_true p235;replace q235:=eq_true q235)|((with_reducible refine gate_dst (N:=15) rfl ?_);refine box_event ?hg (N:=15) ?hd (cs:=#[.int .i64 0,.int .i64 0,.int .i64 0]) (t:=63) ?hr ?_;(case hd=>rfl);(case hg=>rfl);(case hr=>first|(go_simp;done)|(go_simp;rfl));intro gb236 hg w33 hbox hb;have n0_:=Aside0.mk (blk_below (g:=gb227) (o:=.cells #[.int .i64 a0_0,.bool a0_1] 28 (0,0)) (by (with_reducible repeat (first|apply blk_drewN|apply blk_drew|apply blk_alloc));refine blk_far ?_ NB227_234.out _;(with_reducible repeat (first|apply blk_drewN|apply blk_drew|apply blk_alloc));refine blk_far ?_ NB227_234.out _;(with_reducible repeat (first|apply blk_drewN|apply blk_drew|apply blk_alloc));refine blk_far ?_ NB227_234.out _;(with_reducible repeat (first|apply blk_drewN|apply blk_drew|apply blk_alloc));exact BK227.out) hb);have n1_:=Aside0.mk (blk_below (g:=gb234) (o:=.cells #[.int .i64 ((rd_T70 l4 x34_2).f0),.int .i64 ((rd_T70 l4 x34_2).f1),.int .i64 ((rd_T70 l4 x34_2).f2)] 70 (0,0)) (by (with_reducible repeat (first|apply blk_drewN|apply blk_drew|apply blk_alloc));refine blk_put (cs:=#[.int .i64 ((rd_T70 l4 x34_2).f0),.int .i64 ((rd_T70 l4 x34_2).f1),.int .i64 0]) ?_ 2 _ rfl;(with_reducible repeat (first|apply blk_drewN|apply blk_drew|apply blk_alloc));refine blk_put (cs:=#[.int .i64 ((rd_T70 l4 x34_2).f0),.int .i64 0,.int .i64 0]) ?_ 1 _ rfl;(with_reducible repeat (first|apply blk_drewN|apply blk_drew|apply blk_alloc));refine blk_put (cs:=#[.int .i64 0,.int .i64 0,.int .i64 0]) ?_ 0 _ rfl;(with_reducible repeat (first|apply blk_drewN|apply blk_drew|apply blk_alloc));exact BK234.out) hb);have n2_:=Aside0.mk (below_step (by repeat (first|(with_reducible first|exact HB.out|apply below_alloc|apply pw_below_drewN|apply below_drew1|refine below_set ?_ GE227.out|refine below_set ?_ GE234.out)|exact HB.out)) hb);have n3_:=Aside0.mk (hbox);have n4_:=Aside0.mk ((by rw [hg];exact (below_size (by repeat (first|(with_reducible first|exact HB.out|apply below_alloc|apply pw_below_drewN|apply below_drew1|refine below_set ?_ GE227.out|refine below_set ?_ GE234.out)|exact HB.out))) : w.heap.size ≤ gb236));have n5_:=Aside0.mk ((by rw [hg];exact (below_size (by repeat (first|(with_reducible first|exact HB.out|apply below_alloc|apply pw_below_drewN|apply below_drew1|refine below_set ?_ GE227.out|refine below_set ?_ GE234.out)|exact HB.out))) : w.heap.size ≤ gb236));have n6_:=Aside0.mk ((by rw [hg];exact Nat.ne_of_lt (blk_lt (g:=gb227) (o:=.cells #[.int .i64 a0_0,.bool a0_1] 28 (0,0)) (by (with_reducible repeat (first|apply blk_drewN|apply blk_drew|apply blk_alloc));refine blk_far ?_ NB227_234.out _;(with_reducible repeat (first|apply blk_drewN|apply blk_drew|apply blk_alloc));refine blk_far ?_ NB227_234.out _;(with_reducible repeat (first|apply blk_drewN|apply blk_drew|apply blk_alloc));refine blk_far ?_ NB227_234.out _;(with_reducible repeat (first|apply blk_drewN|apply blk_drew|apply blk_alloc));exact BK227.out)) : gb227 ≠ gb236));have n7_:=Aside0.mk ((by rw [hg];exact Nat.ne_of_gt (blk_lt (g:=gb227) (o:=.cells #[.int .i64 a0_0,.bool a0_1] 28 (0,0)) (by (with_reducible repeat (first|apply blk_drewN|apply blk_drew|apply blk_alloc));refine blk_far ?_ NB227_234.out _;(with_reducible repeat (first|apply blk_drewN|apply blk_drew|apply blk_alloc));refine blk_far ?_ NB227_234.out _;(with_reducible repeat (first|apply blk_drewN|apply blk_drew|apply blk_alloc));refine blk_far ?_ NB227_234.out _;(with_reducible repeat (first|apply blk_drewN|apply blk_drew|apply blk_alloc));exact BK227.out)) : gb236 ≠ gb227));have n8_:=Aside0.mk ((by rw [hg];exact Nat.ne_of_lt (blk_lt (g:=gb234) (o:=.cells #[.int .i64 ((rd_T70 l4 x34_2).f0),.int .i64 ((rd_T70 l4 x34_2).f1),.int .i64 ((rd_T70 l4 x34_2).f2)] 70 (0,0)) (by (with_reducible repeat (first|apply blk_drewN|apply blk_drew|apply blk_alloc));refine blk_put (cs:=#[.int .i64 ((rd_T70 l4 x34_2).f0),.int .i64 ((rd_T70 l4 x34_2).f1),.int .i64 0]) ?_ 2 _ rfl;(with_reducible repeat (first|apply blk_drewN|apply blk_drew|apply blk_alloc));refine blk_put (cs:=#[.int .i64 ((rd_T70 l4 x34_2).f0),.int .i64 0,.int .i64 0]) ?_ 1 _ rfl;(with_reducible repeat (first|apply blk_drewN|apply blk_drew|apply blk_alloc));refine blk_put (cs:=#[.int .i64 0,.int .i64 0,.int .i64 0]) ?_ 0 _ rfl;(with_reducible repeat (first|apply blk_drewN|apply blk_drew|apply blk_alloc));exact BK234.out)) : gb234 ≠ gb236));have n9_:=Aside0.mk ((by rw [hg];exact Nat.ne_of_gt (blk_lt (g:=gb234) (o:=.cells #[.int .i64 ((rd_T70 l4 x34_2).f0),.int .i64 ((rd_T70 l4 x34_2).f1),.int .i64 ((rd_T70 l4 x34_2).f2)] 70 (0,0)) (by (with_reducible repeat (first|apply blk_drewN|apply blk_drew|apply blk_alloc));refine blk_put (cs:=#[.int .i64 ((rd_T70 l4 x34_2).f0),.int .i64 ((rd_T70 l4 x34_2).f1),.int .i64 0]) ?_ 2 _ rfl;(with_reducible repeat (first|apply blk_drewN|apply blk_drew|apply blk_alloc));refine blk_put (cs:=#[.int .i64 ((rd_T70 l4 x34_2).f0),.int .i64 0,.int .i64 0]) ?_ 1 _ rfl;(with_reducible repeat (first|apply blk_drewN|apply blk_drew|apply blk_alloc));refine blk_put (cs:=#[.int .i64 0,.int .i64 0,.int .i64 0]) ?_ 0 _ rfl;(with_reducible repeat (first|apply blk_drewN|apply blk_drew|apply blk_alloc));exact BK234.out)) : gb236 ≠ gb234));clear BK227;clear BK234;clear HB;have BK227:=n0_;have BK234:=n1_;have HB:=n2_;have BK236:=n3_;have GW236:=n4_;have GE236:=n5_;have NB227_236:=n6_;have NB236_227:=n7_;have NB234_236:=n8_;have NB236_234:=n9_;clear n0_ n1_ n2_ n3_ n4_ n5_ n6_ n7_ n8_ n9_;clear hb hbox hg;have hnb34:=NB236_227.out;have hnc34:=NB227_236.out;have hnb35:=NB236_234.out;have hnc35:=NB234_236.out;have hcz36_0 : w33.cell? ⟨gb236,0,none⟩ = some (.int .i64 0):=(blk_cell BK236.out 0).trans rfl;have hcz36_1 : w33.cell? ⟨gb236,1,none⟩ = some (.int .i64 0):=(blk_cell BK236.out 1).trans rfl;have hcz36_2 : w33.cell? ⟨gb236,2,none⟩ = some (.int .i64 0):=(blk_cell BK236.out 2).trans rfl;have hfz36_0:=blk_frozen BK236.out 0;have hfz36_1:=blk_frozen BK236.out 1;have hfz36_2:=blk_frozen BK236.out 2))
   have n0_ : Aside0 ((((w33.setCell ⟨gb236,0,none⟩ (.int .i64 ((rd_T63 l1 ((rd_T70 l4 x34_2).f0)).f0))).setCell ⟨gb236,1,none⟩ (.int .i64 ((rd_T63 l1 ((rd_T70 l4 x34_2).f0)).f1))).setCell ⟨gb236,2,none⟩ (.int .i64 ((rd_T63 l1 ((rd_T70 l4 x34_2).f0)).f2))).heap[gb227]? = some (.cells #[.int .i64 a0_0,.bool a0_1] 28 (0,0))):=⟨by (with_reducible repeat (first|apply blk_drewN|apply blk_drew|apply blk_alloc));refine blk_far ?_ NB227_236.out _;(with_reducible repeat (first|apply blk_drewN|apply blk_drew|apply blk_alloc));refine blk_far ?_ NB227_236.out _;(with_reducible repeat (first|apply blk_drewN|apply blk_drew|apply blk_alloc));refine blk_far ?_ NB227_236.out _;(with_reducible repeat (first|apply blk_drewN|apply blk_drew|apply blk_alloc));exact BK227.out⟩
   have n1_ : Aside0 ((((w33.setCell ⟨gb236,0,none⟩ (.int .i64 ((rd_T63 l1 ((rd_T70 l4 x34_2).f0)).f0))).setCell ⟨gb236,1,none⟩ (.int .i64 ((rd_T63 l1 ((rd_T70 l4 x34_2).f0)).f1))).setCell ⟨gb236,2,none⟩ (.int .i64 ((rd_T63 l1 ((rd_T70 l4 x34_2).f0)).f2))).heap[gb234]? = some (.cells #[.int .i64 ((rd_T70 l4 x34_2).f0),.int .i64 ((rd_T70 l4 x34_2).f1),.int .i64 ((rd_T70 l4 x34_2).f2)] 70 (0,0))):=⟨by (with_reducible repeat (first|apply blk_drewN|apply blk_drew|apply blk_alloc));refine blk_far ?_ NB234_236.out _;(with_reducible repeat (first|apply blk_drewN|apply blk_drew|apply blk_alloc));refine blk_far ?_ NB234_236.out _;(with_reducible repeat (first|apply blk_drewN|apply blk_drew|apply blk_alloc));refine blk_far ?_ NB234_236.out _;(with_reducible repeat (first|apply blk_drewN|apply blk_drew|apply blk_alloc));exact BK234.out⟩
   have n2_ : Aside0 ((((w33.setCell ⟨gb236,0,none⟩ (.int .i64 ((rd_T63 l1 ((rd_T70 l4 x34_2).f0)).f0))).setCell ⟨gb236,1,none⟩ (.int .i64 ((rd_T63 l1 ((rd_T70 l4 x34_2).f0)).f1))).setCell ⟨gb236,2,none⟩ (.int .i64 ((rd_T63 l1 ((rd_T70 l4 x34_2).f0)).f2))).heap[gb236]? = some (.cells #[.int .i64 ((rd_T63 l1 ((rd_T70 l4 x34_2).f0)).f0),.int .i64 ((rd_T63 l1 ((rd_T70 l4 x34_2).f0)).f1),.int .i64 ((rd_T63 l1 ((rd_T70 l4 x34_2).f0)).f2)] 63 (0,0))):=⟨by (with_reducible repeat (first|apply blk_drewN|apply blk_drew|apply blk_alloc));refine blk_put (cs:=#[.int .i64 ((rd_T63 l1 ((rd_T70 l4 x34_2).f0)).f0),.int .i64 ((rd_T63 l1 ((rd_T70 l4 x34_2).f0)).f1),.int .i64 0]) ?_ 2 _ rfl;(with_reducible repeat (first|apply blk_drewN|apply blk_drew|apply blk_alloc));refine blk_put (cs:=#[.int .i64 ((rd_T63 l1 ((rd_T70 l4 x34_2).f0)).f0),.int .i64 0,.int .i64 0]) ?_ 1 _ rfl;(with_reducible repeat (first|apply blk_drewN|apply blk_drew|apply blk_alloc));refine blk_put (cs:=#[.int .i64 0,.int .i64 0,.int .i64 0]) ?_ 0 _ rfl;(with_reducible repeat (first|apply blk_drewN|apply blk_drew|apply blk_alloc));exact BK236.out⟩
   have n3_ : Aside0 (Below w.heap.size w (((w33.setCell ⟨gb236,0,none⟩ (.int .i64 ((rd_T63 l1 ((rd_T70 l4 x34_2).f0)).f0))).setCell ⟨gb236,1,none⟩ (.int .i64 ((rd_T63 l1 ((rd_T70 l4 x34_2).f0)).f1))).setCell ⟨gb236,2,none⟩ (.int .i64 ((rd_T63 l1 ((rd_T70 l4 x34_2).f0)).f2)))):=⟨by repeat (first|(with_reducible first|exact HB.out|apply below_alloc|apply pw_below_drewN|apply below_drew1|refine below_set ?_ GE227.out|refine below_set ?_ GE234.out|refine below_set ?_ GE236.out)|exact HB.out)⟩
   (try clear BK227)
   (try clear BK234)
   (try clear BK236)
   (try clear HB)
   generalize (((w33.setCell ⟨gb236,0,none⟩ (.int .i64 ((rd_T63 l1 ((rd_T70 l4 x34_2).f0)).f0))).setCell ⟨gb236,1,none⟩ (.int .i64 ((rd_T63 l1 ((rd_T70 l4 x34_2).f0)).f1))).setCell ⟨gb236,2,none⟩ (.int .i64 ((rd_T63 l1 ((rd_T70 l4 x34_2).f0)).f2))) = w37 at n0_ n1_ n2_ n3_ ⊢
   have BK227:=n0_
   have BK234:=n1_
   have BK236:=n2_
   have HB:=n3_
   clear n0_ n1_ n2_ n3_
   have n0_:=Aside0.mk (blk_drew BK227.out)
   have n1_:=Aside0.mk (blk_drew BK234.out)
   have n2_:=Aside0.mk (blk_drew BK236.out)
   have n3_:=Aside0.mk (below_drew1 HB.out)
   clear BK227
   clear BK234
   clear BK236
   clear HB
   have BK227:=n0_
   have BK234:=n1_
   have BK236:=n2_
   have HB:=n3_
   clear n0_ n1_ n2_ n3_
   refine start_ (n:=13) (S:=fun w'=>w'.cell? ⟨gb236,0,none⟩ = some (.int .i64 ((rd_T63 l1 ((rd_T70 l4 x34_2).f0)).f0)) ∧ w'.cell? ⟨gb236,1,none⟩ = some (.int .i64 ((rd_T63 l1 ((rd_T70 l4 x34_2).f0)).f1)) ∧ w'.cell? ⟨gb236,2,none⟩ = some (.int .i64 ((rd_T63 l1 ((rd_T70 l4 x34_2).f0)).f2)) ∧ w'.cell? ⟨gb227,0,none⟩ = some (.int .i64 a0_0) ∧ w'.cell? ⟨gb227,1,none⟩ = some (.bool a0_1) ∧ w'.cell? ⟨gb234,0,none⟩ = some (.int .i64 ((rd_T70 l4 x34_2).f0)) ∧ w'.cell? ⟨gb234,1,none⟩ = some (.int .i64 ((rd_T70 l4 x34_2).f1)) ∧ w'.cell? ⟨gb234,2,none⟩ = some (.int .i64 ((rd_T70 l4 x34_2).f2))) (ds:=[]) #[false,false,false,false,false,false,false,false,false,false,false,false,false] (by kernel_rfl) rfl rfl ⟨(blk_cell BK236.out 0).trans rfl,(blk_cell BK236.out 1).trans rfl,(blk_cell BK236.out 2).trans rfl,(blk_cell BK227.out 0).trans rfl,(blk_cell BK227.out 1).trans rfl,(blk_cell BK234.out 0).trans rfl,(blk_cell BK234.out 1).trans rfl,(blk_cell BK234.out 2).trans rfl⟩ (fun hHeld=>?_);refine with_tabW impl_RelayPrice.tab8 impl_RelayPrice.bits8 (fun HT_ HW_=>?_)
   generalize w37.drew = w38 at BK227 BK234 BK236 HB hHeld ⊢
   refine pure_ (i:=0) (N:=some 43) (v:=?_) (a':=?_) #[true,false,false,false,false,false,false,false,false,false,false,false,false] rfl rfl (any_of HT_.out (by kernel_rfl)) (fun _ _ _ h=>h) (Or.inl ⟨by rfl,?_⟩) ?_ ?_
   rotate_left
   ·intro w'
    go_simp
    with_reducible rfl
   rotate_left
   ·simp only [Act.put,List.setIfInBounds_toArray,List.set_cons_zero,List.set_cons_succ,i64_w,i32_w]
    rfl
   refine pure_ (i:=1) (N:=some 44) (v:=?_) (a':=?_) #[true,true,false,false,false,false,false,false,false,false,false,false,false] rfl rfl (any_of HT_.out (by kernel_rfl)) (fun _ _ _ h=>h) (Or.inl ⟨by rfl,?_⟩) ?_ ?_
   rotate_left
   ·intro w'
    go_simp
    with_reducible rfl
   rotate_left
   ·simp only [Act.put,List.setIfInBounds_toArray,List.set_cons_zero,List.set_cons_succ,i64_w,i32_w]
    rfl
   refine pure_ (i:=5) (N:=some 48) (v:=?_) (a':=?_) #[true,true,false,false,false,true,false,false,false,false,false,false,false] rfl rfl (any_of HT_.out (by kernel_rfl)) (fun _ _ _ h=>h) (Or.inl ⟨by rfl,?_⟩) ?_ ?_
   rotate_left
   ·intro w'
    go_simp
    with_reducible rfl
   rotate_left
   ·simp only [Act.put,List.setIfInBounds_toArray,List.set_cons_zero,List.set_cons_succ,i64_w,i32_w]
    rfl
   refine pure_ (i:=7) (N:=some 50) (v:=?_) (a':=?_) #[true,true,false,false,false,true,false,true,false,false,false,false,false] rfl rfl (any_of HT_.out (by kernel_rfl)) (fun _ _ _ h=>h) (Or.inl ⟨by rfl,?_⟩) ?_ ?_
   rotate_left
   ·intro w'
    go_simp
    with_reducible rfl
   rotate_left
   ·simp only [Act.put,List.setIfInBounds_toArray,List.set_cons_zero,List.set_cons_succ,i64_w,i32_w]
    rfl
   refine take_ (i:=2) (N:=some 45) (v:=?_) (a':=?_) #[true,true,true,false,false,true,false,true,false,false,false,false,false] rfl rfl (take_ofW HT_.out HW_.out (by kernel_rfl)) (fun _ _ _ h=>h) (Or.inl ⟨by rfl,?_⟩) hHeld ?_ ?_
   rotate_left
   ·rintro w' ⟨s0,s1,s2,s3,s4,s5,s6,s7⟩
    go_simp
    with_reducible rfl
   rotate_left
   ·simp only [Act.put,List.setIfInBounds_toArray,List.set_cons_zero,List.set_cons_succ,i64_w,i32_w]
    rfl
   refine take_ (i:=3) (N:=some 46) (v:=?_) (a':=?_) #[true,true,true,true,false,true,false,true,false,false,false,false,false] rfl rfl (take_ofW HT_.out HW_.out (by kernel_rfl)) (fun _ _ _ h=>h) (Or.inl ⟨by rfl,?_⟩) hHeld ?_ ?_
   rotate_left
   ·rintro w' ⟨s0,s1,s2,s3,s4,s5,s6,s7⟩
    go_simp
    with_reducible rfl
   rotate_left
   ·simp only [Act.put,List.setIfInBounds_toArray,List.set_cons_zero,List.set_cons_succ,i64_w,i32_w]
    rfl
   refine take_ (i:=4) (N:=some 47) (v:=?_) (a':=?_) #[true,true,true,true,true,true,false,true,false,false,false,false,false] rfl rfl (take_ofW HT_.out HW_.out (by kernel_rfl)) (fun _ _ _ h=>h) (Or.inl ⟨by rfl,?_⟩) hHeld ?_ ?_
   rotate_left
   ·rintro w' ⟨s0,s1,s2,s3,s4,s5,s6,s7⟩
    go_simp
    with_reducible rfl
   rotate_left
   ·simp only [Act.put,List.setIfInBounds_toArray,List.set_cons_zero,List.set_cons_succ,i64_w,i32_w]
    rfl
   refine take_ (i:=6) (N:=some 49) (v:=?_) (a':=?_) #[true,true,true,true,true,true,true,true,false,false,false,false,false] rfl rfl (take_ofW HT_.out HW_.out (by kernel_rfl)) (fun _ _ _ h=>h) (Or.inl ⟨by rfl,?_⟩) hHeld ?_ ?_
   rotate_left
   ·rintro w' ⟨s0,s1,s2,s3,s4,s5,s6,s7⟩
    go_simp
    with_reducible rfl
   rotate_left
   ·simp only [Act.put,List.setIfInBounds_toArray,List.set_cons_zero,List.set_cons_succ,i64_w,i32_w]
    rfl
   refine take_ (i:=8) (N:=some 51) (v:=?_) (a':=?_) #[true,true,true,true,true,true,true,true,true,false,false,false,false] rfl rfl (take_ofW HT_.out HW_.out (by kernel_rfl)) (fun _ _ _ h=>h) (Or.inl ⟨by rfl,?_⟩) hHeld ?_ ?_
   rotate_left
   ·rintro w' ⟨s0,s1,s2,s3,s4,s5,s6,s7⟩
    go_simp
    with_reducible rfl
   rotate_left
   ·simp only [Act.put,List.setIfInBounds_toArray,List.set_cons_zero,List.set_cons_succ,i64_w,i32_w]
    rfl
   refine one_ (i:=9) (N:=some 52) #[true,true,true,true,true,true,true,true,true,true,false,false,false] rfl rfl (one_of HT_.out (by kernel_rfl)) (by decide) (fun K hK=>?_)
   refine goes_ Try.func65 (by kernel_rfl) rfl #[.agg #[.int .i64 a0_0,.bool a0_1],.agg #[.int .i64 ((rd_T63 l1 ((rd_T70 l4 x34_2).f0)).f0),.int .i64 ((rd_T63 l1 ((rd_T70 l4 x34_2).f0)).f1),.int .i64 ((rd_T63 l1 ((rd_T70 l4 x34_2).f0)).f2)],.int .i64 ((rd_T70 l4 x34_2).f1),.int .i64 ((rd_T70 l4 x34_2).f2)] (by rfl) rfl rfl (by (try simp only [List.map_toArray,List.map_cons,List.map_nil]);first|done|rfl|(simp only [List.length_drop,List.length_take];rfl)) ?_
   with_reducible refine (impl_Road_steps.calls a0_0 a0_1 ((rd_T63 l1 ((rd_T70 l4 x34_2).f0)).f0) ((rd_T63 l1 ((rd_T70 l4 x34_2).f0)).f1) ((rd_T63 l1 ((rd_T70 l4 x34_2).f0)).f2) ((rd_T70 l4 x34_2).f1) ((rd_T70 l4 x34_2).f2) t237 _ A29.out).mono ?_
   rintro e w39 ⟨rfl,hb⟩
   refine ⟨_,rfl,?_⟩
   have n0_:=Aside0.mk (blk_below (g:=gb227) (o:=.cells #[.int .i64 a0_0,.bool a0_1] 28 (0,0)) (by (with_reducible repeat (first|apply blk_drewN|apply blk_drew|apply blk_alloc));exact BK227.out) hb)
   have n1_:=Aside0.mk (blk_below (g:=gb234) (o:=.cells #[.int .i64 ((rd_T70 l4 x34_2).f0),.int .i64 ((rd_T70 l4 x34_2).f1),.int .i64 ((rd_T70 l4 x34_2).f2)] 70 (0,0)) (by (with_reducible repeat (first|apply blk_drewN|apply blk_drew|apply blk_alloc));exact BK234.out) hb)
   have n2_:=Aside0.mk (blk_below (g:=gb236) (o:=.cells #[.int .i64 ((rd_T63 l1 ((rd_T70 l4 x34_2).f0)).f0),.int .i64 ((rd_T63 l1 ((rd_T70 l4 x34_2).f0)).f1),.int .i64 ((rd_T63 l1 ((rd_T70 l4 x34_2).f0)).f2)] 63 (0,0)) (by (with_reducible repeat (first|apply blk_drewN|apply blk_drew|apply blk_alloc));exact BK236.out) hb)
   have n3_:=Aside0.mk (below_step (by repeat (first|(with_reducible first|exact HB.out|apply below_alloc|apply pw_below_drewN|apply below_drew1|refine below_set ?_ GE227.out|refine below_set ?_ GE234.out|refine below_set ?_ GE236.out)|exact HB.out)) hb)
   clear BK227
   clear BK234
   clear BK236
   clear HB
   have BK227:=n0_
   have BK234:=n1_
   have BK236:=n2_
   have HB:=n3_
   clear n0_ n1_ n2_ n3_
   (try clear hb)
   (try clear hb2)
   (try clear hk)
   (try clear hi)
   refine hK.out _ _ ⟨(blk_cell BK236.out 0).trans rfl,(blk_cell BK236.out 1).trans rfl,(blk_cell BK236.out 2).trans rfl,(blk_cell BK227.out 0).trans rfl,(blk_cell BK227.out 1).trans rfl,(blk_cell BK234.out 0).trans rfl,(blk_cell BK234.out 1).trans rfl,(blk_cell BK234.out 2).trans rfl⟩ (fun hHeld=>?_)
   clear hK K
   refine norm_ (a':=?_) ?_ ?_
   rotate_left
   ·show Act.put _ (some 52) _ = _
    simp only [Act.put,List.setIfInBounds_toArray,List.set_cons_zero,List.set_cons_succ,i64_w,i32_w]
    rfl
   refine pure_ (i:=10) (N:=some 53) (v:=?_) (a':=?_) #[true,true,true,true,true,true,true,true,true,true,true,false,false] rfl rfl (any_of HT_.out (by kernel_rfl)) (fun _ _ _ h=>h) (Or.inl ⟨by rfl,?_⟩) ?_ ?_
   rotate_left
   ·intro w'
    go_simp
    with_reducible rfl
   rotate_left
   ·simp only [Act.put,List.setIfInBounds_toArray,List.set_cons_zero,List.set_cons_succ,i64_w,i32_w]
    rfl
   refine pure_ (i:=11) (N:=some 54) (v:=?_) (a':=?_) #[true,true,true,true,true,true,true,true,true,true,true,true,false] rfl rfl (any_of HT_.out (by kernel_rfl)) (fun _ _ _ h=>h) (Or.inl ⟨by rfl,?_⟩) ?_ ?_
   rotate_left
   ·intro w'
    go_simp
    with_reducible rfl
   rotate_left
   ·simp only [Act.put,List.setIfInBounds_toArray,List.set_cons_zero,List.set_cons_succ,i64_w,i32_w]
    rfl
   refine pure_ (i:=12) (N:=some 12) (v:=?_) (a':=?_) #[true,true,true,true,true,true,true,true,true,true,true,true,true] rfl rfl (any_of HT_.out (by kernel_rfl)) (fun _ _ _ h=>h) (Or.inl ⟨by rfl,?_⟩) ?_ ?_
   rotate_left
   ·intro w'
    go_simp
    with_reducible rfl
   rotate_left
   ·simp only [Act.put,List.setIfInBounds_toArray,List.set_cons_zero,List.set_cons_succ,i64_w,i32_w]
    rfl
   refine done_ (done_of HT_.out (by kernel_rfl)) ?_
   try go_wp2
   go_roundg k2
   case measure=>have:=HJ5.out;have:=HK2.out;omega
   case rel=>exact ⟨(wrap64 (x12_2 + (wrap64 (((rd_T63 l1 ((rd_T70 l4 x34_2).f0)).f2) * t237)))),(wrap64 (x34_2 + 1)),(by first|rfl|(simp;done)|(simp [*];done)),(by first|rfl|(simp;done)|(simp [*];done)),H',⟨by have:=HJ5.out;have:=HK2.out;omega⟩,⟨by (with_reducible repeat (first|apply blk_drewN|apply blk_drew|apply blk_alloc));exact BK227.out⟩,⟨by repeat (first|(with_reducible first|exact HB.out|apply below_alloc|apply pw_below_drewN|apply below_drew1|refine below_set ?_ GE227.out|refine below_set ?_ GE234.out|refine below_set ?_ GE236.out)|exact HB.out)⟩⟩

/-! ### laws_eqIntA3: function 66: two arrays of three numbers -/
def laws_eqIntA3.f (a0_0 : Int) (a0_1 : Int) (a0_2 : Int) (a1_0 : Int) (a1_1 : Int) (a1_2 : Int) : Option (Bool):=some (decide (a0_0 = a1_0) && (decide (a0_1 = a1_1) && decide (a0_2 = a1_2)))
set_option maxHeartbeats 8000000 in
set_option maxRecDepth 100000 in
theorem laws_eqIntA3.calls (a0_0 : Int) (a0_1 : Int) (a0_2 : Int) (a1_0 : Int) (a1_1 : Int) (a1_2 : Int) (r : Bool) (w : World) (h : laws_eqIntA3.f a0_0 a0_1 a0_2 a1_0 a1_1 a1_2 = some r) :
  Calls Try.prog 66 #[.agg #[.int .i64 a0_0,.int .i64 a0_1,.int .i64 a0_2],.agg #[.int .i64 a1_0,.int .i64 a1_1,.int .i64 a1_2]] w fun e w'=>e = .returned (.bool r) ∧ Below w.heap.size w w':=by
 have hu70:=Try.underlying70
 obtain rfl:=Option.some.inj h
 clear h
 have HB:=Aside0.mk (Below.refl w.heap.size w)
 go_enter Try.func66,Try.ntmps66
 go_wp2_with (first|((with_reducible refine gate_dst (N:=2) rfl ?_);refine box_event ?hg (N:=2) ?hd (cs:=#[.int .i64 a0_0,.int .i64 a0_1,.int .i64 a0_2]) (t:=70) ?hr ?_;(case hd=>rfl);(case hg=>rfl);(case hr=>first|(go_simp;done)|(go_simp;rfl));intro g2 hg w2 hbox hb;have n0_:=Aside0.mk (below_step HB.out hb);have BK2:=Aside0.mk hbox;clear HB;have HB:=n0_;clear n0_ hb hg hbox)|((with_reducible refine gate_dst (N:=3) rfl ?_);refine box_event ?hg (N:=3) ?hd (cs:=#[.int .i64 a1_0,.int .i64 a1_1,.int .i64 a1_2]) (t:=70) ?hr ?_;(case hd=>rfl);(case hg=>rfl);(case hr=>first|(go_simp;done)|(go_simp;rfl));intro g3 hg w3 hbox hb;have n0_:=Aside0.mk (below_step HB.out hb);have n1_:=Aside0.mk (blk_below BK2.out hb);have BK3:=Aside0.mk hbox;clear HB BK2;have HB:=n0_;have BK2:=n1_;clear n0_ n1_ hb hg hbox))
 have hz20 : w3.cell? ⟨g2,0,none⟩ = some (.int .i64 a0_0):=(blk_cell BK2.out 0).trans rfl
 have hz21 : w3.cell? ⟨g2,1,none⟩ = some (.int .i64 a0_1):=(blk_cell BK2.out 1).trans rfl
 have hz22 : w3.cell? ⟨g2,2,none⟩ = some (.int .i64 a0_2):=(blk_cell BK2.out 2).trans rfl
 have hz30 : w3.cell? ⟨g3,0,none⟩ = some (.int .i64 a1_0):=(blk_cell BK3.out 0).trans rfl
 have hz31 : w3.cell? ⟨g3,1,none⟩ = some (.int .i64 a1_1):=(blk_cell BK3.out 1).trans rfl
 have hz32 : w3.cell? ⟨g3,2,none⟩ = some (.int .i64 a1_2):=(blk_cell BK3.out 2).trans rfl
 refine wp_loop_rounds 4 ?_
 rw [rounds_succ]
 go_wp2
 repeat (go_quiet (fail);try go_wp2)
 ·rename_i hne
  have e_ : ¬ a0_0 = a1_0:=by simpa using hne
  clear hne
  go_ret
  exact ⟨by simp [e_],by repeat (first|exact HB.out|apply pw_below_drewN|apply below_drew1)⟩
 rename_i hq0
 have E0:=Aside0.mk (show a0_0 = a1_0 by simpa using hq0)
 clear hq0
 rw [rounds_succ]
 go_wp2
 repeat (go_quiet (fail);try go_wp2)
 ·rename_i hne
  have e_ : ¬ a0_1 = a1_1:=by simpa using hne
  clear hne
  go_ret
  exact ⟨by simp [e_,E0.out],by repeat (first|exact HB.out|apply pw_below_drewN|apply below_drew1)⟩
 rename_i hq1
 have E1:=Aside0.mk (show a0_1 = a1_1 by simpa using hq1)
 clear hq1
 rw [rounds_succ]
 go_wp2
 repeat (go_quiet (fail);try go_wp2)
 ·rename_i hne
  have e_ : ¬ a0_2 = a1_2:=by simpa using hne
  clear hne
  go_ret
  exact ⟨by simp [e_,E0.out,E1.out],by repeat (first|exact HB.out|apply pw_below_drewN|apply below_drew1)⟩
 rename_i hq2
 have E2:=Aside0.mk (show a0_2 = a1_2 by simpa using hq2)
 clear hq2
 rw [rounds_succ]
 go_wp2
 go_ret
 exact ⟨by simp [E0.out,E1.out,E2.out],by repeat (first|exact HB.out|apply pw_below_drewN|apply below_drew1)⟩

/-! ### laws_eqIntA3S: function 20 -/
def laws_eqIntA3S.l0 : Nat → List (S70) → List (S70) → Int → Option (Bool)
 | 0,_,_,_=>none
 | k + 1,x0,x1,x5=>if x5 < (x0.length : Int) then (if 0 ≤ x5 then (if x5 < (x1.length : Int) then ((laws_eqIntA3.f ((rd_T70 x0 x5).f0) ((rd_T70 x0 x5).f1) ((rd_T70 x0 x5).f2) ((rd_T70 x1 x5).f0) ((rd_T70 x1 x5).f1) ((rd_T70 x1 x5).f2)).bind fun t240=>(if t240 = true then (laws_eqIntA3S.l0 k x0 x1 (wrap64 (x5 + 1))) else (some false))) else (none)) else (none)) else (some true)
def laws_eqIntA3S.f (k : Nat) (l0 : List (S70)) (l1 : List (S70)) : Option (Bool):=if (l0.length : Int) = (l1.length : Int) then (laws_eqIntA3S.l0 k l0 l1 0) else (some false)
theorem laws_eqIntA3S.mono_l : ∀ k,(∀ y0 y1 y2,LeO (laws_eqIntA3S.l0 k y0 y1 y2) (laws_eqIntA3S.l0 (k + 1) y0 y1 y2))
 | 0=>fun _ _ _ r h=>by simp [laws_eqIntA3S.l0] at h
 | k + 1=>by
  have ih0:=laws_eqIntA3S.mono_l k
  ·intro y0 y1 y2
   unfold laws_eqIntA3S.l0
   repeat' first
   | (with_reducible exact ih0 _ _ _)
   | (with_reducible exact LeO.refl _)
   | (with_reducible exact LeO.none _)
   | (with_reducible refine LeO.ite ?_ ?_)
   | (with_reducible refine LeO.bind ?_ (fun _=>?_))
   | exact ih0 _ _ _
   | exact LeO.none _
   | refine LeO.ite ?_ ?_
   | refine LeO.bind ?_ (fun _=>?_)
theorem laws_eqIntA3S.mono : ∀ a0 a1 k,LeO (laws_eqIntA3S.f k a0 a1) (laws_eqIntA3S.f (k + 1) a0 a1):=by
 intro a0 a1 k
 have ih0:=laws_eqIntA3S.mono_l k
 unfold laws_eqIntA3S.f
 repeat' first
   | (with_reducible exact ih0 _ _ _)
   | (with_reducible exact LeO.refl _)
   | (with_reducible exact LeO.none _)
   | (with_reducible refine LeO.ite ?_ ?_)
   | (with_reducible refine LeO.bind ?_ (fun _=>?_))
   | exact ih0 _ _ _
   | exact LeO.none _
   | refine LeO.ite ?_ ?_
   | refine LeO.bind ?_ (fun _=>?_)
def laws_eqIntA3S.T6 : Bool × List (List Nat × List Nat):=(true,[([],[]),([],[]),([0,1],[0,1]),([2],[2]),([],[]),([],[]),([4,5],[4,5]),([6],[6]),([3,7],[3,7]),([8],[8])])
def laws_eqIntA3S.B6 : List Nat:=[0,0,3,7,0,0,48,112,255,511]
theorem laws_eqIntA3S.tab6 : rtab .any (opsOf Try.f20 6) = laws_eqIntA3S.T6:=by kernel_rfl
theorem laws_eqIntA3S.bits6 : waitsOk laws_eqIntA3S.T6.2 laws_eqIntA3S.B6 = true:=by kernel_rfl
set_option maxHeartbeats 8000000 in
set_option maxRecDepth 100000 in
theorem laws_eqIntA3S.calls (k : Nat) (A0 : Option Addr) (c0 : Nat) (l0 : List (S70)) (A1 : Option Addr) (c1 : Nat) (l1 : List (S70)) (r : Bool) (w : World) (hr0 : Kd.C k70 w A0 l0.length l0) (hc0 : l0.length ≤ c0) (hr1 : Kd.C k70 w A1 l1.length l1) (hc1 : l1.length ≤ c1) (h : laws_eqIntA3S.f k l0 l1 = some r) :
  Calls Try.prog 20 #[.slice A0 l0.length c0,.slice A1 l1.length c1] w fun e w'=>e = .returned (.bool r) ∧ Below w.heap.size w w':=by
 have hu70:=Try.underlying70
 have HR0:=Aside0.mk hr0
 have HC0:=Aside0.mk hc0
 clear hr0 hc0
 have HR1:=Aside0.mk hr1
 have HC1:=Aside0.mk hc1
 clear hr1 hc1
 have HB:=Aside0.mk (Below.refl w.heap.size w)
 have H : (if (l0.length : Int) = (l1.length : Int) then (laws_eqIntA3S.l0 k l0 l1 0) else (some false)) = some r:=h
 clear h
 by_cases c3 : (l0.length : Int) = (l1.length : Int)
 rotate_left
 ·rw [if_neg c3] at H
  have c3b0 : ((l0.length : Int) == (l1.length : Int)) = false:=beq_eq_false_iff_ne.mpr c3
  have c3b1 : ((l0.length : Int) != (l1.length : Int)) = true:=bne_iff_ne.mpr c3
  have c3b2 : (l0.length == l1.length) = false:=by first|simpa using c3|(simp at c3 ⊢;omega)
  obtain rfl:=Option.some.inj H
  go_enter Try.func20,Try.ntmps20
  go_wp2
  go_ret
  exact ⟨by first|rfl|(simp [errW_none,errW_some] <;> rfl)|(simp [*,errW_none,errW_some] <;> rfl),by repeat (first|(with_reducible first|exact HB.out|apply below_alloc|apply pw_below_drewN|apply below_drew1)|exact HB.out)⟩
 rw [if_pos c3] at H
 have c3b0 : ((l0.length : Int) == (l1.length : Int)) = true:=beq_iff_eq.mpr c3
 have c3b1 : ((l0.length : Int) != (l1.length : Int)) = false:=bne_eq_false_iff_eq.mpr c3
 have c3b2 : (l0.length == l1.length) = true:=by first|simpa using c3|(simp at c3 ⊢;omega)
 clear c3
 have H':=Aside0.mk H
 clear H
 go_enter Try.func20,Try.ntmps20
 go_wp2
 go_loopg [5] k (fun kq v5 w'=>∃ (x5_1 : Int),v5 = .int .i64 x5_1 ∧ Aside0 (laws_eqIntA3S.l0 kq l0 l1 x5_1 = some r) ∧ Aside0 (kq ≤ k) ∧ Aside0 (Below w.heap.size w w'))
 case atStart=>exact ⟨(0),(by first|rfl|(simp;done)|(simp [*];done)),H',⟨Nat.le_refl _⟩,⟨by repeat (first|(with_reducible first|exact HB.out|apply below_alloc|apply pw_below_drewN|apply below_drew1)|exact HB.out)⟩⟩
 clear H'
 try clear c1
 try clear c2
 try clear p2
 try clear c3
 try clear c3b0
 try clear c3b1
 try clear c3b2
 obtain ⟨x5_1,rfl,HA,HK1,HB⟩:=hrel
 cases gk with
 | zero=>exact absurd HA.out (by simp [laws_eqIntA3S.l0])
 | succ k1 =>
  have H:=HA.out
  clear HA
  simp only [laws_eqIntA3S.l0] at H
  by_cases c4 : x5_1 < (l0.length : Int)
  rotate_left
  ·rw [if_neg c4] at H
   have c4b0 : decide (x5_1 < (l0.length : Int)) = false:=decide_eq_false c4
   clear c4
   obtain rfl:=Option.some.inj H
   go_wp2
   go_ret
   exact ⟨by first|rfl|(simp [errW_none,errW_some] <;> rfl)|(simp [*,errW_none,errW_some] <;> rfl),by repeat (first|(with_reducible first|exact HB.out|apply below_alloc|apply pw_below_drewN|apply below_drew1)|exact HB.out)⟩
  rw [if_pos c4] at H
  have c4b0 : decide (x5_1 < (l0.length : Int)) = true:=decide_eq_true c4
  clear c4
  by_cases c5 : 0 ≤ x5_1
  rotate_left
  ·rw [if_neg c5] at H
   exact absurd H (by simp)
  rw [if_pos c5] at H
  have c5b0 : decide (0 ≤ x5_1) = true:=decide_eq_true c5
  clear c5
  by_cases c6 : x5_1 < (l1.length : Int)
  rotate_left
  ·rw [if_neg c6] at H
   exact absurd H (by simp)
  rw [if_pos c6] at H
  have c6b0 : decide (x5_1 < (l1.length : Int)) = true:=decide_eq_true c6
  clear c6
  replace H:=Option.bind_eq_some_iff.mp H
  obtain ⟨t240,A70,H⟩:=H
  replace H : (if t240 = true then (laws_eqIntA3S.l0 k1 l0 l1 (wrap64 (x5_1 + 1))) else (some false)) = some r:=H
  have A7:=Aside0.mk A70
  clear A70
  by_cases c8 : t240 = true
  rotate_left
  ·replace c8:=Bool.eq_false_iff.mpr c8
   subst c8
   have H1 : (some false) = some r:=by rw [if_neg (show ¬ (false = true) by decide)] at H;exact H
   clear H
   have H:=H1
   clear H1
   obtain rfl:=Option.some.inj H
   try go_wp2
   have n0_:=Aside0.mk (below_drew1 HB.out)
   clear HB
   have HB:=n0_
   clear n0_
   have p238 : 0 ≤ (x5_1 : Int):=of_decide_eq_true (by first|(with_reducible assumption)|assumption)
   have q238 : x5_1 < (l0.length : Int):=of_decide_eq_true (by first|(with_reducible assumption)|assumption)
   obtain ⟨ad238,e238,hx238_0,hx238_1,hx238_2⟩:=at_T70 HR0.out x5_1 p238 q238
   have hw238_2:=hx238_2
   have hw238_1:=hx238_1
   have hw238_0:=hx238_0
   cases e238
   replace hx238_0:=(HB.out.cell (World.block_lt_of_cell? w _ hx238_0)).trans hx238_0
   replace hx238_1:=(HB.out.cell (World.block_lt_of_cell? w _ hx238_1)).trans hx238_1
   replace hx238_2:=(HB.out.cell (World.block_lt_of_cell? w _ hx238_2)).trans hx238_2
   replace p238:=eq_true p238
   replace q238:=eq_true q238
   have p239 : 0 ≤ (x5_1 : Int):=of_decide_eq_true (by first|(with_reducible assumption)|assumption)
   have q239 : x5_1 < (l1.length : Int):=of_decide_eq_true (by first|(with_reducible assumption)|assumption)
   obtain ⟨ad239,e239,hx239_0,hx239_1,hx239_2⟩:=at_T70 HR1.out x5_1 p239 q239
   have hw239_2:=hx239_2
   have hw239_1:=hx239_1
   have hw239_0:=hx239_0
   cases e239
   replace hx239_0:=(HB.out.cell (World.block_lt_of_cell? w _ hx239_0)).trans hx239_0
   replace hx239_1:=(HB.out.cell (World.block_lt_of_cell? w _ hx239_1)).trans hx239_1
   replace hx239_2:=(HB.out.cell (World.block_lt_of_cell? w _ hx239_2)).trans hx239_2
   replace p239:=eq_true p239
   replace q239:=eq_true q239
   refine start_ (n:=10) (S:=fun w'=>w'.cell? (ad238.add ((x5_1).toNat * 3)) = some (.int .i64 ((rd_T70 l0 x5_1).f0)) ∧ w'.cell? ⟨(ad238.add ((x5_1).toNat * 3)).block,(ad238.add ((x5_1).toNat * 3)).off + 1,none⟩ = some (.int .i64 ((rd_T70 l0 x5_1).f1)) ∧ w'.cell? ⟨(ad238.add ((x5_1).toNat * 3)).block,(ad238.add ((x5_1).toNat * 3)).off + 2,none⟩ = some (.int .i64 ((rd_T70 l0 x5_1).f2)) ∧ w'.cell? (ad239.add ((x5_1).toNat * 3)) = some (.int .i64 ((rd_T70 l1 x5_1).f0)) ∧ w'.cell? ⟨(ad239.add ((x5_1).toNat * 3)).block,(ad239.add ((x5_1).toNat * 3)).off + 1,none⟩ = some (.int .i64 ((rd_T70 l1 x5_1).f1)) ∧ w'.cell? ⟨(ad239.add ((x5_1).toNat * 3)).block,(ad239.add ((x5_1).toNat * 3)).off + 2,none⟩ = some (.int .i64 ((rd_T70 l1 x5_1).f2))) (ds:=[]) #[false,false,false,false,false,false,false,false,false,false] (by kernel_rfl) rfl rfl ⟨((HB.out.cell (World.block_lt_of_cell? w _ hw238_0)).trans hw238_0),((HB.out.cell (World.block_lt_of_cell? w _ hw238_1)).trans hw238_1),((HB.out.cell (World.block_lt_of_cell? w _ hw238_2)).trans hw238_2),((HB.out.cell (World.block_lt_of_cell? w _ hw239_0)).trans hw239_0),((HB.out.cell (World.block_lt_of_cell? w _ hw239_1)).trans hw239_1),((HB.out.cell (World.block_lt_of_cell? w _ hw239_2)).trans hw239_2)⟩ (fun hHeld=>?_);refine with_tabW laws_eqIntA3S.tab6 laws_eqIntA3S.bits6 (fun HT_ HW_=>?_)
   generalize wr.drew = w11 at HB hx238_0 hx238_1 hx238_2 hx239_0 hx239_1 hx239_2 hHeld ⊢
   refine pure_ (i:=0) (N:=some 17) (v:=?_) (a':=?_) #[true,false,false,false,false,false,false,false,false,false] rfl rfl (any_of HT_.out (by kernel_rfl)) (fun _ _ _ h=>h) (Or.inl ⟨by rfl,?_⟩) ?_ ?_
   rotate_left
   ·intro w'
    go_simp
    with_reducible rfl
   rotate_left
   ·simp only [Act.put,List.setIfInBounds_toArray,List.set_cons_zero,List.set_cons_succ,i64_w,i32_w]
    rfl
   refine pure_ (i:=1) (N:=some 18) (v:=?_) (a':=?_) #[true,true,false,false,false,false,false,false,false,false] rfl rfl (any_of HT_.out (by kernel_rfl)) (fun _ _ _ h=>h) (Or.inl ⟨by rfl,?_⟩) ?_ ?_
   rotate_left
   ·intro w'
    go_simp
    with_reducible rfl
   rotate_left
   ·simp only [Act.put,List.setIfInBounds_toArray,List.set_cons_zero,List.set_cons_succ,i64_w,i32_w]
    rfl
   refine pure_ (i:=2) (N:=some 19) (v:=?_) (a':=?_) #[true,true,true,false,false,false,false,false,false,false] rfl rfl (any_of HT_.out (by kernel_rfl)) (fun _ _ _ h=>h) (Or.inl ⟨by rfl,?_⟩) ?_ ?_
   rotate_left
   ·intro w'
    go_simp
    with_reducible rfl
   rotate_left
   ·simp only [Act.put,List.setIfInBounds_toArray,List.set_cons_zero,List.set_cons_succ,i64_w,i32_w]
    rfl
   refine pure_ (i:=4) (N:=some 21) (v:=?_) (a':=?_) #[true,true,true,false,true,false,false,false,false,false] rfl rfl (any_of HT_.out (by kernel_rfl)) (fun _ _ _ h=>h) (Or.inl ⟨by rfl,?_⟩) ?_ ?_
   rotate_left
   ·intro w'
    go_simp
    with_reducible rfl
   rotate_left
   ·simp only [Act.put,List.setIfInBounds_toArray,List.set_cons_zero,List.set_cons_succ,i64_w,i32_w]
    rfl
   refine pure_ (i:=5) (N:=some 22) (v:=?_) (a':=?_) #[true,true,true,false,true,true,false,false,false,false] rfl rfl (any_of HT_.out (by kernel_rfl)) (fun _ _ _ h=>h) (Or.inl ⟨by rfl,?_⟩) ?_ ?_
   rotate_left
   ·intro w'
    go_simp
    with_reducible rfl
   rotate_left
   ·simp only [Act.put,List.setIfInBounds_toArray,List.set_cons_zero,List.set_cons_succ,i64_w,i32_w]
    rfl
   refine pure_ (i:=6) (N:=some 23) (v:=?_) (a':=?_) #[true,true,true,false,true,true,true,false,false,false] rfl rfl (any_of HT_.out (by kernel_rfl)) (fun _ _ _ h=>h) (Or.inl ⟨by rfl,?_⟩) ?_ ?_
   rotate_left
   ·intro w'
    go_simp
    with_reducible rfl
   rotate_left
   ·simp only [Act.put,List.setIfInBounds_toArray,List.set_cons_zero,List.set_cons_succ,i64_w,i32_w]
    rfl
   refine take_ (i:=3) (N:=some 20) (v:=?_) (a':=?_) #[true,true,true,true,true,true,true,false,false,false] rfl rfl (take_ofW HT_.out HW_.out (by kernel_rfl)) (fun _ _ _ h=>h) (Or.inl ⟨by rfl,?_⟩) hHeld ?_ ?_
   rotate_left
   ·rintro w' ⟨s0,s1,s2,s3,s4,s5⟩
    go_simp
    with_reducible rfl
   rotate_left
   ·simp only [Act.put,List.setIfInBounds_toArray,List.set_cons_zero,List.set_cons_succ,i64_w,i32_w]
    rfl
   refine take_ (i:=7) (N:=some 24) (v:=?_) (a':=?_) #[true,true,true,true,true,true,true,true,false,false] rfl rfl (take_ofW HT_.out HW_.out (by kernel_rfl)) (fun _ _ _ h=>h) (Or.inl ⟨by rfl,?_⟩) hHeld ?_ ?_
   rotate_left
   ·rintro w' ⟨s0,s1,s2,s3,s4,s5⟩
    go_simp
    with_reducible rfl
   rotate_left
   ·simp only [Act.put,List.setIfInBounds_toArray,List.set_cons_zero,List.set_cons_succ,i64_w,i32_w]
    rfl
   refine one_ (i:=8) (N:=some 25) #[true,true,true,true,true,true,true,true,true,false] rfl rfl (one_of HT_.out (by kernel_rfl)) (by decide) (fun K hK=>?_)
   refine goes_ Try.func66 (by kernel_rfl) rfl #[.agg #[.int .i64 ((rd_T70 l0 x5_1).f0),.int .i64 ((rd_T70 l0 x5_1).f1),.int .i64 ((rd_T70 l0 x5_1).f2)],.agg #[.int .i64 ((rd_T70 l1 x5_1).f0),.int .i64 ((rd_T70 l1 x5_1).f1),.int .i64 ((rd_T70 l1 x5_1).f2)]] (by rfl) rfl rfl (by (try simp only [List.map_toArray,List.map_cons,List.map_nil]);first|done|rfl|(simp only [List.length_drop,List.length_take];rfl)) ?_
   with_reducible refine (laws_eqIntA3.calls ((rd_T70 l0 x5_1).f0) ((rd_T70 l0 x5_1).f1) ((rd_T70 l0 x5_1).f2) ((rd_T70 l1 x5_1).f0) ((rd_T70 l1 x5_1).f1) ((rd_T70 l1 x5_1).f2) false _ A7.out).mono ?_
   rintro e w12 ⟨rfl,hb⟩
   refine ⟨_,rfl,?_⟩
   have n0_:=Aside0.mk (below_step (by repeat (first|(with_reducible first|exact HB.out|apply below_alloc|apply pw_below_drewN|apply below_drew1)|exact HB.out)) hb)
   clear HB
   have HB:=n0_
   clear n0_
   (try clear hb)
   (try clear hb2)
   (try clear hk)
   (try clear hi)
   refine hK.out _ _ ⟨((HB.out.cell (World.block_lt_of_cell? w _ hw238_0)).trans hw238_0),((HB.out.cell (World.block_lt_of_cell? w _ hw238_1)).trans hw238_1),((HB.out.cell (World.block_lt_of_cell? w _ hw238_2)).trans hw238_2),((HB.out.cell (World.block_lt_of_cell? w _ hw239_0)).trans hw239_0),((HB.out.cell (World.block_lt_of_cell? w _ hw239_1)).trans hw239_1),((HB.out.cell (World.block_lt_of_cell? w _ hw239_2)).trans hw239_2)⟩ (fun hHeld=>?_)
   clear hK K
   refine norm_ (a':=?_) ?_ ?_
   rotate_left
   ·show Act.put _ (some 25) _ = _
    simp only [Act.put,List.setIfInBounds_toArray,List.set_cons_zero,List.set_cons_succ,i64_w,i32_w]
    rfl
   refine pure_ (i:=9) (N:=some 26) (v:=?_) (a':=?_) #[true,true,true,true,true,true,true,true,true,true] rfl rfl (any_of HT_.out (by kernel_rfl)) (fun _ _ _ h=>h) (Or.inl ⟨by rfl,?_⟩) ?_ ?_
   rotate_left
   ·intro w'
    go_simp
    with_reducible rfl
   rotate_left
   ·simp only [Act.put,List.setIfInBounds_toArray,List.set_cons_zero,List.set_cons_succ,i64_w,i32_w]
    rfl
   refine done_ (done_of HT_.out (by kernel_rfl)) ?_
   try go_wp2
   go_ret
   exact ⟨by first|rfl|(simp [errW_none,errW_some] <;> rfl)|(simp [*,errW_none,errW_some] <;> rfl),by repeat (first|(with_reducible first|exact HB.out|apply below_alloc|apply pw_below_drewN|apply below_drew1)|exact HB.out)⟩
  subst c8
  have H1 : (laws_eqIntA3S.l0 k1 l0 l1 (wrap64 (x5_1 + 1))) = some r:=by rw [if_pos rfl] at H;exact H
  clear H
  have H:=H1
  clear H1
  have H':=Aside0.mk H
  clear H
  try go_wp2
  have n0_:=Aside0.mk (below_drew1 HB.out)
  clear HB
  have HB:=n0_
  clear n0_
  have p238 : 0 ≤ (x5_1 : Int):=of_decide_eq_true (by first|(with_reducible assumption)|assumption)
  have q238 : x5_1 < (l0.length : Int):=of_decide_eq_true (by first|(with_reducible assumption)|assumption)
  obtain ⟨ad238,e238,hx238_0,hx238_1,hx238_2⟩:=at_T70 HR0.out x5_1 p238 q238
  have hw238_2:=hx238_2
  have hw238_1:=hx238_1
  have hw238_0:=hx238_0
  cases e238
  replace hx238_0:=(HB.out.cell (World.block_lt_of_cell? w _ hx238_0)).trans hx238_0
  replace hx238_1:=(HB.out.cell (World.block_lt_of_cell? w _ hx238_1)).trans hx238_1
  replace hx238_2:=(HB.out.cell (World.block_lt_of_cell? w _ hx238_2)).trans hx238_2
  replace p238:=eq_true p238
  replace q238:=eq_true q238
  have p239 : 0 ≤ (x5_1 : Int):=of_decide_eq_true (by first|(with_reducible assumption)|assumption)
  have q239 : x5_1 < (l1.length : Int):=of_decide_eq_true (by first|(with_reducible assumption)|assumption)
  obtain ⟨ad239,e239,hx239_0,hx239_1,hx239_2⟩:=at_T70 HR1.out x5_1 p239 q239
  have hw239_2:=hx239_2
  have hw239_1:=hx239_1
  have hw239_0:=hx239_0
  cases e239
  replace hx239_0:=(HB.out.cell (World.block_lt_of_cell? w _ hx239_0)).trans hx239_0
  replace hx239_1:=(HB.out.cell (World.block_lt_of_cell? w _ hx239_1)).trans hx239_1
  replace hx239_2:=(HB.out.cell (World.block_lt_of_cell? w _ hx239_2)).trans hx239_2
  replace p239:=eq_true p239
  replace q239:=eq_true q239
  refine start_ (n:=10) (S:=fun w'=>w'.cell? (ad238.add ((x5_1).toNat * 3)) = some (.int .i64 ((rd_T70 l0 x5_1).f0)) ∧ w'.cell? ⟨(ad238.add ((x5_1).toNat * 3)).block,(ad238.add ((x5_1).toNat * 3)).off + 1,none⟩ = some (.int .i64 ((rd_T70 l0 x5_1).f1)) ∧ w'.cell? ⟨(ad238.add ((x5_1).toNat * 3)).block,(ad238.add ((x5_1).toNat * 3)).off + 2,none⟩ = some (.int .i64 ((rd_T70 l0 x5_1).f2)) ∧ w'.cell? (ad239.add ((x5_1).toNat * 3)) = some (.int .i64 ((rd_T70 l1 x5_1).f0)) ∧ w'.cell? ⟨(ad239.add ((x5_1).toNat * 3)).block,(ad239.add ((x5_1).toNat * 3)).off + 1,none⟩ = some (.int .i64 ((rd_T70 l1 x5_1).f1)) ∧ w'.cell? ⟨(ad239.add ((x5_1).toNat * 3)).block,(ad239.add ((x5_1).toNat * 3)).off + 2,none⟩ = some (.int .i64 ((rd_T70 l1 x5_1).f2))) (ds:=[]) #[false,false,false,false,false,false,false,false,false,false] (by kernel_rfl) rfl rfl ⟨((HB.out.cell (World.block_lt_of_cell? w _ hw238_0)).trans hw238_0),((HB.out.cell (World.block_lt_of_cell? w _ hw238_1)).trans hw238_1),((HB.out.cell (World.block_lt_of_cell? w _ hw238_2)).trans hw238_2),((HB.out.cell (World.block_lt_of_cell? w _ hw239_0)).trans hw239_0),((HB.out.cell (World.block_lt_of_cell? w _ hw239_1)).trans hw239_1),((HB.out.cell (World.block_lt_of_cell? w _ hw239_2)).trans hw239_2)⟩ (fun hHeld=>?_);refine with_tabW laws_eqIntA3S.tab6 laws_eqIntA3S.bits6 (fun HT_ HW_=>?_)
  generalize wr.drew = w9 at HB hx238_0 hx238_1 hx238_2 hx239_0 hx239_1 hx239_2 hHeld ⊢
  refine pure_ (i:=0) (N:=some 17) (v:=?_) (a':=?_) #[true,false,false,false,false,false,false,false,false,false] rfl rfl (any_of HT_.out (by kernel_rfl)) (fun _ _ _ h=>h) (Or.inl ⟨by rfl,?_⟩) ?_ ?_
  rotate_left
  ·intro w'
   go_simp
   with_reducible rfl
  rotate_left
  ·simp only [Act.put,List.setIfInBounds_toArray,List.set_cons_zero,List.set_cons_succ,i64_w,i32_w]
   rfl
  refine pure_ (i:=1) (N:=some 18) (v:=?_) (a':=?_) #[true,true,false,false,false,false,false,false,false,false] rfl rfl (any_of HT_.out (by kernel_rfl)) (fun _ _ _ h=>h) (Or.inl ⟨by rfl,?_⟩) ?_ ?_
  rotate_left
  ·intro w'
   go_simp
   with_reducible rfl
  rotate_left
  ·simp only [Act.put,List.setIfInBounds_toArray,List.set_cons_zero,List.set_cons_succ,i64_w,i32_w]
   rfl
  refine pure_ (i:=2) (N:=some 19) (v:=?_) (a':=?_) #[true,true,true,false,false,false,false,false,false,false] rfl rfl (any_of HT_.out (by kernel_rfl)) (fun _ _ _ h=>h) (Or.inl ⟨by rfl,?_⟩) ?_ ?_
  rotate_left
  ·intro w'
   go_simp
   with_reducible rfl
  rotate_left
  ·simp only [Act.put,List.setIfInBounds_toArray,List.set_cons_zero,List.set_cons_succ,i64_w,i32_w]
   rfl
  refine pure_ (i:=4) (N:=some 21) (v:=?_) (a':=?_) #[true,true,true,false,true,false,false,false,false,false] rfl rfl (any_of HT_.out (by kernel_rfl)) (fun _ _ _ h=>h) (Or.inl ⟨by rfl,?_⟩) ?_ ?_
  rotate_left
  ·intro w'
   go_simp
   with_reducible rfl
  rotate_left
  ·simp only [Act.put,List.setIfInBounds_toArray,List.set_cons_zero,List.set_cons_succ,i64_w,i32_w]
   rfl
  refine pure_ (i:=5) (N:=some 22) (v:=?_) (a':=?_) #[true,true,true,false,true,true,false,false,false,false] rfl rfl (any_of HT_.out (by kernel_rfl)) (fun _ _ _ h=>h) (Or.inl ⟨by rfl,?_⟩) ?_ ?_
  rotate_left
  ·intro w'
   go_simp
   with_reducible rfl
  rotate_left
  ·simp only [Act.put,List.setIfInBounds_toArray,List.set_cons_zero,List.set_cons_succ,i64_w,i32_w]
   rfl
  refine pure_ (i:=6) (N:=some 23) (v:=?_) (a':=?_) #[true,true,true,false,true,true,true,false,false,false] rfl rfl (any_of HT_.out (by kernel_rfl)) (fun _ _ _ h=>h) (Or.inl ⟨by rfl,?_⟩) ?_ ?_
  rotate_left
  ·intro w'
   go_simp
   with_reducible rfl
  rotate_left
  ·simp only [Act.put,List.setIfInBounds_toArray,List.set_cons_zero,List.set_cons_succ,i64_w,i32_w]
   rfl
  refine take_ (i:=3) (N:=some 20) (v:=?_) (a':=?_) #[true,true,true,true,true,true,true,false,false,false] rfl rfl (take_ofW HT_.out HW_.out (by kernel_rfl)) (fun _ _ _ h=>h) (Or.inl ⟨by rfl,?_⟩) hHeld ?_ ?_
  rotate_left
  ·rintro w' ⟨s0,s1,s2,s3,s4,s5⟩
   go_simp
   with_reducible rfl
  rotate_left
  ·simp only [Act.put,List.setIfInBounds_toArray,List.set_cons_zero,List.set_cons_succ,i64_w,i32_w]
   rfl
  refine take_ (i:=7) (N:=some 24) (v:=?_) (a':=?_) #[true,true,true,true,true,true,true,true,false,false] rfl rfl (take_ofW HT_.out HW_.out (by kernel_rfl)) (fun _ _ _ h=>h) (Or.inl ⟨by rfl,?_⟩) hHeld ?_ ?_
  rotate_left
  ·rintro w' ⟨s0,s1,s2,s3,s4,s5⟩
   go_simp
   with_reducible rfl
  rotate_left
  ·simp only [Act.put,List.setIfInBounds_toArray,List.set_cons_zero,List.set_cons_succ,i64_w,i32_w]
   rfl
  refine one_ (i:=8) (N:=some 25) #[true,true,true,true,true,true,true,true,true,false] rfl rfl (one_of HT_.out (by kernel_rfl)) (by decide) (fun K hK=>?_)
  refine goes_ Try.func66 (by kernel_rfl) rfl #[.agg #[.int .i64 ((rd_T70 l0 x5_1).f0),.int .i64 ((rd_T70 l0 x5_1).f1),.int .i64 ((rd_T70 l0 x5_1).f2)],.agg #[.int .i64 ((rd_T70 l1 x5_1).f0),.int .i64 ((rd_T70 l1 x5_1).f1),.int .i64 ((rd_T70 l1 x5_1).f2)]] (by rfl) rfl rfl (by (try simp only [List.map_toArray,List.map_cons,List.map_nil]);first|done|rfl|(simp only [List.length_drop,List.length_take];rfl)) ?_
  with_reducible refine (laws_eqIntA3.calls ((rd_T70 l0 x5_1).f0) ((rd_T70 l0 x5_1).f1) ((rd_T70 l0 x5_1).f2) ((rd_T70 l1 x5_1).f0) ((rd_T70 l1 x5_1).f1) ((rd_T70 l1 x5_1).f2) true _ A7.out).mono ?_
  rintro e w10 ⟨rfl,hb⟩
  refine ⟨_,rfl,?_⟩
  have n0_:=Aside0.mk (below_step (by repeat (first|(with_reducible first|exact HB.out|apply below_alloc|apply pw_below_drewN|apply below_drew1)|exact HB.out)) hb)
  clear HB
  have HB:=n0_
  clear n0_
  (try clear hb)
  (try clear hb2)
  (try clear hk)
  (try clear hi)
  refine hK.out _ _ ⟨((HB.out.cell (World.block_lt_of_cell? w _ hw238_0)).trans hw238_0),((HB.out.cell (World.block_lt_of_cell? w _ hw238_1)).trans hw238_1),((HB.out.cell (World.block_lt_of_cell? w _ hw238_2)).trans hw238_2),((HB.out.cell (World.block_lt_of_cell? w _ hw239_0)).trans hw239_0),((HB.out.cell (World.block_lt_of_cell? w _ hw239_1)).trans hw239_1),((HB.out.cell (World.block_lt_of_cell? w _ hw239_2)).trans hw239_2)⟩ (fun hHeld=>?_)
  clear hK K
  refine norm_ (a':=?_) ?_ ?_
  rotate_left
  ·show Act.put _ (some 25) _ = _
   simp only [Act.put,List.setIfInBounds_toArray,List.set_cons_zero,List.set_cons_succ,i64_w,i32_w]
   rfl
  refine pure_ (i:=9) (N:=some 26) (v:=?_) (a':=?_) #[true,true,true,true,true,true,true,true,true,true] rfl rfl (any_of HT_.out (by kernel_rfl)) (fun _ _ _ h=>h) (Or.inl ⟨by rfl,?_⟩) ?_ ?_
  rotate_left
  ·intro w'
   go_simp
   with_reducible rfl
  rotate_left
  ·simp only [Act.put,List.setIfInBounds_toArray,List.set_cons_zero,List.set_cons_succ,i64_w,i32_w]
   rfl
  refine done_ (done_of HT_.out (by kernel_rfl)) ?_
  try go_wp2
  go_roundg k1
  case measure=>have:=HK1.out;omega
  case rel=>exact ⟨(wrap64 (x5_1 + 1)),(by first|rfl|(simp;done)|(simp [*];done)),H',⟨by have:=HK1.out;omega⟩,⟨by repeat (first|(with_reducible first|exact HB.out|apply below_alloc|apply pw_below_drewN|apply below_drew1)|exact HB.out)⟩⟩


end
end Go.Proofs.Ythagkpoinjpmfaa.QFnExactRelayPrice
