/- Functions that the law FnExactRelayArrival comes to, as Lean functions, with the proof that the Go code does what they say: written by a program of this session over the kit's print. No condition but those named. -/
import Derived.Test.YthagkpoinjpmfaaQFnExactRelayArrivalx0
import Derived.Test.YthagkpoinjpmfaaQFnExactRelayArrivalx1
import Derived.Test.YthagkpoinjpmfaaQFnExactRelayArrivalx2
import Derived.Test.YthagkpoinjpmfaaQFnExactRelayArrivalx5
import Derived.Test.YthagkpoinjpmfaaQFnExactRelayArrivalx6
import Derived.Test.YthagkpoinjpmfaaQFnExactRelayArrivalx7
namespace Go.Proofs.Ythagkpoinjpmfaa.QFnExactRelayArrival
open Go.RowKit Go.Proofs.YthagkpoinjpmfaaW.PrintWords Go.Proofs.YthagkpoinjpmfaaW.PrintLast Go.Proofs.YthagkpoinjpmfaaW.PrintMore
attribute [local go_sem] max2_int min2_int max_two min_two max_three min_three max_four min_four   -- for this text's walks alone
set_option linter.unusedVariables false
set_option linter.unusedSimpArgs false

/-! ### impl_RelayArrival: function 24 -/
section
open Kd
mutual
def impl_RelayArrival.j0 : Nat → List (S63) → List (S70) → Bool → Int → Bool → Option (Int × Bool)
 | 0,_,_,_,_,_=>none
 | k + 1,x1,x4,x30,x238000,x238001=>if x30 = true then (some (0,false)) else (impl_RelayArrival.l0 k x1 0 x4 (x4.length : Int) 0 x238000 x238001)
def impl_RelayArrival.l0 : Nat → List (S63) → Int → List (S70) → Int → Int → Int → Bool → Option (Int × Bool)
 | 0,_,_,_,_,_,_,_=>none
 | k + 1,x1,x12,x31,x32,x33,x238000,x238001=>if x33 < x32 then (if 0 ≤ x33 then (if x33 < (x31.length : Int) then (if 0 ≤ ((rd_T70 x31 x33).f0) then (if ((rd_T70 x31 x33).f0) < (x1.length : Int) then ((impl_Road_arrives.f x238000 x238001 ((rd_T63 x1 ((rd_T70 x31 x33).f0)).f0) ((rd_T63 x1 ((rd_T70 x31 x33).f0)).f1) ((rd_T63 x1 ((rd_T70 x31 x33).f0)).f2) x12 ((rd_T70 x31 x33).f1) ((rd_T70 x31 x33).f2)).bind fun t246=>(impl_RelayArrival.l0 k x1 t246 x31 x32 (wrap64 (x33 + 1)) x238000 x238001)) else (none)) else (none)) else (none)) else (none)) else (some (x12,true))
end
def impl_RelayArrival.f (k : Nat) (a0_0 : Int) (a0_1 : Bool) (l1 : List (S63)) (a2 : Int) (a3 : Int) (l4 : List (S70)) : Option (Int × Bool):=(impl_isCarried.f k a0_0 a0_1 l1 (([a2,a3] : List Int))).bind fun t241=>(if t241 = true then ((impl_Road_isRelay.f k a0_0 a0_1 l1 a2 a3 l4).bind fun t242=>(impl_RelayArrival.j0 k l1 l4 (!t242) a0_0 a0_1)) else (impl_RelayArrival.j0 k l1 l4 true a0_0 a0_1))
theorem impl_RelayArrival.mono_l : ∀ k,(∀ y0 y1 y2 y3 y4,LeO (impl_RelayArrival.j0 k y0 y1 y2 y3 y4) (impl_RelayArrival.j0 (k + 1) y0 y1 y2 y3 y4)) ∧ (∀ y0 y1 y2 y3 y4 y5 y6,LeO (impl_RelayArrival.l0 k y0 y1 y2 y3 y4 y5 y6) (impl_RelayArrival.l0 (k + 1) y0 y1 y2 y3 y4 y5 y6))
 | 0=>⟨fun _ _ _ _ _ r h=>by simp [impl_RelayArrival.j0] at h,fun _ _ _ _ _ _ _ r h=>by simp [impl_RelayArrival.l0] at h⟩
 | k + 1=>by
  obtain ⟨ih0,ih1⟩:=impl_RelayArrival.mono_l k
  refine ⟨?_,?_⟩
  ·intro y0 y1 y2 y3 y4
   unfold impl_RelayArrival.j0
   repeat' first
   | (with_reducible exact ih0 _ _ _ _ _)
   | (with_reducible exact ih1 _ _ _ _ _ _ _)
   | (with_reducible exact impl_Road_isRelay.mono _ _ _ _ _ _ _)
   | (with_reducible exact impl_isCarried.mono _ _ _ _ _)
   | (with_reducible exact LeO.refl _)
   | (with_reducible exact LeO.none _)
   | (with_reducible refine LeO.ite ?_ ?_)
   | (with_reducible refine LeO.bind ?_ (fun _=>?_))
   | exact ih0 _ _ _ _ _
   | exact ih1 _ _ _ _ _ _ _
   | exact impl_Road_isRelay.mono _ _ _ _ _ _ _
   | exact impl_isCarried.mono _ _ _ _ _
   | exact LeO.none _
   | refine LeO.ite ?_ ?_
   | refine LeO.bind ?_ (fun _=>?_)
  ·intro y0 y1 y2 y3 y4 y5 y6
   unfold impl_RelayArrival.l0
   repeat' first
   | (with_reducible exact ih0 _ _ _ _ _)
   | (with_reducible exact ih1 _ _ _ _ _ _ _)
   | (with_reducible exact impl_Road_isRelay.mono _ _ _ _ _ _ _)
   | (with_reducible exact impl_isCarried.mono _ _ _ _ _)
   | (with_reducible exact LeO.refl _)
   | (with_reducible exact LeO.none _)
   | (with_reducible refine LeO.ite ?_ ?_)
   | (with_reducible refine LeO.bind ?_ (fun _=>?_))
   | exact ih0 _ _ _ _ _
   | exact ih1 _ _ _ _ _ _ _
   | exact impl_Road_isRelay.mono _ _ _ _ _ _ _
   | exact impl_isCarried.mono _ _ _ _ _
   | exact LeO.none _
   | refine LeO.ite ?_ ?_
   | refine LeO.bind ?_ (fun _=>?_)
theorem impl_RelayArrival.mono : ∀ a0 a1 a2 a3 a4 a5 k,LeO (impl_RelayArrival.f k a0 a1 a2 a3 a4 a5) (impl_RelayArrival.f (k + 1) a0 a1 a2 a3 a4 a5):=by
 intro a0 a1 a2 a3 a4 a5 k
 obtain ⟨ih0,ih1⟩:=impl_RelayArrival.mono_l k
 unfold impl_RelayArrival.f
 repeat' first
   | (with_reducible exact ih0 _ _ _ _ _)
   | (with_reducible exact ih1 _ _ _ _ _ _ _)
   | (with_reducible exact impl_Road_isRelay.mono _ _ _ _ _ _ _)
   | (with_reducible exact impl_isCarried.mono _ _ _ _ _)
   | (with_reducible exact LeO.refl _)
   | (with_reducible exact LeO.none _)
   | (with_reducible refine LeO.ite ?_ ?_)
   | (with_reducible refine LeO.bind ?_ (fun _=>?_))
   | exact ih0 _ _ _ _ _
   | exact ih1 _ _ _ _ _ _ _
   | exact impl_Road_isRelay.mono _ _ _ _ _ _ _
   | exact impl_isCarried.mono _ _ _ _ _
   | exact LeO.none _
   | refine LeO.ite ?_ ?_
   | refine LeO.bind ?_ (fun _=>?_)
def impl_RelayArrival.T7 : Bool × List (List Nat × List Nat):=(true,[([],[]),([],[]),([],[]),([2],[2]),([1,3],[1,3]),([4],[4]),([],[]),([],[]),([7],[7]),([],[]),([9],[9]),([0,5,6,8,10],[0,5,6,8,10]),([11,11,0,1,2,3,4,5,6,7,8,9,10,11],[6,11])])
def impl_RelayArrival.B7 : List Nat:=[0,0,0,4,14,30,0,0,128,0,512,2047,4095]
theorem impl_RelayArrival.tab7 : rtab .any (opsOf Try.f24 7) = impl_RelayArrival.T7:=by kernel_rfl
theorem impl_RelayArrival.bits7 : waitsOk impl_RelayArrival.T7.2 impl_RelayArrival.B7 = true:=by kernel_rfl
set_option maxHeartbeats 8000000 in
set_option maxRecDepth 100000 in
theorem impl_RelayArrival.calls (k : Nat) (a0_0 : Int) (a0_1 : Bool) (A1 : Option Addr) (c1 : Nat) (l1 : List (S63)) (a2 : Int) (a3 : Int) (A4 : Option Addr) (c4 : Nat) (l4 : List (S70)) (r1 : Int) (r2 : Bool) (w : World) (hr1 : Kd.C k63 w A1 l1.length l1) (hc1 : l1.length ≤ c1) (hr4 : Kd.C k70 w A4 l4.length l4) (hc4 : l4.length ≤ c4) (h : impl_RelayArrival.f k a0_0 a0_1 l1 a2 a3 l4 = some (r1,r2)) :
  Calls Try.prog 24 #[.agg #[.int .i64 a0_0,.bool a0_1],.slice A1 l1.length c1,.int .i64 a2,.int .i64 a3,.slice A4 l4.length c4] w fun e w'=>e = .returned (.tuple #[.int .i64 r1,.bool r2]) ∧ Below w.heap.size w w':=by
 have hu28:=Try.underlying28
 have hu70:=Try.underlying70
 have hu63:=Try.underlying63
 have HR1:=Aside0.mk hr1
 have HC1:=Aside0.mk hc1
 clear hr1 hc1
 have HR4:=Aside0.mk hr4
 have HC4:=Aside0.mk hc4
 clear hr4 hc4
 have HB:=Aside0.mk (Below.refl w.heap.size w)
 have H : ((impl_isCarried.f k a0_0 a0_1 l1 (([a2,a3] : List Int))).bind fun t241=>(if t241 = true then ((impl_Road_isRelay.f k a0_0 a0_1 l1 a2 a3 l4).bind fun t242=>(impl_RelayArrival.j0 k l1 l4 (!t242) a0_0 a0_1)) else (impl_RelayArrival.j0 k l1 l4 true a0_0 a0_1))) = some (r1,r2):=h
 clear h
 have HC6:=Aside0.mk H
 clear H
 go_enter Try.func24,Try.ntmps24
 go_upto_region 1 with (first|((with_reducible refine gate_dst (N:=5) rfl ?_);refine box_event ?hg (N:=5) ?hd (cs:=#[.int .i64 a0_0,.bool a0_1]) (t:=28) ?hr ?_;(case hd=>rfl);(case hg=>rfl);(case hr=>first|(go_simp;done)|(go_simp;rfl));intro gb237 hg w7 hbox hb;have n0_:=Aside0.mk (below_step (by repeat (first|(with_reducible first|exact HB.out|apply below_alloc|apply pw_below_drewN|apply below_drew1)|exact HB.out)) hb);have n1_:=Aside0.mk (hbox);have n2_:=Aside0.mk ((by rw [hg];exact (below_size (by repeat (first|(with_reducible first|exact HB.out|apply below_alloc|apply pw_below_drewN|apply below_drew1)|exact HB.out))) : w.heap.size ≤ gb237));have n3_:=Aside0.mk ((by rw [hg];exact (below_size (by repeat (first|(with_reducible first|exact HB.out|apply below_alloc|apply pw_below_drewN|apply below_drew1)|exact HB.out))) : w.heap.size ≤ gb237));clear HB;have HB:=n0_;have BK237:=n1_;have GW237:=n2_;have GE237:=n3_;clear n0_ n1_ n2_ n3_;clear hb hbox hg))
 (try simp only [Act.put,List.setIfInBounds_toArray,List.set_cons_zero,List.set_cons_succ])
 go_cut [30] (fun v30 wc=>∃ (kq : Nat) (x30_5 : Bool),v30 = .bool x30_5 ∧ Aside0 (impl_RelayArrival.j0 kq l1 l4 x30_5 a0_0 a0_1 = some (r1,r2)) ∧ Aside0 (kq ≤ k) ∧ Aside0 (wc.heap[gb237]? = some (.cells #[.int .i64 a0_0,.bool a0_1] 28 (0,0))) ∧ Aside0 (Below w.heap.size w wc))
 case first =>
  have H:=HC6.out
  clear HC6
  obtain ⟨y238,hy238⟩ : ∃ y_ : List Int,y_ = (([a2,a3] : List Int)):=⟨_,rfl⟩
  replace H : ((impl_isCarried.f k a0_0 a0_1 l1 y238).bind fun t241=>(if t241 = true then ((impl_Road_isRelay.f k a0_0 a0_1 l1 a2 a3 l4).bind fun t242=>(impl_RelayArrival.j0 k l1 l4 (!t242) a0_0 a0_1)) else (impl_RelayArrival.j0 k l1 l4 true a0_0 a0_1))) = some (r1,r2):=by first|(rw [hy238];with_reducible exact H)|(have H2_:=(Option.bind_some _ _).symm.trans H;rw [hy238];with_reducible exact H2_)|(have H2_:=(Option.bind_some _ _).symm.trans H;with_reducible exact H2_)|with_reducible exact H|(rw [hy238];exact H)|exact H
  have Ny238:=Aside0.mk hy238
  clear hy238
  replace H:=Option.bind_eq_some_iff.mp H
  obtain ⟨t241,A80,H⟩:=H
  replace H : (if t241 = true then ((impl_Road_isRelay.f k a0_0 a0_1 l1 a2 a3 l4).bind fun t242=>(impl_RelayArrival.j0 k l1 l4 (!t242) a0_0 a0_1)) else (impl_RelayArrival.j0 k l1 l4 true a0_0 a0_1)) = some (r1,r2):=H
  have A8:=Aside0.mk A80
  clear A80
  by_cases c9 : t241 = true
  rotate_left
  ·replace c9:=Bool.eq_false_iff.mpr c9
   subst c9
   have H1 : (impl_RelayArrival.j0 k l1 l4 true a0_0 a0_1) = some (r1,r2):=by rw [if_neg (show ¬ (false = true) by decide)] at H;exact H
   clear H
   have H:=H1
   clear H1
   have H':=Aside0.mk H
   clear H
   have hcz18_0 : w7.cell? ⟨gb237,0,none⟩ = some (.int .i64 a0_0):=(blk_cell BK237.out 0).trans rfl
   have hcz18_1 : w7.cell? ⟨gb237,1,none⟩ = some (.bool a0_1):=(blk_cell BK237.out 1).trans rfl
   have hfz18_0:=blk_frozen BK237.out 0
   have hfz18_1:=blk_frozen BK237.out 1
   go_wp2_with (first|((with_reducible refine gate_dst (N:=19) rfl ?_);refine R_lit (Kd.int .i64) _ 3 ?hg (N:=19) ?hd (xs:=([a2,a3] : List Int)) (inner:=[.int .i64 a2,.int .i64 a3]) (ok:=fun _=>True) (okp:=fun _=>True) ?hr ?hp (fun _ hk=>hk) trivial (Below.refl _ _) (Nat.le_refl _) (by simp) ?_;(case hd=>rfl);(case hg=>rfl);(case hr=>first|(go_simp;done)|(go_simp;rfl));(case hp=>exact (Reps.one (show Kd.M (Kd.int .i64) _ _ _ a2 [.int .i64 a2] from rfl) (Reps.one (show Kd.M (Kd.int .i64) _ _ _ a3 [.int .i64 a3] from rfl) (Reps.none _ _))));intro v239 w19 ho20 hb hg_ hnew_;clear hg_ hnew_;(first|rw [← Ny238.out] at ho20|(simp only [Int.reduceToNat] at ho20;rw [← Ny238.out] at ho20));have n0_:=Aside0.mk (R_lower ho20 (below_size (by repeat (first|(with_reducible first|exact HB.out|apply below_alloc|apply pw_below_drewN|apply below_drew1|refine below_set ?_ GE237.out)|exact HB.out))));have n1_:=Aside0.mk (blk_below (g:=gb237) (o:=.cells #[.int .i64 a0_0,.bool a0_1] 28 (0,0)) (by (with_reducible repeat (first|apply blk_drewN|apply blk_drew|apply blk_alloc));exact BK237.out) hb);have n2_:=Aside0.mk (below_step (by repeat (first|(with_reducible first|exact HB.out|apply below_alloc|apply pw_below_drewN|apply below_drew1|refine below_set ?_ GE237.out)|exact HB.out)) hb);clear BK237;clear HB;have HO240:=n0_;have BK237:=n1_;have HB:=n2_;clear n0_ n1_ n2_;clear hb ho20;obtain ⟨Ao21,co21,eo21⟩:=R_slice HO240.out;subst eo21)|((with_reducible refine gate_callee (f:=63) rfl ?_);refine goesL_ (some 20) rfl rfl Try.func63 (by kernel_rfl) rfl #[.agg #[.int .i64 a0_0,.bool a0_1],.slice A1 l1.length c1,.slice Ao21 y238.length co21] rfl (by (try simp only [List.map_toArray,List.map_cons,List.map_nil]);first|done|rfl|(simp only [List.length_drop,List.length_take];rfl)) ?_;(with_reducible refine (impl_isCarried.calls k a0_0 a0_1 _ _ l1 _ _ y238 false _ ?side1 ?side2 ?side3 ?side4 A8.out).mono ?_);(case side1=>repeat (first|exact (C_below HR1.out HB.out)|(with_reducible refine C_alloc ?_ _)|(with_reducible refine C_drewN ?_ _)|(with_reducible refine C_drew ?_)));(case side2=>exact HC1.out);(case side3=>repeat (first|exact (R_reads' HO240.out).2.2|(with_reducible refine C_alloc ?_ _)|(with_reducible refine C_drewN ?_ _)|(with_reducible refine C_drew ?_)));(case side4=>exact (R_reads' HO240.out).2.1);rintro e w22 ⟨rfl,hb⟩;refine ⟨_,rfl,?_⟩;have n0_:=Aside0.mk (R_below (by (with_reducible repeat (first|apply R_alloc|apply R_drewN|apply R_drew));exact HO240.out) hb);have n1_:=Aside0.mk (blk_below (g:=gb237) (o:=.cells #[.int .i64 a0_0,.bool a0_1] 28 (0,0)) (by (with_reducible repeat (first|apply blk_drewN|apply blk_drew|apply blk_alloc));exact BK237.out) hb);have n2_:=Aside0.mk (below_step (by repeat (first|(with_reducible first|exact HB.out|apply below_alloc|apply pw_below_drewN|apply below_drew1|refine below_set ?_ GE237.out)|exact HB.out)) hb);clear HO240;clear BK237;clear HB;have HO240:=n0_;have BK237:=n1_;have HB:=n2_;clear n0_ n1_ n2_;(try clear hb);(try clear hb2);(try clear hk);(try clear hi)))
   go_meet
   case rel=>exact ⟨_,(true),(by first|rfl|(simp;done)|(simp [*];done)),H',⟨by first|omega|exact Nat.le_refl _⟩,⟨by (with_reducible repeat (first|apply blk_drewN|apply blk_drew|apply blk_alloc));exact BK237.out⟩,⟨by repeat (first|(with_reducible first|exact HB.out|apply below_alloc|apply pw_below_drewN|apply below_drew1|refine below_set ?_ GE237.out)|exact HB.out)⟩⟩
  subst c9
  have H1 : ((impl_Road_isRelay.f k a0_0 a0_1 l1 a2 a3 l4).bind fun t242=>(impl_RelayArrival.j0 k l1 l4 (!t242) a0_0 a0_1)) = some (r1,r2):=by rw [if_pos rfl] at H;exact H
  clear H
  have H:=H1
  clear H1
  replace H:=Option.bind_eq_some_iff.mp H
  obtain ⟨t242,A100,H⟩:=H
  replace H : (impl_RelayArrival.j0 k l1 l4 (!t242) a0_0 a0_1) = some (r1,r2):=H
  have A10:=Aside0.mk A100
  clear A100
  have H':=Aside0.mk H
  clear H
  have hcz11_0 : w7.cell? ⟨gb237,0,none⟩ = some (.int .i64 a0_0):=(blk_cell BK237.out 0).trans rfl
  have hcz11_1 : w7.cell? ⟨gb237,1,none⟩ = some (.bool a0_1):=(blk_cell BK237.out 1).trans rfl
  have hfz11_0:=blk_frozen BK237.out 0
  have hfz11_1:=blk_frozen BK237.out 1
  go_wp2_with (first|((with_reducible refine gate_dst (N:=19) rfl ?_);refine R_lit (Kd.int .i64) _ 3 ?hg (N:=19) ?hd (xs:=([a2,a3] : List Int)) (inner:=[.int .i64 a2,.int .i64 a3]) (ok:=fun _=>True) (okp:=fun _=>True) ?hr ?hp (fun _ hk=>hk) trivial (Below.refl _ _) (Nat.le_refl _) (by simp) ?_;(case hd=>rfl);(case hg=>rfl);(case hr=>first|(go_simp;done)|(go_simp;rfl));(case hp=>exact (Reps.one (show Kd.M (Kd.int .i64) _ _ _ a2 [.int .i64 a2] from rfl) (Reps.one (show Kd.M (Kd.int .i64) _ _ _ a3 [.int .i64 a3] from rfl) (Reps.none _ _))));intro v239 w12 ho13 hb hg_ hnew_;clear hg_ hnew_;(first|rw [← Ny238.out] at ho13|(simp only [Int.reduceToNat] at ho13;rw [← Ny238.out] at ho13));have n0_:=Aside0.mk (R_lower ho13 (below_size (by repeat (first|(with_reducible first|exact HB.out|apply below_alloc|apply pw_below_drewN|apply below_drew1|refine below_set ?_ GE237.out)|exact HB.out))));have n1_:=Aside0.mk (blk_below (g:=gb237) (o:=.cells #[.int .i64 a0_0,.bool a0_1] 28 (0,0)) (by (with_reducible repeat (first|apply blk_drewN|apply blk_drew|apply blk_alloc));exact BK237.out) hb);have n2_:=Aside0.mk (below_step (by repeat (first|(with_reducible first|exact HB.out|apply below_alloc|apply pw_below_drewN|apply below_drew1|refine below_set ?_ GE237.out)|exact HB.out)) hb);clear BK237;clear HB;have HO240:=n0_;have BK237:=n1_;have HB:=n2_;clear n0_ n1_ n2_;clear hb ho13;obtain ⟨Ao14,co14,eo14⟩:=R_slice HO240.out;subst eo14)|((with_reducible refine gate_callee (f:=63) rfl ?_);refine goesL_ (some 20) rfl rfl Try.func63 (by kernel_rfl) rfl #[.agg #[.int .i64 a0_0,.bool a0_1],.slice A1 l1.length c1,.slice Ao14 y238.length co14] rfl (by (try simp only [List.map_toArray,List.map_cons,List.map_nil]);first|done|rfl|(simp only [List.length_drop,List.length_take];rfl)) ?_;(with_reducible refine (impl_isCarried.calls k a0_0 a0_1 _ _ l1 _ _ y238 true _ ?side1 ?side2 ?side3 ?side4 A8.out).mono ?_);(case side1=>repeat (first|exact (C_below HR1.out HB.out)|(with_reducible refine C_alloc ?_ _)|(with_reducible refine C_drewN ?_ _)|(with_reducible refine C_drew ?_)));(case side2=>exact HC1.out);(case side3=>repeat (first|exact (R_reads' HO240.out).2.2|(with_reducible refine C_alloc ?_ _)|(with_reducible refine C_drewN ?_ _)|(with_reducible refine C_drew ?_)));(case side4=>exact (R_reads' HO240.out).2.1);rintro e w15 ⟨rfl,hb⟩;refine ⟨_,rfl,?_⟩;have n0_:=Aside0.mk (R_below (by (with_reducible repeat (first|apply R_alloc|apply R_drewN|apply R_drew));exact HO240.out) hb);have n1_:=Aside0.mk (blk_below (g:=gb237) (o:=.cells #[.int .i64 a0_0,.bool a0_1] 28 (0,0)) (by (with_reducible repeat (first|apply blk_drewN|apply blk_drew|apply blk_alloc));exact BK237.out) hb);have n2_:=Aside0.mk (below_step (by repeat (first|(with_reducible first|exact HB.out|apply below_alloc|apply pw_below_drewN|apply below_drew1|refine below_set ?_ GE237.out)|exact HB.out)) hb);clear HO240;clear BK237;clear HB;have HO240:=n0_;have BK237:=n1_;have HB:=n2_;clear n0_ n1_ n2_;(try clear hb);(try clear hb2);(try clear hk);(try clear hi);have hcz16_0 : w15.cell? ⟨gb237,0,none⟩ = some (.int .i64 a0_0):=(blk_cell BK237.out 0).trans rfl;have hcz16_1 : w15.cell? ⟨gb237,1,none⟩ = some (.bool a0_1):=(blk_cell BK237.out 1).trans rfl;have hfz16_0:=blk_frozen BK237.out 0;have hfz16_1:=blk_frozen BK237.out 1)|(go_at_call 64;(with_reducible refine (impl_Road_isRelay.calls k a0_0 a0_1 _ _ l1 a2 a3 _ _ l4 t242 _ ?side1 ?side2 ?side3 ?side4 A10.out).mono ?_);(case side1=>repeat (first|exact (C_below HR1.out HB.out)|(with_reducible refine C_alloc ?_ _)|(with_reducible refine C_drewN ?_ _)|(with_reducible refine C_drew ?_)));(case side2=>exact HC1.out);(case side3=>repeat (first|exact (C_below HR4.out HB.out)|(with_reducible refine C_alloc ?_ _)|(with_reducible refine C_drewN ?_ _)|(with_reducible refine C_drew ?_)));(case side4=>exact HC4.out);rintro e w17 ⟨rfl,hb⟩;have n0_:=Aside0.mk (R_below (by (with_reducible repeat (first|apply R_alloc|apply R_drewN|apply R_drew));exact HO240.out) hb);have n1_:=Aside0.mk (blk_below (g:=gb237) (o:=.cells #[.int .i64 a0_0,.bool a0_1] 28 (0,0)) (by (with_reducible repeat (first|apply blk_drewN|apply blk_drew|apply blk_alloc));exact BK237.out) hb);have n2_:=Aside0.mk (below_step (by repeat (first|(with_reducible first|exact HB.out|apply below_alloc|apply pw_below_drewN|apply below_drew1|refine below_set ?_ GE237.out)|exact HB.out)) hb);clear HO240;clear BK237;clear HB;have HO240:=n0_;have BK237:=n1_;have HB:=n2_;clear n0_ n1_ n2_;(try clear hb);(try clear hb2);(try clear hk);(try clear hi)))
  go_meet
  case rel=>exact ⟨_,(!t242),(by first|rfl|(simp;done)|(simp [*];done)),H',⟨by first|omega|exact Nat.le_refl _⟩,⟨by (with_reducible repeat (first|apply blk_drewN|apply blk_drew|apply blk_alloc));exact BK237.out⟩,⟨by repeat (first|(with_reducible first|exact HB.out|apply below_alloc|apply pw_below_drewN|apply below_drew1|refine below_set ?_ GE237.out)|exact HB.out)⟩⟩
 clear HC6
 try clear c1
 try clear c2
 try clear p2
 try clear c4
 try clear c6
 try clear c9
 try clear hcz11_0
 try clear hcz11_1
 try clear hcz16_0
 try clear hcz16_1
 try clear hcz18_0
 try clear hcz18_1
 try clear hfz11_0
 try clear hfz11_1
 try clear hfz16_0
 try clear hfz16_1
 try clear hfz18_0
 try clear hfz18_1
 obtain ⟨kq,x30_5,rfl,HA,HJ5,BK237,HB⟩:=hcut
 cases kq with
 | zero=>exact absurd HA.out (by simp [impl_RelayArrival.j0])
 | succ kj5 =>
  have H:=HA.out
  clear HA
  simp only [impl_RelayArrival.j0] at H
  by_cases c23 : x30_5 = true
  ·subst c23
   have H1 : (some (0,false)) = some (r1,r2):=by rw [if_pos rfl] at H;exact H
   clear H
   have H:=H1
   clear H1
   simp only [Option.some.injEq,Prod.mk.injEq] at H
   obtain ⟨rfl,rfl⟩:=H
   go_wp2
   go_ret2
   exact ⟨by first|rfl|(simp [errW_none,errW_some] <;> rfl)|(simp [*,errW_none,errW_some] <;> rfl),by repeat (first|(with_reducible first|exact HB.out|apply below_alloc|apply pw_below_drewN|apply below_drew1|refine below_set ?_ GE237.out)|exact HB.out)⟩
  replace c23:=Bool.eq_false_iff.mpr c23
  subst c23
  have H1 : (impl_RelayArrival.l0 kj5 l1 0 l4 (l4.length : Int) 0 a0_0 a0_1) = some (r1,r2):=by rw [if_neg (show ¬ (false = true) by decide)] at H;exact H
  clear H
  have H:=H1
  clear H1
  have H':=Aside0.mk H
  clear H
  go_wp2
  go_loopg [12,33] kj5 (fun kq v12 v33 w'=>∃ (x12_2 : Int) (x33_2 : Int),v12 = .int .i64 x12_2 ∧ v33 = .int .i64 x33_2 ∧ Aside0 (impl_RelayArrival.l0 kq l1 x12_2 l4 (l4.length : Int) x33_2 a0_0 a0_1 = some (r1,r2)) ∧ Aside0 (kq ≤ kj5) ∧ Aside0 (w'.heap[gb237]? = some (.cells #[.int .i64 a0_0,.bool a0_1] 28 (0,0))) ∧ Aside0 (Below w.heap.size w w'))
  case atStart=>exact ⟨(0),(0),(by first|rfl|(simp;done)|(simp [*];done)),(by first|rfl|(simp;done)|(simp [*];done)),H',⟨Nat.le_refl _⟩,⟨by (with_reducible repeat (first|apply blk_drewN|apply blk_drew|apply blk_alloc));exact BK237.out⟩,⟨by repeat (first|(with_reducible first|exact HB.out|apply below_alloc|apply pw_below_drewN|apply below_drew1|refine below_set ?_ GE237.out)|exact HB.out)⟩⟩
  clear H'
  try clear c1
  try clear c2
  try clear p2
  try clear c4
  try clear c6
  try clear c9
  try clear c23
  try clear hcz11_0
  try clear hcz11_1
  try clear hcz16_0
  try clear hcz16_1
  try clear hcz18_0
  try clear hcz18_1
  try clear hfz11_0
  try clear hfz11_1
  try clear hfz16_0
  try clear hfz16_1
  try clear hfz18_0
  try clear hfz18_1
  try clear p2
  obtain ⟨x12_2,x33_2,rfl,rfl,HA,HK2,BK237,HB⟩:=hrel
  cases gk with
  | zero=>exact absurd HA.out (by simp [impl_RelayArrival.l0])
  | succ k2 =>
   have H:=HA.out
   clear HA
   simp only [impl_RelayArrival.l0] at H
   by_cases c24 : x33_2 < (l4.length : Int)
   rotate_left
   ·rw [if_neg c24] at H
    have c24b0 : decide (x33_2 < (l4.length : Int)) = false:=decide_eq_false c24
    clear c24
    simp only [Option.some.injEq,Prod.mk.injEq] at H
    obtain ⟨rfl,rfl⟩:=H
    go_wp2
    go_ret2
    exact ⟨by first|rfl|(simp [errW_none,errW_some] <;> rfl)|(simp [*,errW_none,errW_some] <;> rfl),by repeat (first|(with_reducible first|exact HB.out|apply below_alloc|apply pw_below_drewN|apply below_drew1|refine below_set ?_ GE237.out)|exact HB.out)⟩
   rw [if_pos c24] at H
   have c24b0 : decide (x33_2 < (l4.length : Int)) = true:=decide_eq_true c24
   clear c24
   by_cases c25 : 0 ≤ x33_2
   rotate_left
   ·rw [if_neg c25] at H
    exact absurd H (by simp)
   rw [if_pos c25] at H
   have c25b0 : decide (0 ≤ x33_2) = true:=decide_eq_true c25
   clear c25
   by_cases c26 : x33_2 < (l4.length : Int)
   rotate_left
   ·rw [if_neg c26] at H
    exact absurd H (by simp)
   rw [if_pos c26] at H
   have c26b0 : decide (x33_2 < (l4.length : Int)) = true:=decide_eq_true c26
   clear c26
   by_cases c27 : 0 ≤ ((rd_T70 l4 x33_2).f0)
   rotate_left
   ·rw [if_neg c27] at H
    exact absurd H (by simp)
   rw [if_pos c27] at H
   have c27b0 : decide (0 ≤ ((rd_T70 l4 x33_2).f0)) = true:=decide_eq_true c27
   clear c27
   by_cases c28 : ((rd_T70 l4 x33_2).f0) < (l1.length : Int)
   rotate_left
   ·rw [if_neg c28] at H
    exact absurd H (by simp)
   rw [if_pos c28] at H
   have c28b0 : decide (((rd_T70 l4 x33_2).f0) < (l1.length : Int)) = true:=decide_eq_true c28
   clear c28
   replace H:=Option.bind_eq_some_iff.mp H
   obtain ⟨t246,A290,H⟩:=H
   replace H : (impl_RelayArrival.l0 k2 l1 t246 l4 (l4.length : Int) (wrap64 (x33_2 + 1)) a0_0 a0_1) = some (r1,r2):=H
   have A29:=Aside0.mk A290
   clear A290
   have H':=Aside0.mk H
   clear H
   have p243 : 0 ≤ (x33_2 : Int):=of_decide_eq_true (by first|(with_reducible assumption)|assumption)
   have q243 : x33_2 < (l4.length : Int):=of_decide_eq_true (by first|(with_reducible assumption)|assumption)
   obtain ⟨ad243,e243,hx243_0,hx243_1,hx243_2⟩:=at_T70 HR4.out x33_2 p243 q243
   cases e243
   replace hx243_0:=(HB.out.cell (World.block_lt_of_cell? w _ hx243_0)).trans hx243_0
   replace hx243_1:=(HB.out.cell (World.block_lt_of_cell? w _ hx243_1)).trans hx243_1
   replace hx243_2:=(HB.out.cell (World.block_lt_of_cell? w _ hx243_2)).trans hx243_2
   replace p243:=eq_true p243
   replace q243:=eq_true q243
   try go_wp2_with (first|((with_reducible refine gate_dst (N:=14) rfl ?_);refine box_event ?hg (N:=14) ?hd (cs:=#[.int .i64 0,.int .i64 0,.int .i64 0]) (t:=70) ?hr ?_;(case hd=>rfl);(case hg=>rfl);(case hr=>first|(go_simp;done)|(go_simp;rfl));intro gb244 hg w30 hbox hb;have n0_:=Aside0.mk (blk_below (g:=gb237) (o:=.cells #[.int .i64 a0_0,.bool a0_1] 28 (0,0)) (by (with_reducible repeat (first|apply blk_drewN|apply blk_drew|apply blk_alloc));exact BK237.out) hb);have n1_:=Aside0.mk (below_step (by repeat (first|(with_reducible first|exact HB.out|apply below_alloc|apply pw_below_drewN|apply below_drew1|refine below_set ?_ GE237.out)|exact HB.out)) hb);have n2_:=Aside0.mk (hbox);have n3_:=Aside0.mk ((by rw [hg];exact (below_size (by repeat (first|(with_reducible first|exact HB.out|apply below_alloc|apply pw_below_drewN|apply below_drew1|refine below_set ?_ GE237.out)|exact HB.out))) : w.heap.size ≤ gb244));have n4_:=Aside0.mk ((by rw [hg];exact (below_size (by repeat (first|(with_reducible first|exact HB.out|apply below_alloc|apply pw_below_drewN|apply below_drew1|refine below_set ?_ GE237.out)|exact HB.out))) : w.heap.size ≤ gb244));have n5_:=Aside0.mk ((by rw [hg];exact Nat.ne_of_lt (blk_lt (g:=gb237) (o:=.cells #[.int .i64 a0_0,.bool a0_1] 28 (0,0)) (by (with_reducible repeat (first|apply blk_drewN|apply blk_drew|apply blk_alloc));exact BK237.out)) : gb237 ≠ gb244));have n6_:=Aside0.mk ((by rw [hg];exact Nat.ne_of_gt (blk_lt (g:=gb237) (o:=.cells #[.int .i64 a0_0,.bool a0_1] 28 (0,0)) (by (with_reducible repeat (first|apply blk_drewN|apply blk_drew|apply blk_alloc));exact BK237.out)) : gb244 ≠ gb237));clear BK237;clear HB;have BK237:=n0_;have HB:=n1_;have BK244:=n2_;have GW244:=n3_;have GE244:=n4_;have NB237_244:=n5_;have NB244_237:=n6_;clear n0_ n1_ n2_ n3_ n4_ n5_ n6_;clear hb hbox hg;have hnb31:=NB244_237.out;have hnc31:=NB237_244.out;have hcz32_0 : w30.cell? ⟨gb244,0,none⟩ = some (.int .i64 0):=(blk_cell BK244.out 0).trans rfl;have hcz32_1 : w30.cell? ⟨gb244,1,none⟩ = some (.int .i64 0):=(blk_cell BK244.out 1).trans rfl;have hcz32_2 : w30.cell? ⟨gb244,2,none⟩ = some (.int .i64 0):=(blk_cell BK244.out 2).trans rfl;have hfz32_0:=blk_frozen BK244.out 0;have hfz32_1:=blk_frozen BK244.out 1;have hfz32_2:=blk_frozen BK244.out 2))
   have n0_ : Aside0 ((((w30.setCell ⟨gb244,0,none⟩ (.int .i64 ((rd_T70 l4 x33_2).f0))).setCell ⟨gb244,1,none⟩ (.int .i64 ((rd_T70 l4 x33_2).f1))).setCell ⟨gb244,2,none⟩ (.int .i64 ((rd_T70 l4 x33_2).f2))).heap[gb237]? = some (.cells #[.int .i64 a0_0,.bool a0_1] 28 (0,0))):=⟨by (with_reducible repeat (first|apply blk_drewN|apply blk_drew|apply blk_alloc));refine blk_far ?_ NB237_244.out _;(with_reducible repeat (first|apply blk_drewN|apply blk_drew|apply blk_alloc));refine blk_far ?_ NB237_244.out _;(with_reducible repeat (first|apply blk_drewN|apply blk_drew|apply blk_alloc));refine blk_far ?_ NB237_244.out _;(with_reducible repeat (first|apply blk_drewN|apply blk_drew|apply blk_alloc));exact BK237.out⟩
   have n1_ : Aside0 ((((w30.setCell ⟨gb244,0,none⟩ (.int .i64 ((rd_T70 l4 x33_2).f0))).setCell ⟨gb244,1,none⟩ (.int .i64 ((rd_T70 l4 x33_2).f1))).setCell ⟨gb244,2,none⟩ (.int .i64 ((rd_T70 l4 x33_2).f2))).heap[gb244]? = some (.cells #[.int .i64 ((rd_T70 l4 x33_2).f0),.int .i64 ((rd_T70 l4 x33_2).f1),.int .i64 ((rd_T70 l4 x33_2).f2)] 70 (0,0))):=⟨by (with_reducible repeat (first|apply blk_drewN|apply blk_drew|apply blk_alloc));refine blk_put (cs:=#[.int .i64 ((rd_T70 l4 x33_2).f0),.int .i64 ((rd_T70 l4 x33_2).f1),.int .i64 0]) ?_ 2 _ rfl;(with_reducible repeat (first|apply blk_drewN|apply blk_drew|apply blk_alloc));refine blk_put (cs:=#[.int .i64 ((rd_T70 l4 x33_2).f0),.int .i64 0,.int .i64 0]) ?_ 1 _ rfl;(with_reducible repeat (first|apply blk_drewN|apply blk_drew|apply blk_alloc));refine blk_put (cs:=#[.int .i64 0,.int .i64 0,.int .i64 0]) ?_ 0 _ rfl;(with_reducible repeat (first|apply blk_drewN|apply blk_drew|apply blk_alloc));exact BK244.out⟩
   have n2_ : Aside0 (Below w.heap.size w (((w30.setCell ⟨gb244,0,none⟩ (.int .i64 ((rd_T70 l4 x33_2).f0))).setCell ⟨gb244,1,none⟩ (.int .i64 ((rd_T70 l4 x33_2).f1))).setCell ⟨gb244,2,none⟩ (.int .i64 ((rd_T70 l4 x33_2).f2)))):=⟨by repeat (first|(with_reducible first|exact HB.out|apply below_alloc|apply pw_below_drewN|apply below_drew1|refine below_set ?_ GE237.out|refine below_set ?_ GE244.out)|exact HB.out)⟩
   (try clear BK237)
   (try clear BK244)
   (try clear HB)
   generalize (((w30.setCell ⟨gb244,0,none⟩ (.int .i64 ((rd_T70 l4 x33_2).f0))).setCell ⟨gb244,1,none⟩ (.int .i64 ((rd_T70 l4 x33_2).f1))).setCell ⟨gb244,2,none⟩ (.int .i64 ((rd_T70 l4 x33_2).f2))) = w33 at n0_ n1_ n2_ ⊢
   have BK237:=n0_
   have BK244:=n1_
   have HB:=n2_
   clear n0_ n1_ n2_
   have n0_:=Aside0.mk (blk_drew BK237.out)
   have n1_:=Aside0.mk (blk_drew BK244.out)
   have n2_:=Aside0.mk (below_drew1 HB.out)
   clear BK237
   clear BK244
   clear HB
   have BK237:=n0_
   have BK244:=n1_
   have HB:=n2_
   clear n0_ n1_ n2_
   have p245 : 0 ≤ (((rd_T70 l4 x33_2).f0) : Int):=of_decide_eq_true (by first|(with_reducible assumption)|assumption)
   have q245 : ((rd_T70 l4 x33_2).f0) < (l1.length : Int):=of_decide_eq_true (by first|(with_reducible assumption)|assumption)
   obtain ⟨ad245,e245,hx245_0,hx245_1,hx245_2⟩:=at_T63 HR1.out ((rd_T70 l4 x33_2).f0) p245 q245
   have hw245_2:=hx245_2
   have hw245_1:=hx245_1
   have hw245_0:=hx245_0
   cases e245
   replace hx245_0:=(HB.out.cell (World.block_lt_of_cell? w _ hx245_0)).trans hx245_0
   replace hx245_1:=(HB.out.cell (World.block_lt_of_cell? w _ hx245_1)).trans hx245_1
   replace hx245_2:=(HB.out.cell (World.block_lt_of_cell? w _ hx245_2)).trans hx245_2
   replace p245:=eq_true p245
   replace q245:=eq_true q245
   refine start_ (n:=13) (S:=fun w'=>w'.cell? ⟨gb237,0,none⟩ = some (.int .i64 a0_0) ∧ w'.cell? ⟨gb237,1,none⟩ = some (.bool a0_1) ∧ w'.cell? ⟨gb244,0,none⟩ = some (.int .i64 ((rd_T70 l4 x33_2).f0)) ∧ w'.cell? ⟨gb244,1,none⟩ = some (.int .i64 ((rd_T70 l4 x33_2).f1)) ∧ w'.cell? ⟨gb244,2,none⟩ = some (.int .i64 ((rd_T70 l4 x33_2).f2)) ∧ w'.cell? (ad245.add ((((rd_T70 l4 x33_2).f0)).toNat * 3)) = some (.int .i64 ((rd_T63 l1 ((rd_T70 l4 x33_2).f0)).f0)) ∧ w'.cell? ⟨(ad245.add ((((rd_T70 l4 x33_2).f0)).toNat * 3)).block,(ad245.add ((((rd_T70 l4 x33_2).f0)).toNat * 3)).off + 1,none⟩ = some (.int .i64 ((rd_T63 l1 ((rd_T70 l4 x33_2).f0)).f1)) ∧ w'.cell? ⟨(ad245.add ((((rd_T70 l4 x33_2).f0)).toNat * 3)).block,(ad245.add ((((rd_T70 l4 x33_2).f0)).toNat * 3)).off + 2,none⟩ = some (.int .i64 ((rd_T63 l1 ((rd_T70 l4 x33_2).f0)).f2))) (ds:=[]) #[false,false,false,false,false,false,false,false,false,false,false,false,false] (by kernel_rfl) rfl rfl ⟨(blk_cell BK237.out 0).trans rfl,(blk_cell BK237.out 1).trans rfl,(blk_cell BK244.out 0).trans rfl,(blk_cell BK244.out 1).trans rfl,(blk_cell BK244.out 2).trans rfl,((HB.out.cell (World.block_lt_of_cell? w _ hw245_0)).trans hw245_0),((HB.out.cell (World.block_lt_of_cell? w _ hw245_1)).trans hw245_1),((HB.out.cell (World.block_lt_of_cell? w _ hw245_2)).trans hw245_2)⟩ (fun hHeld=>?_);refine with_tabW impl_RelayArrival.tab7 impl_RelayArrival.bits7 (fun HT_ HW_=>?_)
   generalize w33.drew = w34 at BK237 BK244 HB hx245_0 hx245_1 hx245_2 hHeld ⊢
   refine pure_ (i:=1) (N:=some 38) (v:=?_) (a':=?_) #[false,true,false,false,false,false,false,false,false,false,false,false,false] rfl rfl (any_of HT_.out (by kernel_rfl)) (fun _ _ _ h=>h) (Or.inl ⟨by rfl,?_⟩) ?_ ?_
   rotate_left
   ·intro w'
    go_simp
    with_reducible rfl
   rotate_left
   ·simp only [Act.put,List.setIfInBounds_toArray,List.set_cons_zero,List.set_cons_succ,i64_w,i32_w]
    rfl
   refine pure_ (i:=2) (N:=some 39) (v:=?_) (a':=?_) #[false,true,true,false,false,false,false,false,false,false,false,false,false] rfl rfl (any_of HT_.out (by kernel_rfl)) (fun _ _ _ h=>h) (Or.inl ⟨by rfl,?_⟩) ?_ ?_
   rotate_left
   ·intro w'
    go_simp
    with_reducible rfl
   rotate_left
   ·simp only [Act.put,List.setIfInBounds_toArray,List.set_cons_zero,List.set_cons_succ,i64_w,i32_w]
    rfl
   refine pure_ (i:=6) (N:=some 43) (v:=?_) (a':=?_) #[false,true,true,false,false,false,true,false,false,false,false,false,false] rfl rfl (any_of HT_.out (by kernel_rfl)) (fun _ _ _ h=>h) (Or.inl ⟨by rfl,?_⟩) ?_ ?_
   rotate_left
   ·intro w'
    go_simp
    with_reducible rfl
   rotate_left
   ·simp only [Act.put,List.setIfInBounds_toArray,List.set_cons_zero,List.set_cons_succ,i64_w,i32_w]
    rfl
   refine pure_ (i:=7) (N:=some 44) (v:=?_) (a':=?_) #[false,true,true,false,false,false,true,true,false,false,false,false,false] rfl rfl (any_of HT_.out (by kernel_rfl)) (fun _ _ _ h=>h) (Or.inl ⟨by rfl,?_⟩) ?_ ?_
   rotate_left
   ·intro w'
    go_simp
    with_reducible rfl
   rotate_left
   ·simp only [Act.put,List.setIfInBounds_toArray,List.set_cons_zero,List.set_cons_succ,i64_w,i32_w]
    rfl
   refine pure_ (i:=9) (N:=some 46) (v:=?_) (a':=?_) #[false,true,true,false,false,false,true,true,false,true,false,false,false] rfl rfl (any_of HT_.out (by kernel_rfl)) (fun _ _ _ h=>h) (Or.inl ⟨by rfl,?_⟩) ?_ ?_
   rotate_left
   ·intro w'
    go_simp
    with_reducible rfl
   rotate_left
   ·simp only [Act.put,List.setIfInBounds_toArray,List.set_cons_zero,List.set_cons_succ,i64_w,i32_w]
    rfl
   refine take_ (i:=0) (N:=some 37) (v:=?_) (a':=?_) #[true,true,true,false,false,false,true,true,false,true,false,false,false] rfl rfl (take_ofW HT_.out HW_.out (by kernel_rfl)) (fun _ _ _ h=>h) (Or.inl ⟨by rfl,?_⟩) hHeld ?_ ?_
   rotate_left
   ·rintro w' ⟨s0,s1,s2,s3,s4,s5,s6,s7⟩
    go_simp
    with_reducible rfl
   rotate_left
   ·simp only [Act.put,List.setIfInBounds_toArray,List.set_cons_zero,List.set_cons_succ,i64_w,i32_w]
    rfl
   refine take_ (i:=3) (N:=some 40) (v:=?_) (a':=?_) #[true,true,true,true,false,false,true,true,false,true,false,false,false] rfl rfl (take_ofW HT_.out HW_.out (by kernel_rfl)) (fun _ _ _ h=>h) (Or.inl ⟨by rfl,?_⟩) hHeld ?_ ?_
   rotate_left
   ·rintro w' ⟨s0,s1,s2,s3,s4,s5,s6,s7⟩
    go_simp
    with_reducible rfl
   rotate_left
   ·simp only [Act.put,List.setIfInBounds_toArray,List.set_cons_zero,List.set_cons_succ,i64_w,i32_w]
    rfl
   refine pure_ (i:=4) (N:=some 41) (v:=?_) (a':=?_) #[true,true,true,true,true,false,true,true,false,true,false,false,false] rfl rfl (any_of HT_.out (by kernel_rfl)) (fun _ _ _ h=>h) (Or.inl ⟨by rfl,?_⟩) ?_ ?_
   rotate_left
   ·intro w'
    go_simp
    with_reducible rfl
   rotate_left
   ·simp only [Act.put,List.setIfInBounds_toArray,List.set_cons_zero,List.set_cons_succ,i64_w,i32_w]
    rfl
   refine take_ (i:=5) (N:=some 42) (v:=?_) (a':=?_) #[true,true,true,true,true,true,true,true,false,true,false,false,false] rfl rfl (take_ofW HT_.out HW_.out (by kernel_rfl)) (fun _ _ _ h=>h) (Or.inl ⟨by rfl,?_⟩) hHeld ?_ ?_
   rotate_left
   ·rintro w' ⟨s0,s1,s2,s3,s4,s5,s6,s7⟩
    go_simp
    with_reducible rfl
   rotate_left
   ·simp only [Act.put,List.setIfInBounds_toArray,List.set_cons_zero,List.set_cons_succ,i64_w,i32_w]
    rfl
   refine take_ (i:=8) (N:=some 45) (v:=?_) (a':=?_) #[true,true,true,true,true,true,true,true,true,true,false,false,false] rfl rfl (take_ofW HT_.out HW_.out (by kernel_rfl)) (fun _ _ _ h=>h) (Or.inl ⟨by rfl,?_⟩) hHeld ?_ ?_
   rotate_left
   ·rintro w' ⟨s0,s1,s2,s3,s4,s5,s6,s7⟩
    go_simp
    with_reducible rfl
   rotate_left
   ·simp only [Act.put,List.setIfInBounds_toArray,List.set_cons_zero,List.set_cons_succ,i64_w,i32_w]
    rfl
   refine take_ (i:=10) (N:=some 47) (v:=?_) (a':=?_) #[true,true,true,true,true,true,true,true,true,true,true,false,false] rfl rfl (take_ofW HT_.out HW_.out (by kernel_rfl)) (fun _ _ _ h=>h) (Or.inl ⟨by rfl,?_⟩) hHeld ?_ ?_
   rotate_left
   ·rintro w' ⟨s0,s1,s2,s3,s4,s5,s6,s7⟩
    go_simp
    with_reducible rfl
   rotate_left
   ·simp only [Act.put,List.setIfInBounds_toArray,List.set_cons_zero,List.set_cons_succ,i64_w,i32_w]
    rfl
   refine one_ (i:=11) (N:=some 48) #[true,true,true,true,true,true,true,true,true,true,true,true,false] rfl rfl (one_of HT_.out (by kernel_rfl)) (by decide) (fun K hK=>?_)
   refine goes_ Try.func70 (by kernel_rfl) rfl #[.agg #[.int .i64 a0_0,.bool a0_1],.agg #[.int .i64 ((rd_T63 l1 ((rd_T70 l4 x33_2).f0)).f0),.int .i64 ((rd_T63 l1 ((rd_T70 l4 x33_2).f0)).f1),.int .i64 ((rd_T63 l1 ((rd_T70 l4 x33_2).f0)).f2)],.int .i64 x12_2,.int .i64 ((rd_T70 l4 x33_2).f1),.int .i64 ((rd_T70 l4 x33_2).f2)] (by rfl) rfl rfl (by (try simp only [List.map_toArray,List.map_cons,List.map_nil]);first|done|rfl|(simp only [List.length_drop,List.length_take];rfl)) ?_
   with_reducible refine (impl_Road_arrives.calls a0_0 a0_1 ((rd_T63 l1 ((rd_T70 l4 x33_2).f0)).f0) ((rd_T63 l1 ((rd_T70 l4 x33_2).f0)).f1) ((rd_T63 l1 ((rd_T70 l4 x33_2).f0)).f2) x12_2 ((rd_T70 l4 x33_2).f1) ((rd_T70 l4 x33_2).f2) t246 _ A29.out).mono ?_
   rintro e w35 ⟨rfl,hb⟩
   refine ⟨_,rfl,?_⟩
   have n0_:=Aside0.mk (blk_below (g:=gb237) (o:=.cells #[.int .i64 a0_0,.bool a0_1] 28 (0,0)) (by (with_reducible repeat (first|apply blk_drewN|apply blk_drew|apply blk_alloc));exact BK237.out) hb)
   have n1_:=Aside0.mk (blk_below (g:=gb244) (o:=.cells #[.int .i64 ((rd_T70 l4 x33_2).f0),.int .i64 ((rd_T70 l4 x33_2).f1),.int .i64 ((rd_T70 l4 x33_2).f2)] 70 (0,0)) (by (with_reducible repeat (first|apply blk_drewN|apply blk_drew|apply blk_alloc));exact BK244.out) hb)
   have n2_:=Aside0.mk (below_step (by repeat (first|(with_reducible first|exact HB.out|apply below_alloc|apply pw_below_drewN|apply below_drew1|refine below_set ?_ GE237.out|refine below_set ?_ GE244.out)|exact HB.out)) hb)
   clear BK237
   clear BK244
   clear HB
   have BK237:=n0_
   have BK244:=n1_
   have HB:=n2_
   clear n0_ n1_ n2_
   (try clear hb)
   (try clear hb2)
   (try clear hk)
   (try clear hi)
   refine hK.out _ _ ⟨(blk_cell BK237.out 0).trans rfl,(blk_cell BK237.out 1).trans rfl,(blk_cell BK244.out 0).trans rfl,(blk_cell BK244.out 1).trans rfl,(blk_cell BK244.out 2).trans rfl,((HB.out.cell (World.block_lt_of_cell? w _ hw245_0)).trans hw245_0),((HB.out.cell (World.block_lt_of_cell? w _ hw245_1)).trans hw245_1),((HB.out.cell (World.block_lt_of_cell? w _ hw245_2)).trans hw245_2)⟩ (fun hHeld=>?_)
   clear hK K
   refine norm_ (a':=?_) ?_ ?_
   rotate_left
   ·show Act.put _ (some 48) _ = _
    simp only [Act.put,List.setIfInBounds_toArray,List.set_cons_zero,List.set_cons_succ,i64_w,i32_w]
    rfl
   refine pure_ (i:=12) (N:=some 12) (v:=?_) (a':=?_) #[true,true,true,true,true,true,true,true,true,true,true,true,true] rfl rfl (any_of HT_.out (by kernel_rfl)) (fun _ _ _ h=>h) (Or.inl ⟨by rfl,?_⟩) ?_ ?_
   rotate_left
   ·intro w'
    go_simp
    with_reducible rfl
   rotate_left
   ·simp only [Act.put,List.setIfInBounds_toArray,List.set_cons_zero,List.set_cons_succ,i64_w,i32_w]
    rfl
   refine done_ (done_of HT_.out (by kernel_rfl)) ?_
   try go_wp2
   go_roundg k2
   case measure=>have:=HJ5.out;have:=HK2.out;omega
   case rel=>exact ⟨(t246),(wrap64 (x33_2 + 1)),(by first|rfl|(simp;done)|(simp [*];done)),(by first|rfl|(simp;done)|(simp [*];done)),H',⟨by have:=HJ5.out;have:=HK2.out;omega⟩,⟨by (with_reducible repeat (first|apply blk_drewN|apply blk_drew|apply blk_alloc));exact BK237.out⟩,⟨by repeat (first|(with_reducible first|exact HB.out|apply below_alloc|apply pw_below_drewN|apply below_drew1|refine below_set ?_ GE237.out|refine below_set ?_ GE244.out)|exact HB.out)⟩⟩

/-! ### laws_FnExactRelayArrival: function 6 -/
def laws_FnExactRelayArrival.j0 : Nat → List (S75) → List (S70) → List (S63) → List (S70) → Bool → Option (Bool)
 | 0,_,_,_,_,_=>none
 | k + 1,x1,x4,x14,x15,x61=>if x61 = true then (some false) else ((laws_toCarrierS.f k x1).bind fun t270=>((laws_eqCarrierS.f k x14 t270).bind fun t273=>(if t273 = true then ((laws_toIntA3S.f k x4).bind fun t274=>((laws_eqIntA3S.f k x15 t274).bind fun t277=>(if t277 = true then (some true) else (some false)))) else (some false))))
def laws_FnExactRelayArrival.f (k : Nat) (a0_0 : Int) (a0_1 : Bool) (l1 : List (S75)) (a2 : Int) (a3 : Int) (l4 : List (S70)) : Option (Bool):=(laws_szCarrierS.f l1 1048576).bind fun t248=>(if t248 < 0 then (some true) else ((laws_szIntA3S.f l4 t248).bind fun t249=>(if t249 < 0 then (some true) else ((laws_toRoad.f a0_0 a0_1).bind fun bt250=>((laws_toCarrierS.f k l1).bind fun t252=>((laws_toIntA3S.f k l4).bind fun t255=>((spec_RelayArrival.f k bt250.1 bt250.2 t252 a2 a3 t255).bind fun bt258=>((laws_toCarrierS.f k l1).bind fun t260=>((laws_toIntA3S.f k l4).bind fun t263=>((laws_toRoad.f a0_0 a0_1).bind fun bt266=>((impl_RelayArrival.f k bt266.1 bt266.2 t260 a2 a3 t263).bind fun bt268=>(if bt268.1 = bt258.1 then (laws_FnExactRelayArrival.j0 k l1 l4 t260 t263 (bt268.2 != bt258.2)) else (laws_FnExactRelayArrival.j0 k l1 l4 t260 t263 true)))))))))))))
theorem laws_FnExactRelayArrival.mono_l : ∀ k,(∀ y0 y1 y2 y3 y4,LeO (laws_FnExactRelayArrival.j0 k y0 y1 y2 y3 y4) (laws_FnExactRelayArrival.j0 (k + 1) y0 y1 y2 y3 y4))
 | 0=>fun _ _ _ _ _ r h=>by simp [laws_FnExactRelayArrival.j0] at h
 | k + 1=>by
  have ih0:=laws_FnExactRelayArrival.mono_l k
  ·intro y0 y1 y2 y3 y4
   unfold laws_FnExactRelayArrival.j0
   repeat' first
   | (with_reducible exact ih0 _ _ _ _ _)
   | (with_reducible exact impl_RelayArrival.mono _ _ _ _ _ _ _)
   | (with_reducible exact laws_eqCarrierS.mono _ _ _)
   | (with_reducible exact laws_eqIntA3S.mono _ _ _)
   | (with_reducible exact laws_toCarrierS.mono _ _)
   | (with_reducible exact laws_toIntA3S.mono _ _)
   | (with_reducible exact spec_RelayArrival.mono _ _ _ _ _ _ _)
   | (with_reducible exact LeO.refl _)
   | (with_reducible exact LeO.none _)
   | (with_reducible refine LeO.ite ?_ ?_)
   | (with_reducible refine LeO.bind ?_ (fun _=>?_))
   | exact ih0 _ _ _ _ _
   | exact impl_RelayArrival.mono _ _ _ _ _ _ _
   | exact laws_eqCarrierS.mono _ _ _
   | exact laws_eqIntA3S.mono _ _ _
   | exact laws_toCarrierS.mono _ _
   | exact laws_toIntA3S.mono _ _
   | exact spec_RelayArrival.mono _ _ _ _ _ _ _
   | exact LeO.none _
   | refine LeO.ite ?_ ?_
   | refine LeO.bind ?_ (fun _=>?_)
theorem laws_FnExactRelayArrival.mono : ∀ a0 a1 a2 a3 a4 a5 k,LeO (laws_FnExactRelayArrival.f k a0 a1 a2 a3 a4 a5) (laws_FnExactRelayArrival.f (k + 1) a0 a1 a2 a3 a4 a5):=by
 intro a0 a1 a2 a3 a4 a5 k
 have ih0:=laws_FnExactRelayArrival.mono_l k
 unfold laws_FnExactRelayArrival.f
 repeat' first
   | (with_reducible exact ih0 _ _ _ _ _)
   | (with_reducible exact impl_RelayArrival.mono _ _ _ _ _ _ _)
   | (with_reducible exact laws_eqCarrierS.mono _ _ _)
   | (with_reducible exact laws_eqIntA3S.mono _ _ _)
   | (with_reducible exact laws_toCarrierS.mono _ _)
   | (with_reducible exact laws_toIntA3S.mono _ _)
   | (with_reducible exact spec_RelayArrival.mono _ _ _ _ _ _ _)
   | (with_reducible exact LeO.refl _)
   | (with_reducible exact LeO.none _)
   | (with_reducible refine LeO.ite ?_ ?_)
   | (with_reducible refine LeO.bind ?_ (fun _=>?_))
   | exact ih0 _ _ _ _ _
   | exact impl_RelayArrival.mono _ _ _ _ _ _ _
   | exact laws_eqCarrierS.mono _ _ _
   | exact laws_eqIntA3S.mono _ _ _
   | exact laws_toCarrierS.mono _ _
   | exact laws_toIntA3S.mono _ _
   | exact spec_RelayArrival.mono _ _ _ _ _ _ _
   | exact LeO.none _
   | refine LeO.ite ?_ ?_
   | refine LeO.bind ?_ (fun _=>?_)
set_option maxHeartbeats 8000000 in
set_option maxRecDepth 100000 in
theorem laws_FnExactRelayArrival.calls (k : Nat) (a0_0 : Int) (a0_1 : Bool) (A1 : Option Addr) (c1 : Nat) (l1 : List (S75)) (a2 : Int) (a3 : Int) (A4 : Option Addr) (c4 : Nat) (l4 : List (S70)) (r : Bool) (w : World) (hr1 : Kd.C k75 w A1 l1.length l1) (hc1 : l1.length ≤ c1) (hr4 : Kd.C k70 w A4 l4.length l4) (hc4 : l4.length ≤ c4) (h : laws_FnExactRelayArrival.f k a0_0 a0_1 l1 a2 a3 l4 = some r) :
  Calls Try.prog 6 #[.agg #[.int .i64 a0_0,.bool a0_1],.slice A1 l1.length c1,.int .i64 a2,.int .i64 a3,.slice A4 l4.length c4] w fun e w'=>e = .returned (.bool r) ∧ Below w.heap.size w w':=by
 have hu23:=Try.underlying23
 have HR1:=Aside0.mk hr1
 have HC1:=Aside0.mk hc1
 clear hr1 hc1
 have HR4:=Aside0.mk hr4
 have HC4:=Aside0.mk hc4
 clear hr4 hc4
 have HB:=Aside0.mk (Below.refl w.heap.size w)
 have H : ((laws_szCarrierS.f l1 1048576).bind fun t248=>(if t248 < 0 then (some true) else ((laws_szIntA3S.f l4 t248).bind fun t249=>(if t249 < 0 then (some true) else ((laws_toRoad.f a0_0 a0_1).bind fun bt250=>((laws_toCarrierS.f k l1).bind fun t252=>((laws_toIntA3S.f k l4).bind fun t255=>((spec_RelayArrival.f k bt250.1 bt250.2 t252 a2 a3 t255).bind fun bt258=>((laws_toCarrierS.f k l1).bind fun t260=>((laws_toIntA3S.f k l4).bind fun t263=>((laws_toRoad.f a0_0 a0_1).bind fun bt266=>((impl_RelayArrival.f k bt266.1 bt266.2 t260 a2 a3 t263).bind fun bt268=>(if bt268.1 = bt258.1 then (laws_FnExactRelayArrival.j0 k l1 l4 t260 t263 (bt268.2 != bt258.2)) else (laws_FnExactRelayArrival.j0 k l1 l4 t260 t263 true)))))))))))))) = some r:=h
 clear h
 replace H:=Option.bind_eq_some_iff.mp H
 obtain ⟨t248,A60,H⟩:=H
 replace H : (if t248 < 0 then (some true) else ((laws_szIntA3S.f l4 t248).bind fun t249=>(if t249 < 0 then (some true) else ((laws_toRoad.f a0_0 a0_1).bind fun bt250=>((laws_toCarrierS.f k l1).bind fun t252=>((laws_toIntA3S.f k l4).bind fun t255=>((spec_RelayArrival.f k bt250.1 bt250.2 t252 a2 a3 t255).bind fun bt258=>((laws_toCarrierS.f k l1).bind fun t260=>((laws_toIntA3S.f k l4).bind fun t263=>((laws_toRoad.f a0_0 a0_1).bind fun bt266=>((impl_RelayArrival.f k bt266.1 bt266.2 t260 a2 a3 t263).bind fun bt268=>(if bt268.1 = bt258.1 then (laws_FnExactRelayArrival.j0 k l1 l4 t260 t263 (bt268.2 != bt258.2)) else (laws_FnExactRelayArrival.j0 k l1 l4 t260 t263 true))))))))))))) = some r:=H
 have A6:=Aside0.mk A60
 clear A60
 by_cases c7 : t248 < 0
 ·rw [if_pos c7] at H
  have c7b0 : decide (t248 < 0) = true:=decide_eq_true c7
  clear c7
  obtain rfl:=Option.some.inj H
  go_enter Try.func6,Try.ntmps6
  go_wp2_with (first|((with_reducible refine gate_dst (N:=5) rfl ?_);refine box_event ?hg (N:=5) ?hd (cs:=#[.int .i64 a0_0,.bool a0_1]) (t:=23) ?hr ?_;(case hd=>rfl);(case hg=>rfl);(case hr=>first|(go_simp;done)|(go_simp;rfl));intro gb247 hg w8 hbox hb;have n0_:=Aside0.mk (below_step (by repeat (first|(with_reducible first|exact HB.out|apply below_alloc|apply pw_below_drewN|apply below_drew1)|exact HB.out)) hb);have n1_:=Aside0.mk (hbox);have n2_:=Aside0.mk ((by rw [hg];exact (below_size (by repeat (first|(with_reducible first|exact HB.out|apply below_alloc|apply pw_below_drewN|apply below_drew1)|exact HB.out))) : w.heap.size ≤ gb247));have n3_:=Aside0.mk ((by rw [hg];exact (below_size (by repeat (first|(with_reducible first|exact HB.out|apply below_alloc|apply pw_below_drewN|apply below_drew1)|exact HB.out))) : w.heap.size ≤ gb247));clear HB;have HB:=n0_;have BK247:=n1_;have GW247:=n2_;have GE247:=n3_;clear n0_ n1_ n2_ n3_;clear hb hbox hg)|((with_reducible refine gate_callee (f:=10) rfl ?_);refine goesL_ (some 20) rfl rfl Try.func10 (by kernel_rfl) rfl #[.slice A1 l1.length c1,.int .i64 1048576] rfl (by (try simp only [List.map_toArray,List.map_cons,List.map_nil]);first|done|rfl|(simp only [List.length_drop,List.length_take];rfl)) ?_;(with_reducible refine (laws_szCarrierS.calls _ _ l1 1048576 t248 _ ?side1 ?side2 A6.out).mono ?_);(case side1=>repeat (first|exact (C_below HR1.out HB.out)|(with_reducible refine C_alloc ?_ _)|(with_reducible refine C_drewN ?_ _)|(with_reducible refine C_drew ?_)));(case side2=>exact HC1.out);rintro e w' ⟨rfl,⟨nd,rfl⟩⟩;refine ⟨_,rfl,?_⟩))
  go_ret
  exact ⟨by first|rfl|(simp [errW_none,errW_some] <;> rfl)|(simp [*,errW_none,errW_some] <;> rfl),by repeat (first|(with_reducible first|exact HB.out|apply below_alloc|apply pw_below_drewN|apply below_drew1|refine below_set ?_ GE247.out)|exact HB.out)⟩
 rw [if_neg c7] at H
 have c7b0 : decide (t248 < 0) = false:=decide_eq_false c7
 clear c7
 replace H:=Option.bind_eq_some_iff.mp H
 obtain ⟨t249,A90,H⟩:=H
 replace H : (if t249 < 0 then (some true) else ((laws_toRoad.f a0_0 a0_1).bind fun bt250=>((laws_toCarrierS.f k l1).bind fun t252=>((laws_toIntA3S.f k l4).bind fun t255=>((spec_RelayArrival.f k bt250.1 bt250.2 t252 a2 a3 t255).bind fun bt258=>((laws_toCarrierS.f k l1).bind fun t260=>((laws_toIntA3S.f k l4).bind fun t263=>((laws_toRoad.f a0_0 a0_1).bind fun bt266=>((impl_RelayArrival.f k bt266.1 bt266.2 t260 a2 a3 t263).bind fun bt268=>(if bt268.1 = bt258.1 then (laws_FnExactRelayArrival.j0 k l1 l4 t260 t263 (bt268.2 != bt258.2)) else (laws_FnExactRelayArrival.j0 k l1 l4 t260 t263 true))))))))))) = some r:=H
 have A9:=Aside0.mk A90
 clear A90
 by_cases c10 : t249 < 0
 ·rw [if_pos c10] at H
  have c10b0 : decide (t249 < 0) = true:=decide_eq_true c10
  clear c10
  obtain rfl:=Option.some.inj H
  go_enter Try.func6,Try.ntmps6
  go_wp2_with (first|((with_reducible refine gate_dst (N:=5) rfl ?_);refine box_event ?hg (N:=5) ?hd (cs:=#[.int .i64 a0_0,.bool a0_1]) (t:=23) ?hr ?_;(case hd=>rfl);(case hg=>rfl);(case hr=>first|(go_simp;done)|(go_simp;rfl));intro gb247 hg w11 hbox hb;have n0_:=Aside0.mk (below_step (by repeat (first|(with_reducible first|exact HB.out|apply below_alloc|apply pw_below_drewN|apply below_drew1)|exact HB.out)) hb);have n1_:=Aside0.mk (hbox);have n2_:=Aside0.mk ((by rw [hg];exact (below_size (by repeat (first|(with_reducible first|exact HB.out|apply below_alloc|apply pw_below_drewN|apply below_drew1)|exact HB.out))) : w.heap.size ≤ gb247));have n3_:=Aside0.mk ((by rw [hg];exact (below_size (by repeat (first|(with_reducible first|exact HB.out|apply below_alloc|apply pw_below_drewN|apply below_drew1)|exact HB.out))) : w.heap.size ≤ gb247));clear HB;have HB:=n0_;have BK247:=n1_;have GW247:=n2_;have GE247:=n3_;clear n0_ n1_ n2_ n3_;clear hb hbox hg)|((with_reducible refine gate_callee (f:=10) rfl ?_);refine goesL_ (some 20) rfl rfl Try.func10 (by kernel_rfl) rfl #[.slice A1 l1.length c1,.int .i64 1048576] rfl (by (try simp only [List.map_toArray,List.map_cons,List.map_nil]);first|done|rfl|(simp only [List.length_drop,List.length_take];rfl)) ?_;(with_reducible refine (laws_szCarrierS.calls _ _ l1 1048576 t248 _ ?side1 ?side2 A6.out).mono ?_);(case side1=>repeat (first|exact (C_below HR1.out HB.out)|(with_reducible refine C_alloc ?_ _)|(with_reducible refine C_drewN ?_ _)|(with_reducible refine C_drew ?_)));(case side2=>exact HC1.out);rintro e w' ⟨rfl,⟨nd,rfl⟩⟩;refine ⟨_,rfl,?_⟩)|((with_reducible refine gate_callee (f:=16) rfl ?_);refine goesL_ (some 25) rfl rfl Try.func16 (by kernel_rfl) rfl #[.slice A4 l4.length c4,.int .i64 t248] rfl (by (try simp only [List.map_toArray,List.map_cons,List.map_nil]);first|done|rfl|(simp only [List.length_drop,List.length_take];rfl)) ?_;(with_reducible refine (laws_szIntA3S.calls _ _ l4 t248 t249 _ ?side1 ?side2 A9.out).mono ?_);(case side1=>repeat (first|exact (C_below HR4.out (by repeat (first|(with_reducible first|exact HB.out|apply below_alloc|apply pw_below_drewN|apply below_drew1|refine below_set ?_ GE247.out)|exact HB.out)))|(with_reducible refine C_alloc ?_ _)|(with_reducible refine C_drewN ?_ _)|(with_reducible refine C_drew ?_)));(case side2=>exact HC4.out);rintro e w' ⟨rfl,⟨nd,rfl⟩⟩;refine ⟨_,rfl,?_⟩))
  go_ret
  exact ⟨by first|rfl|(simp [errW_none,errW_some] <;> rfl)|(simp [*,errW_none,errW_some] <;> rfl),by repeat (first|(with_reducible first|exact HB.out|apply below_alloc|apply pw_below_drewN|apply below_drew1|refine below_set ?_ GE247.out)|exact HB.out)⟩
 rw [if_neg c10] at H
 have c10b0 : decide (t249 < 0) = false:=decide_eq_false c10
 clear c10
 replace H:=Option.bind_eq_some_iff.mp H
 obtain ⟨⟨t250,t251⟩,A120,H⟩:=H
 replace H : ((laws_toCarrierS.f k l1).bind fun t252=>((laws_toIntA3S.f k l4).bind fun t255=>((spec_RelayArrival.f k t250 t251 t252 a2 a3 t255).bind fun bt258=>((laws_toCarrierS.f k l1).bind fun t260=>((laws_toIntA3S.f k l4).bind fun t263=>((laws_toRoad.f a0_0 a0_1).bind fun bt266=>((impl_RelayArrival.f k bt266.1 bt266.2 t260 a2 a3 t263).bind fun bt268=>(if bt268.1 = bt258.1 then (laws_FnExactRelayArrival.j0 k l1 l4 t260 t263 (bt268.2 != bt258.2)) else (laws_FnExactRelayArrival.j0 k l1 l4 t260 t263 true))))))))) = some r:=H
 have A12:=Aside0.mk A120
 clear A120
 replace H:=Option.bind_eq_some_iff.mp H
 obtain ⟨t252,A130,H⟩:=H
 replace H : ((laws_toIntA3S.f k l4).bind fun t255=>((spec_RelayArrival.f k t250 t251 t252 a2 a3 t255).bind fun bt258=>((laws_toCarrierS.f k l1).bind fun t260=>((laws_toIntA3S.f k l4).bind fun t263=>((laws_toRoad.f a0_0 a0_1).bind fun bt266=>((impl_RelayArrival.f k bt266.1 bt266.2 t260 a2 a3 t263).bind fun bt268=>(if bt268.1 = bt258.1 then (laws_FnExactRelayArrival.j0 k l1 l4 t260 t263 (bt268.2 != bt258.2)) else (laws_FnExactRelayArrival.j0 k l1 l4 t260 t263 true)))))))) = some r:=H
 have A13:=Aside0.mk A130
 clear A130
 replace H:=Option.bind_eq_some_iff.mp H
 obtain ⟨t255,A140,H⟩:=H
 replace H : ((spec_RelayArrival.f k t250 t251 t252 a2 a3 t255).bind fun bt258=>((laws_toCarrierS.f k l1).bind fun t260=>((laws_toIntA3S.f k l4).bind fun t263=>((laws_toRoad.f a0_0 a0_1).bind fun bt266=>((impl_RelayArrival.f k bt266.1 bt266.2 t260 a2 a3 t263).bind fun bt268=>(if bt268.1 = bt258.1 then (laws_FnExactRelayArrival.j0 k l1 l4 t260 t263 (bt268.2 != bt258.2)) else (laws_FnExactRelayArrival.j0 k l1 l4 t260 t263 true))))))) = some r:=H
 have A14:=Aside0.mk A140
 clear A140
 replace H:=Option.bind_eq_some_iff.mp H
 obtain ⟨⟨t258,t259⟩,A150,H⟩:=H
 replace H : ((laws_toCarrierS.f k l1).bind fun t260=>((laws_toIntA3S.f k l4).bind fun t263=>((laws_toRoad.f a0_0 a0_1).bind fun bt266=>((impl_RelayArrival.f k bt266.1 bt266.2 t260 a2 a3 t263).bind fun bt268=>(if bt268.1 = t258 then (laws_FnExactRelayArrival.j0 k l1 l4 t260 t263 (bt268.2 != t259)) else (laws_FnExactRelayArrival.j0 k l1 l4 t260 t263 true)))))) = some r:=H
 have A15:=Aside0.mk A150
 clear A150
 replace H:=Option.bind_eq_some_iff.mp H
 obtain ⟨t260,A160,H⟩:=H
 replace H : ((laws_toIntA3S.f k l4).bind fun t263=>((laws_toRoad.f a0_0 a0_1).bind fun bt266=>((impl_RelayArrival.f k bt266.1 bt266.2 t260 a2 a3 t263).bind fun bt268=>(if bt268.1 = t258 then (laws_FnExactRelayArrival.j0 k l1 l4 t260 t263 (bt268.2 != t259)) else (laws_FnExactRelayArrival.j0 k l1 l4 t260 t263 true))))) = some r:=H
 have A16:=Aside0.mk A160
 clear A160
 replace H:=Option.bind_eq_some_iff.mp H
 obtain ⟨t263,A170,H⟩:=H
 replace H : ((laws_toRoad.f a0_0 a0_1).bind fun bt266=>((impl_RelayArrival.f k bt266.1 bt266.2 t260 a2 a3 t263).bind fun bt268=>(if bt268.1 = t258 then (laws_FnExactRelayArrival.j0 k l1 l4 t260 t263 (bt268.2 != t259)) else (laws_FnExactRelayArrival.j0 k l1 l4 t260 t263 true)))) = some r:=H
 have A17:=Aside0.mk A170
 clear A170
 replace H:=Option.bind_eq_some_iff.mp H
 obtain ⟨⟨t266,t267⟩,A180,H⟩:=H
 replace H : ((impl_RelayArrival.f k t266 t267 t260 a2 a3 t263).bind fun bt268=>(if bt268.1 = t258 then (laws_FnExactRelayArrival.j0 k l1 l4 t260 t263 (bt268.2 != t259)) else (laws_FnExactRelayArrival.j0 k l1 l4 t260 t263 true))) = some r:=H
 have A18:=Aside0.mk A180
 clear A180
 replace H:=Option.bind_eq_some_iff.mp H
 obtain ⟨⟨t268,t269⟩,A190,H⟩:=H
 replace H : (if t268 = t258 then (laws_FnExactRelayArrival.j0 k l1 l4 t260 t263 (t269 != t259)) else (laws_FnExactRelayArrival.j0 k l1 l4 t260 t263 true)) = some r:=H
 have A19:=Aside0.mk A190
 clear A190
 have HC20:=Aside0.mk H
 clear H
 go_enter Try.func6,Try.ntmps6
 go_upto_region 12 with (first|((with_reducible refine gate_dst (N:=5) rfl ?_);refine box_event ?hg (N:=5) ?hd (cs:=#[.int .i64 a0_0,.bool a0_1]) (t:=23) ?hr ?_;(case hd=>rfl);(case hg=>rfl);(case hr=>first|(go_simp;done)|(go_simp;rfl));intro gb247 hg w21 hbox hb;have n0_:=Aside0.mk (below_step (by repeat (first|(with_reducible first|exact HB.out|apply below_alloc|apply pw_below_drewN|apply below_drew1)|exact HB.out)) hb);have n1_:=Aside0.mk (hbox);have n2_:=Aside0.mk ((by rw [hg];exact (below_size (by repeat (first|(with_reducible first|exact HB.out|apply below_alloc|apply pw_below_drewN|apply below_drew1)|exact HB.out))) : w.heap.size ≤ gb247));have n3_:=Aside0.mk ((by rw [hg];exact (below_size (by repeat (first|(with_reducible first|exact HB.out|apply below_alloc|apply pw_below_drewN|apply below_drew1)|exact HB.out))) : w.heap.size ≤ gb247));clear HB;have HB:=n0_;have BK247:=n1_;have GW247:=n2_;have GE247:=n3_;clear n0_ n1_ n2_ n3_;clear hb hbox hg)|((with_reducible refine gate_callee (f:=10) rfl ?_);refine goesL_ (some 20) rfl rfl Try.func10 (by kernel_rfl) rfl #[.slice A1 l1.length c1,.int .i64 1048576] rfl (by (try simp only [List.map_toArray,List.map_cons,List.map_nil]);first|done|rfl|(simp only [List.length_drop,List.length_take];rfl)) ?_;(with_reducible refine (laws_szCarrierS.calls _ _ l1 1048576 t248 _ ?side1 ?side2 A6.out).mono ?_);(case side1=>repeat (first|exact (C_below HR1.out HB.out)|(with_reducible refine C_alloc ?_ _)|(with_reducible refine C_drewN ?_ _)|(with_reducible refine C_drew ?_)));(case side2=>exact HC1.out);rintro e w' ⟨rfl,⟨nd,rfl⟩⟩;refine ⟨_,rfl,?_⟩)|((with_reducible refine gate_callee (f:=16) rfl ?_);refine goesL_ (some 25) rfl rfl Try.func16 (by kernel_rfl) rfl #[.slice A4 l4.length c4,.int .i64 t248] rfl (by (try simp only [List.map_toArray,List.map_cons,List.map_nil]);first|done|rfl|(simp only [List.length_drop,List.length_take];rfl)) ?_;(with_reducible refine (laws_szIntA3S.calls _ _ l4 t248 t249 _ ?side1 ?side2 A9.out).mono ?_);(case side1=>repeat (first|exact (C_below HR4.out (by repeat (first|(with_reducible first|exact HB.out|apply below_alloc|apply pw_below_drewN|apply below_drew1|refine below_set ?_ GE247.out)|exact HB.out)))|(with_reducible refine C_alloc ?_ _)|(with_reducible refine C_drewN ?_ _)|(with_reducible refine C_drew ?_)));(case side2=>exact HC4.out);rintro e w' ⟨rfl,⟨nd,rfl⟩⟩;refine ⟨_,rfl,?_⟩;have hcz22_0 : w21.cell? ⟨gb247,0,none⟩ = some (.int .i64 a0_0):=(blk_cell BK247.out 0).trans rfl;have hcz22_1 : w21.cell? ⟨gb247,1,none⟩ = some (.bool a0_1):=(blk_cell BK247.out 1).trans rfl;have hfz22_0:=blk_frozen BK247.out 0;have hfz22_1:=blk_frozen BK247.out 1)|((with_reducible refine gate_callee (f:=12) rfl ?_);refine goesL_ (some 30) rfl rfl Try.func12 (by kernel_rfl) rfl #[.agg #[.int .i64 a0_0,.bool a0_1]] rfl (by (try simp only [List.map_toArray,List.map_cons,List.map_nil]);first|done|rfl|(simp only [List.length_drop,List.length_take];rfl)) ?_;(with_reducible refine (laws_toRoad.calls a0_0 a0_1 t250 t251 _ A12.out).mono ?_);rintro e w23 ⟨rfl,hb⟩;refine ⟨_,rfl,?_⟩;have n0_:=Aside0.mk (blk_below (g:=gb247) (o:=.cells #[.int .i64 a0_0,.bool a0_1] 23 (0,0)) (by (with_reducible repeat (first|apply blk_drewN|apply blk_drew|apply blk_alloc));exact BK247.out) hb);have n1_:=Aside0.mk (below_step (by repeat (first|(with_reducible first|exact HB.out|apply below_alloc|apply pw_below_drewN|apply below_drew1|refine below_set ?_ GE247.out)|exact HB.out)) hb);clear BK247;clear HB;have BK247:=n0_;have HB:=n1_;clear n0_ n1_;(try clear hb);(try clear hb2);(try clear hk);(try clear hi))|((with_reducible refine gate_callee (f:=13) rfl ?_);refine goesL_ (some 32) rfl rfl Try.func13 (by kernel_rfl) rfl #[.slice A1 l1.length c1] rfl (by (try simp only [List.map_toArray,List.map_cons,List.map_nil]);first|done|rfl|(simp only [List.length_drop,List.length_take];rfl)) ?_;(with_reducible refine (laws_toCarrierS.calls k _ _ l1 t252 _ ?side1 ?side2 A13.out).mono ?_);(case side1=>repeat (first|exact (C_below HR1.out HB.out)|(with_reducible refine C_alloc ?_ _)|(with_reducible refine C_drewN ?_ _)|(with_reducible refine C_drew ?_)));(case side2=>exact HC1.out);rintro e w24 ⟨v253,rfl,ho0,hb⟩;refine ⟨_,rfl,?_⟩;have n0_:=Aside0.mk (R_lower ho0 (below_size (by repeat (first|(with_reducible first|exact HB.out|apply below_alloc|apply pw_below_drewN|apply below_drew1|refine below_set ?_ GE247.out)|exact HB.out))));have n1_:=Aside0.mk (blk_below (g:=gb247) (o:=.cells #[.int .i64 a0_0,.bool a0_1] 23 (0,0)) (by (with_reducible repeat (first|apply blk_drewN|apply blk_drew|apply blk_alloc));exact BK247.out) hb);have n2_:=Aside0.mk (below_step (by repeat (first|(with_reducible first|exact HB.out|apply below_alloc|apply pw_below_drewN|apply below_drew1|refine below_set ?_ GE247.out)|exact HB.out)) hb);clear BK247;clear HB;have HO254:=n0_;have BK247:=n1_;have HB:=n2_;clear n0_ n1_ n2_;(try clear hb);(try clear hb2);(try clear hk);(try clear hi);(try clear ho0))|((with_reducible refine gate_callee (f:=18) rfl ?_);refine goesL_ (some 36) rfl rfl Try.func18 (by kernel_rfl) rfl #[.slice A4 l4.length c4] rfl (by (try simp only [List.map_toArray,List.map_cons,List.map_nil]);first|done|rfl|(simp only [List.length_drop,List.length_take];rfl)) ?_;(with_reducible refine (laws_toIntA3S.calls k _ _ l4 t255 _ ?side1 ?side2 A14.out).mono ?_);(case side1=>repeat (first|exact (C_below HR4.out HB.out)|(with_reducible refine C_alloc ?_ _)|(with_reducible refine C_drewN ?_ _)|(with_reducible refine C_drew ?_)));(case side2=>exact HC4.out);rintro e w25 ⟨v256,rfl,ho0,hb⟩;refine ⟨_,rfl,?_⟩;have n0_:=Aside0.mk (R_below (by (with_reducible repeat (first|apply R_alloc|apply R_drewN|apply R_drew));exact HO254.out) hb);have n1_:=Aside0.mk (R_lower ho0 (below_size (by repeat (first|(with_reducible first|exact HB.out|apply below_alloc|apply pw_below_drewN|apply below_drew1|refine below_set ?_ GE247.out)|exact HB.out))));have n2_:=Aside0.mk (blk_below (g:=gb247) (o:=.cells #[.int .i64 a0_0,.bool a0_1] 23 (0,0)) (by (with_reducible repeat (first|apply blk_drewN|apply blk_drew|apply blk_alloc));exact BK247.out) hb);have n3_:=Aside0.mk (below_step (by repeat (first|(with_reducible first|exact HB.out|apply below_alloc|apply pw_below_drewN|apply below_drew1|refine below_set ?_ GE247.out)|exact HB.out)) hb);clear HO254;clear BK247;clear HB;have HO254:=n0_;have HO257:=n1_;have BK247:=n2_;have HB:=n3_;clear n0_ n1_ n2_ n3_;(try clear hb);(try clear hb2);(try clear hk);(try clear hi);(try clear ho0);obtain ⟨Ao26,co26,eo26⟩:=R_slice HO254.out;subst eo26;obtain ⟨Ao27,co27,eo27⟩:=R_slice HO257.out;subst eo27)|((with_reducible refine gate_callee (f:=23) rfl ?_);refine goesL_ (some 37) rfl rfl Try.func23 (by kernel_rfl) rfl #[.agg #[.int .i64 t250,.bool t251],.slice Ao26 t252.length co26,.int .i64 a2,.int .i64 a3,.slice Ao27 t255.length co27] rfl (by (try simp only [List.map_toArray,List.map_cons,List.map_nil]);first|done|rfl|(simp only [List.length_drop,List.length_take];rfl)) ?_;(with_reducible refine (spec_RelayArrival.calls k t250 t251 _ _ t252 a2 a3 _ _ t255 t258 t259 _ ?side1 ?side2 ?side3 ?side4 A15.out).mono ?_);(case side1=>repeat (first|exact (R_reads' HO254.out).2.2|(with_reducible refine C_alloc ?_ _)|(with_reducible refine C_drewN ?_ _)|(with_reducible refine C_drew ?_)));(case side2=>exact (R_reads' HO254.out).2.1);(case side3=>repeat (first|exact (R_reads' HO257.out).2.2|(with_reducible refine C_alloc ?_ _)|(with_reducible refine C_drewN ?_ _)|(with_reducible refine C_drew ?_)));(case side4=>exact (R_reads' HO257.out).2.1);rintro e w28 ⟨rfl,hb⟩;refine ⟨_,rfl,?_⟩;have n0_:=Aside0.mk (R_below (by (with_reducible repeat (first|apply R_alloc|apply R_drewN|apply R_drew));exact HO254.out) hb);have n1_:=Aside0.mk (R_below (by (with_reducible repeat (first|apply R_alloc|apply R_drewN|apply R_drew));exact HO257.out) hb);have n2_:=Aside0.mk (blk_below (g:=gb247) (o:=.cells #[.int .i64 a0_0,.bool a0_1] 23 (0,0)) (by (with_reducible repeat (first|apply blk_drewN|apply blk_drew|apply blk_alloc));exact BK247.out) hb);have n3_:=Aside0.mk (below_step (by repeat (first|(with_reducible first|exact HB.out|apply below_alloc|apply pw_below_drewN|apply below_drew1|refine below_set ?_ GE247.out)|exact HB.out)) hb);clear HO254;clear HO257;clear BK247;clear HB;have HO254:=n0_;have HO257:=n1_;have BK247:=n2_;have HB:=n3_;clear n0_ n1_ n2_ n3_;(try clear hb);(try clear hb2);(try clear hk);(try clear hi))|((with_reducible refine gate_callee (f:=13) rfl ?_);refine goesL_ (some 41) rfl rfl Try.func13 (by kernel_rfl) rfl #[.slice A1 l1.length c1] rfl (by (try simp only [List.map_toArray,List.map_cons,List.map_nil]);first|done|rfl|(simp only [List.length_drop,List.length_take];rfl)) ?_;(with_reducible refine (laws_toCarrierS.calls k _ _ l1 t260 _ ?side1 ?side2 A16.out).mono ?_);(case side1=>repeat (first|exact (C_below HR1.out HB.out)|(with_reducible refine C_alloc ?_ _)|(with_reducible refine C_drewN ?_ _)|(with_reducible refine C_drew ?_)));(case side2=>exact HC1.out);rintro e w29 ⟨v261,rfl,ho0,hb⟩;refine ⟨_,rfl,?_⟩;have n0_:=Aside0.mk (R_elder' (by (with_reducible repeat (first|apply R_alloc|apply R_drewN|apply R_drew));exact HO254.out) (R_base ho0) hb);have n1_:=Aside0.mk (R_below (by (with_reducible repeat (first|apply R_alloc|apply R_drewN|apply R_drew));exact HO257.out) hb);have n2_:=Aside0.mk (R_lower (R_new' ho0 (R_lt (by (with_reducible repeat (first|apply R_alloc|apply R_drewN|apply R_drew));exact HO254.out))) (below_size (by repeat (first|(with_reducible first|exact HB.out|apply below_alloc|apply pw_below_drewN|apply below_drew1|refine below_set ?_ GE247.out)|exact HB.out))));have n3_:=Aside0.mk (blk_below (g:=gb247) (o:=.cells #[.int .i64 a0_0,.bool a0_1] 23 (0,0)) (by (with_reducible repeat (first|apply blk_drewN|apply blk_drew|apply blk_alloc));exact BK247.out) hb);have n4_:=Aside0.mk (below_step (by repeat (first|(with_reducible first|exact HB.out|apply below_alloc|apply pw_below_drewN|apply below_drew1|refine below_set ?_ GE247.out)|exact HB.out)) hb);clear HO254;clear HO257;clear BK247;clear HB;have HO254:=n0_;have HO257:=n1_;have HO262:=n2_;have BK247:=n3_;have HB:=n4_;clear n0_ n1_ n2_ n3_ n4_;(try clear hb);(try clear hb2);(try clear hk);(try clear hi);(try clear ho0))|((with_reducible refine gate_callee (f:=18) rfl ?_);refine goesL_ (some 43) rfl rfl Try.func18 (by kernel_rfl) rfl #[.slice A4 l4.length c4] rfl (by (try simp only [List.map_toArray,List.map_cons,List.map_nil]);first|done|rfl|(simp only [List.length_drop,List.length_take];rfl)) ?_;(with_reducible refine (laws_toIntA3S.calls k _ _ l4 t263 _ ?side1 ?side2 A17.out).mono ?_);(case side1=>repeat (first|exact (C_below HR4.out HB.out)|(with_reducible refine C_alloc ?_ _)|(with_reducible refine C_drewN ?_ _)|(with_reducible refine C_drew ?_)));(case side2=>exact HC4.out);rintro e w30 ⟨v264,rfl,ho0,hb⟩;refine ⟨_,rfl,?_⟩;have n0_:=Aside0.mk (R_below (by (with_reducible repeat (first|apply R_alloc|apply R_drewN|apply R_drew));exact HO254.out) hb);have n1_:=Aside0.mk (R_elder' (by (with_reducible repeat (first|apply R_alloc|apply R_drewN|apply R_drew));exact HO257.out) (R_base ho0) hb);have n2_:=Aside0.mk (R_below (by (with_reducible repeat (first|apply R_alloc|apply R_drewN|apply R_drew));exact HO262.out) hb);have n3_:=Aside0.mk (R_lower (R_new' ho0 (R_lt (by (with_reducible repeat (first|apply R_alloc|apply R_drewN|apply R_drew));exact HO257.out))) (below_size (by repeat (first|(with_reducible first|exact HB.out|apply below_alloc|apply pw_below_drewN|apply below_drew1|refine below_set ?_ GE247.out)|exact HB.out))));have n4_:=Aside0.mk (blk_below (g:=gb247) (o:=.cells #[.int .i64 a0_0,.bool a0_1] 23 (0,0)) (by (with_reducible repeat (first|apply blk_drewN|apply blk_drew|apply blk_alloc));exact BK247.out) hb);have n5_:=Aside0.mk (below_step (by repeat (first|(with_reducible first|exact HB.out|apply below_alloc|apply pw_below_drewN|apply below_drew1|refine below_set ?_ GE247.out)|exact HB.out)) hb);clear HO254;clear HO257;clear HO262;clear BK247;clear HB;have HO254:=n0_;have HO257:=n1_;have HO262:=n2_;have HO265:=n3_;have BK247:=n4_;have HB:=n5_;clear n0_ n1_ n2_ n3_ n4_ n5_;(try clear hb);(try clear hb2);(try clear hk);(try clear hi);(try clear ho0);have hcz31_0 : w30.cell? ⟨gb247,0,none⟩ = some (.int .i64 a0_0):=(blk_cell BK247.out 0).trans rfl;have hcz31_1 : w30.cell? ⟨gb247,1,none⟩ = some (.bool a0_1):=(blk_cell BK247.out 1).trans rfl;have hfz31_0:=blk_frozen BK247.out 0;have hfz31_1:=blk_frozen BK247.out 1)|((with_reducible refine gate_callee (f:=12) rfl ?_);refine goesL_ (some 46) rfl rfl Try.func12 (by kernel_rfl) rfl #[.agg #[.int .i64 a0_0,.bool a0_1]] rfl (by (try simp only [List.map_toArray,List.map_cons,List.map_nil]);first|done|rfl|(simp only [List.length_drop,List.length_take];rfl)) ?_;(with_reducible refine (laws_toRoad.calls a0_0 a0_1 t266 t267 _ A18.out).mono ?_);rintro e w32 ⟨rfl,hb⟩;refine ⟨_,rfl,?_⟩;have n0_:=Aside0.mk (R_below (by (with_reducible repeat (first|apply R_alloc|apply R_drewN|apply R_drew));exact HO254.out) hb);have n1_:=Aside0.mk (R_below (by (with_reducible repeat (first|apply R_alloc|apply R_drewN|apply R_drew));exact HO257.out) hb);have n2_:=Aside0.mk (R_below (by (with_reducible repeat (first|apply R_alloc|apply R_drewN|apply R_drew));exact HO262.out) hb);have n3_:=Aside0.mk (R_below (by (with_reducible repeat (first|apply R_alloc|apply R_drewN|apply R_drew));exact HO265.out) hb);have n4_:=Aside0.mk (blk_below (g:=gb247) (o:=.cells #[.int .i64 a0_0,.bool a0_1] 23 (0,0)) (by (with_reducible repeat (first|apply blk_drewN|apply blk_drew|apply blk_alloc));exact BK247.out) hb);have n5_:=Aside0.mk (below_step (by repeat (first|(with_reducible first|exact HB.out|apply below_alloc|apply pw_below_drewN|apply below_drew1|refine below_set ?_ GE247.out)|exact HB.out)) hb);clear HO254;clear HO257;clear HO262;clear HO265;clear BK247;clear HB;have HO254:=n0_;have HO257:=n1_;have HO262:=n2_;have HO265:=n3_;have BK247:=n4_;have HB:=n5_;clear n0_ n1_ n2_ n3_ n4_ n5_;(try clear hb);(try clear hb2);(try clear hk);(try clear hi);obtain ⟨Ao33,co33,eo33⟩:=R_slice HO262.out;subst eo33;obtain ⟨Ao34,co34,eo34⟩:=R_slice HO265.out;subst eo34)|((with_reducible refine gate_callee (f:=24) rfl ?_);refine goesL_ (some 51) rfl rfl Try.func24 (by kernel_rfl) rfl #[.agg #[.int .i64 t266,.bool t267],.slice Ao33 t260.length co33,.int .i64 a2,.int .i64 a3,.slice Ao34 t263.length co34] rfl (by (try simp only [List.map_toArray,List.map_cons,List.map_nil]);first|done|rfl|(simp only [List.length_drop,List.length_take];rfl)) ?_;(with_reducible refine (impl_RelayArrival.calls k t266 t267 _ _ t260 a2 a3 _ _ t263 t268 t269 _ ?side1 ?side2 ?side3 ?side4 A19.out).mono ?_);(case side1=>repeat (first|exact (R_reads' HO262.out).2.2|(with_reducible refine C_alloc ?_ _)|(with_reducible refine C_drewN ?_ _)|(with_reducible refine C_drew ?_)));(case side2=>exact (R_reads' HO262.out).2.1);(case side3=>repeat (first|exact (R_reads' HO265.out).2.2|(with_reducible refine C_alloc ?_ _)|(with_reducible refine C_drewN ?_ _)|(with_reducible refine C_drew ?_)));(case side4=>exact (R_reads' HO265.out).2.1);rintro e w35 ⟨rfl,hb⟩;refine ⟨_,rfl,?_⟩;have n0_:=Aside0.mk (R_below (by (with_reducible repeat (first|apply R_alloc|apply R_drewN|apply R_drew));exact HO254.out) hb);have n1_:=Aside0.mk (R_below (by (with_reducible repeat (first|apply R_alloc|apply R_drewN|apply R_drew));exact HO257.out) hb);have n2_:=Aside0.mk (R_below (by (with_reducible repeat (first|apply R_alloc|apply R_drewN|apply R_drew));exact HO262.out) hb);have n3_:=Aside0.mk (R_below (by (with_reducible repeat (first|apply R_alloc|apply R_drewN|apply R_drew));exact HO265.out) hb);have n4_:=Aside0.mk (blk_below (g:=gb247) (o:=.cells #[.int .i64 a0_0,.bool a0_1] 23 (0,0)) (by (with_reducible repeat (first|apply blk_drewN|apply blk_drew|apply blk_alloc));exact BK247.out) hb);have n5_:=Aside0.mk (below_step (by repeat (first|(with_reducible first|exact HB.out|apply below_alloc|apply pw_below_drewN|apply below_drew1|refine below_set ?_ GE247.out)|exact HB.out)) hb);clear HO254;clear HO257;clear HO262;clear HO265;clear BK247;clear HB;have HO254:=n0_;have HO257:=n1_;have HO262:=n2_;have HO265:=n3_;have BK247:=n4_;have HB:=n5_;clear n0_ n1_ n2_ n3_ n4_ n5_;(try clear hb);(try clear hb2);(try clear hk);(try clear hi)))
 (try simp only [Act.put,List.setIfInBounds_toArray,List.set_cons_zero,List.set_cons_succ])
 go_cut [61] (fun v61 wc=>∃ (kq : Nat) (x61_19 : Bool),v61 = .bool x61_19 ∧ Aside0 (laws_FnExactRelayArrival.j0 kq l1 l4 t260 t263 x61_19 = some r) ∧ Aside0 (kq ≤ k) ∧ Aside0 (Kd.R k63 63 wc w.heap.size (fun _=>True) (.slice Ao33 t260.length co33) t260) ∧ Aside0 (Kd.R k70 70 wc w.heap.size (fun _=>True) (.slice Ao34 t263.length co34) t263) ∧ Aside0 (wc.heap[gb247]? = some (.cells #[.int .i64 a0_0,.bool a0_1] 23 (0,0))) ∧ Aside0 (Below w.heap.size w wc))
 case first =>
  have H:=HC20.out
  clear HC20
  by_cases c36 : t268 = t258
  rotate_left
  ·rw [if_neg c36] at H
   have c36b0 : (t268 == t258) = false:=beq_eq_false_iff_ne.mpr c36
   have c36b1 : (t268 != t258) = true:=bne_iff_ne.mpr c36
   (first|rw [c36b0]|(simp only [i64_w,i32_w];rw [c36b0])|skip)
   have H':=Aside0.mk H
   clear H
   go_wp2
   go_meet
   case rel=>exact ⟨_,(true),(by first|rfl|(simp;done)|(simp [*];done)),H',⟨by first|omega|exact Nat.le_refl _⟩,⟨by (with_reducible repeat (first|apply R_alloc|apply R_drewN|apply R_drew));exact R_mono HO262.out (fun _ hk=>trivial)⟩,⟨by (with_reducible repeat (first|apply R_alloc|apply R_drewN|apply R_drew));exact R_mono HO265.out (fun _ hk=>trivial)⟩,⟨by (with_reducible repeat (first|apply blk_drewN|apply blk_drew|apply blk_alloc));exact BK247.out⟩,⟨by repeat (first|(with_reducible first|exact HB.out|apply below_alloc|apply pw_below_drewN|apply below_drew1|refine below_set ?_ GE247.out)|exact HB.out)⟩⟩
  rw [if_pos c36] at H
  have c36b0 : (t268 == t258) = true:=beq_iff_eq.mpr c36
  have c36b1 : (t268 != t258) = false:=bne_eq_false_iff_eq.mpr c36
  clear c36
  (first|rw [c36b0]|(simp only [i64_w,i32_w];rw [c36b0])|skip)
  have H':=Aside0.mk H
  clear H
  go_wp2
  go_meet
  case rel=>exact ⟨_,((t269 != t259)),(by first|rfl|(simp;done)|(simp [*];done)),H',⟨by first|omega|exact Nat.le_refl _⟩,⟨by (with_reducible repeat (first|apply R_alloc|apply R_drewN|apply R_drew));exact R_mono HO262.out (fun _ hk=>trivial)⟩,⟨by (with_reducible repeat (first|apply R_alloc|apply R_drewN|apply R_drew));exact R_mono HO265.out (fun _ hk=>trivial)⟩,⟨by (with_reducible repeat (first|apply blk_drewN|apply blk_drew|apply blk_alloc));exact BK247.out⟩,⟨by repeat (first|(with_reducible first|exact HB.out|apply below_alloc|apply pw_below_drewN|apply below_drew1|refine below_set ?_ GE247.out)|exact HB.out)⟩⟩
 clear HC20
 try clear c1
 try clear c2
 try clear p2
 try clear c3
 try clear c4
 try clear c6
 try clear c7
 try clear c7b0
 try clear c10
 try clear c10b0
 try clear c12
 try clear c13
 try clear c16
 try clear c18
 try clear c23
 try clear c24
 try clear c36
 try clear c36b0
 try clear c36b1
 try clear hcz22_0
 try clear hcz22_1
 try clear hcz31_0
 try clear hcz31_1
 try clear hfz22_0
 try clear hfz22_1
 try clear hfz31_0
 try clear hfz31_1
 obtain ⟨kq,x61_19,rfl,HA,HJ19,HO_14,HO_15,BK247,HB⟩:=hcut
 cases kq with
 | zero=>exact absurd HA.out (by simp [laws_FnExactRelayArrival.j0])
 | succ kj19 =>
  have H:=HA.out
  clear HA
  simp only [laws_FnExactRelayArrival.j0] at H
  by_cases c37 : x61_19 = true
  ·subst c37
   have H1 : (some false) = some r:=by rw [if_pos rfl] at H;exact H
   clear H
   have H:=H1
   clear H1
   obtain rfl:=Option.some.inj H
   go_wp2
   go_ret
   exact ⟨by first|rfl|(simp [errW_none,errW_some] <;> rfl)|(simp [*,errW_none,errW_some] <;> rfl),by repeat (first|(with_reducible first|exact HB.out|apply below_alloc|apply pw_below_drewN|apply below_drew1|refine below_set ?_ GE247.out)|exact HB.out)⟩
  replace c37:=Bool.eq_false_iff.mpr c37
  subst c37
  have H1 : ((laws_toCarrierS.f kj19 l1).bind fun t270=>((laws_eqCarrierS.f kj19 t260 t270).bind fun t273=>(if t273 = true then ((laws_toIntA3S.f kj19 l4).bind fun t274=>((laws_eqIntA3S.f kj19 t263 t274).bind fun t277=>(if t277 = true then (some true) else (some false)))) else (some false)))) = some r:=by rw [if_neg (show ¬ (false = true) by decide)] at H;exact H
  clear H
  have H:=H1
  clear H1
  replace H:=Option.bind_eq_some_iff.mp H
  obtain ⟨t270,A380,H⟩:=H
  replace H : ((laws_eqCarrierS.f kj19 t260 t270).bind fun t273=>(if t273 = true then ((laws_toIntA3S.f kj19 l4).bind fun t274=>((laws_eqIntA3S.f kj19 t263 t274).bind fun t277=>(if t277 = true then (some true) else (some false)))) else (some false))) = some r:=H
  have A38:=Aside0.mk A380
  clear A380
  replace H:=Option.bind_eq_some_iff.mp H
  obtain ⟨t273,A390,H⟩:=H
  replace H : (if t273 = true then ((laws_toIntA3S.f kj19 l4).bind fun t274=>((laws_eqIntA3S.f kj19 t263 t274).bind fun t277=>(if t277 = true then (some true) else (some false)))) else (some false)) = some r:=H
  have A39:=Aside0.mk A390
  clear A390
  by_cases c40 : t273 = true
  rotate_left
  ·replace c40:=Bool.eq_false_iff.mpr c40
   subst c40
   have H1 : (some false) = some r:=by rw [if_neg (show ¬ (false = true) by decide)] at H;exact H
   clear H
   have H:=H1
   clear H1
   obtain rfl:=Option.some.inj H
   go_wp2_with (first|((with_reducible refine gate_callee (f:=13) rfl ?_);refine goesL_ (some 64) rfl rfl Try.func13 (by kernel_rfl) rfl #[.slice A1 l1.length c1] rfl (by (try simp only [List.map_toArray,List.map_cons,List.map_nil]);first|done|rfl|(simp only [List.length_drop,List.length_take];rfl)) ?_;(with_reducible refine (laws_toCarrierS.calls kj19 _ _ l1 t270 _ ?side1 ?side2 A38.out).mono ?_);(case side1=>repeat (first|exact (C_below HR1.out HB.out)|(with_reducible refine C_alloc ?_ _)|(with_reducible refine C_drewN ?_ _)|(with_reducible refine C_drew ?_)));(case side2=>exact HC1.out);rintro e w56 ⟨v271,rfl,ho0,hb⟩;refine ⟨_,rfl,?_⟩;have n0_:=Aside0.mk (R_elder' (by (with_reducible repeat (first|apply R_alloc|apply R_drewN|apply R_drew));exact HO_14.out) (R_base ho0) hb);have n1_:=Aside0.mk (R_below (by (with_reducible repeat (first|apply R_alloc|apply R_drewN|apply R_drew));exact HO_15.out) hb);have n2_:=Aside0.mk (R_lower (R_new' ho0 (R_lt (by (with_reducible repeat (first|apply R_alloc|apply R_drewN|apply R_drew));exact HO_14.out))) (below_size (by repeat (first|(with_reducible first|exact HB.out|apply below_alloc|apply pw_below_drewN|apply below_drew1|refine below_set ?_ GE247.out)|exact HB.out))));have n3_:=Aside0.mk (blk_below (g:=gb247) (o:=.cells #[.int .i64 a0_0,.bool a0_1] 23 (0,0)) (by (with_reducible repeat (first|apply blk_drewN|apply blk_drew|apply blk_alloc));exact BK247.out) hb);have n4_:=Aside0.mk (below_step (by repeat (first|(with_reducible first|exact HB.out|apply below_alloc|apply pw_below_drewN|apply below_drew1|refine below_set ?_ GE247.out)|exact HB.out)) hb);clear HO_14;clear HO_15;clear BK247;clear HB;have HO_14:=n0_;have HO_15:=n1_;have HO272:=n2_;have BK247:=n3_;have HB:=n4_;clear n0_ n1_ n2_ n3_ n4_;(try clear hb);(try clear hb2);(try clear hk);(try clear hi);(try clear ho0);obtain ⟨Ao57,co57,eo57⟩:=R_slice HO272.out;subst eo57)|((with_reducible refine gate_callee (f:=15) rfl ?_);refine goesL_ (some 65) rfl rfl Try.func15 (by kernel_rfl) rfl #[.slice Ao33 t260.length co33,.slice Ao57 t270.length co57] rfl (by (try simp only [List.map_toArray,List.map_cons,List.map_nil]);first|done|rfl|(simp only [List.length_drop,List.length_take];rfl)) ?_;(with_reducible refine (laws_eqCarrierS.calls kj19 _ _ t260 _ _ t270 false _ ?side1 ?side2 ?side3 ?side4 A39.out).mono ?_);(case side1=>repeat (first|exact (R_reads' HO_14.out).2.2|(with_reducible refine C_alloc ?_ _)|(with_reducible refine C_drewN ?_ _)|(with_reducible refine C_drew ?_)));(case side2=>exact (R_reads' HO_14.out).2.1);(case side3=>repeat (first|exact (R_reads' HO272.out).2.2|(with_reducible refine C_alloc ?_ _)|(with_reducible refine C_drewN ?_ _)|(with_reducible refine C_drew ?_)));(case side4=>exact (R_reads' HO272.out).2.1);rintro e w58 ⟨rfl,hb⟩;refine ⟨_,rfl,?_⟩;have n0_:=Aside0.mk (R_below (by (with_reducible repeat (first|apply R_alloc|apply R_drewN|apply R_drew));exact HO_14.out) hb);have n1_:=Aside0.mk (R_below (by (with_reducible repeat (first|apply R_alloc|apply R_drewN|apply R_drew));exact HO_15.out) hb);have n2_:=Aside0.mk (R_below (by (with_reducible repeat (first|apply R_alloc|apply R_drewN|apply R_drew));exact HO272.out) hb);have n3_:=Aside0.mk (blk_below (g:=gb247) (o:=.cells #[.int .i64 a0_0,.bool a0_1] 23 (0,0)) (by (with_reducible repeat (first|apply blk_drewN|apply blk_drew|apply blk_alloc));exact BK247.out) hb);have n4_:=Aside0.mk (below_step (by repeat (first|(with_reducible first|exact HB.out|apply below_alloc|apply pw_below_drewN|apply below_drew1|refine below_set ?_ GE247.out)|exact HB.out)) hb);clear HO_14;clear HO_15;clear HO272;clear BK247;clear HB;have HO_14:=n0_;have HO_15:=n1_;have HO272:=n2_;have BK247:=n3_;have HB:=n4_;clear n0_ n1_ n2_ n3_ n4_;(try clear hb);(try clear hb2);(try clear hk);(try clear hi)))
   go_ret
   exact ⟨by first|rfl|(simp [errW_none,errW_some] <;> rfl)|(simp [*,errW_none,errW_some] <;> rfl),by repeat (first|(with_reducible first|exact HB.out|apply below_alloc|apply pw_below_drewN|apply below_drew1|refine below_set ?_ GE247.out)|exact HB.out)⟩
  subst c40
  have H1 : ((laws_toIntA3S.f kj19 l4).bind fun t274=>((laws_eqIntA3S.f kj19 t263 t274).bind fun t277=>(if t277 = true then (some true) else (some false)))) = some r:=by rw [if_pos rfl] at H;exact H
  clear H
  have H:=H1
  clear H1
  replace H:=Option.bind_eq_some_iff.mp H
  obtain ⟨t274,A410,H⟩:=H
  replace H : ((laws_eqIntA3S.f kj19 t263 t274).bind fun t277=>(if t277 = true then (some true) else (some false))) = some r:=H
  have A41:=Aside0.mk A410
  clear A410
  replace H:=Option.bind_eq_some_iff.mp H
  obtain ⟨t277,A420,H⟩:=H
  replace H : (if t277 = true then (some true) else (some false)) = some r:=H
  have A42:=Aside0.mk A420
  clear A420
  by_cases c43 : t277 = true
  ·subst c43
   have H1 : (some true) = some r:=by rw [if_pos rfl] at H;exact H
   clear H
   have H:=H1
   clear H1
   obtain rfl:=Option.some.inj H
   go_wp2_with (first|((with_reducible refine gate_callee (f:=13) rfl ?_);refine goesL_ (some 64) rfl rfl Try.func13 (by kernel_rfl) rfl #[.slice A1 l1.length c1] rfl (by (try simp only [List.map_toArray,List.map_cons,List.map_nil]);first|done|rfl|(simp only [List.length_drop,List.length_take];rfl)) ?_;(with_reducible refine (laws_toCarrierS.calls kj19 _ _ l1 t270 _ ?side1 ?side2 A38.out).mono ?_);(case side1=>repeat (first|exact (C_below HR1.out HB.out)|(with_reducible refine C_alloc ?_ _)|(with_reducible refine C_drewN ?_ _)|(with_reducible refine C_drew ?_)));(case side2=>exact HC1.out);rintro e w44 ⟨v271,rfl,ho0,hb⟩;refine ⟨_,rfl,?_⟩;have n0_:=Aside0.mk (R_elder' (by (with_reducible repeat (first|apply R_alloc|apply R_drewN|apply R_drew));exact HO_14.out) (R_base ho0) hb);have n1_:=Aside0.mk (R_below (by (with_reducible repeat (first|apply R_alloc|apply R_drewN|apply R_drew));exact HO_15.out) hb);have n2_:=Aside0.mk (R_lower (R_new' ho0 (R_lt (by (with_reducible repeat (first|apply R_alloc|apply R_drewN|apply R_drew));exact HO_14.out))) (below_size (by repeat (first|(with_reducible first|exact HB.out|apply below_alloc|apply pw_below_drewN|apply below_drew1|refine below_set ?_ GE247.out)|exact HB.out))));have n3_:=Aside0.mk (blk_below (g:=gb247) (o:=.cells #[.int .i64 a0_0,.bool a0_1] 23 (0,0)) (by (with_reducible repeat (first|apply blk_drewN|apply blk_drew|apply blk_alloc));exact BK247.out) hb);have n4_:=Aside0.mk (below_step (by repeat (first|(with_reducible first|exact HB.out|apply below_alloc|apply pw_below_drewN|apply below_drew1|refine below_set ?_ GE247.out)|exact HB.out)) hb);clear HO_14;clear HO_15;clear BK247;clear HB;have HO_14:=n0_;have HO_15:=n1_;have HO272:=n2_;have BK247:=n3_;have HB:=n4_;clear n0_ n1_ n2_ n3_ n4_;(try clear hb);(try clear hb2);(try clear hk);(try clear hi);(try clear ho0);obtain ⟨Ao45,co45,eo45⟩:=R_slice HO272.out;subst eo45)|((with_reducible refine gate_callee (f:=15) rfl ?_);refine goesL_ (some 65) rfl rfl Try.func15 (by kernel_rfl) rfl #[.slice Ao33 t260.length co33,.slice Ao45 t270.length co45] rfl (by (try simp only [List.map_toArray,List.map_cons,List.map_nil]);first|done|rfl|(simp only [List.length_drop,List.length_take];rfl)) ?_;(with_reducible refine (laws_eqCarrierS.calls kj19 _ _ t260 _ _ t270 true _ ?side1 ?side2 ?side3 ?side4 A39.out).mono ?_);(case side1=>repeat (first|exact (R_reads' HO_14.out).2.2|(with_reducible refine C_alloc ?_ _)|(with_reducible refine C_drewN ?_ _)|(with_reducible refine C_drew ?_)));(case side2=>exact (R_reads' HO_14.out).2.1);(case side3=>repeat (first|exact (R_reads' HO272.out).2.2|(with_reducible refine C_alloc ?_ _)|(with_reducible refine C_drewN ?_ _)|(with_reducible refine C_drew ?_)));(case side4=>exact (R_reads' HO272.out).2.1);rintro e w46 ⟨rfl,hb⟩;refine ⟨_,rfl,?_⟩;have n0_:=Aside0.mk (R_below (by (with_reducible repeat (first|apply R_alloc|apply R_drewN|apply R_drew));exact HO_14.out) hb);have n1_:=Aside0.mk (R_below (by (with_reducible repeat (first|apply R_alloc|apply R_drewN|apply R_drew));exact HO_15.out) hb);have n2_:=Aside0.mk (R_below (by (with_reducible repeat (first|apply R_alloc|apply R_drewN|apply R_drew));exact HO272.out) hb);have n3_:=Aside0.mk (blk_below (g:=gb247) (o:=.cells #[.int .i64 a0_0,.bool a0_1] 23 (0,0)) (by (with_reducible repeat (first|apply blk_drewN|apply blk_drew|apply blk_alloc));exact BK247.out) hb);have n4_:=Aside0.mk (below_step (by repeat (first|(with_reducible first|exact HB.out|apply below_alloc|apply pw_below_drewN|apply below_drew1|refine below_set ?_ GE247.out)|exact HB.out)) hb);clear HO_14;clear HO_15;clear HO272;clear BK247;clear HB;have HO_14:=n0_;have HO_15:=n1_;have HO272:=n2_;have BK247:=n3_;have HB:=n4_;clear n0_ n1_ n2_ n3_ n4_;(try clear hb);(try clear hb2);(try clear hk);(try clear hi))|((with_reducible refine gate_callee (f:=18) rfl ?_);refine goesL_ (some 69) rfl rfl Try.func18 (by kernel_rfl) rfl #[.slice A4 l4.length c4] rfl (by (try simp only [List.map_toArray,List.map_cons,List.map_nil]);first|done|rfl|(simp only [List.length_drop,List.length_take];rfl)) ?_;(with_reducible refine (laws_toIntA3S.calls kj19 _ _ l4 t274 _ ?side1 ?side2 A41.out).mono ?_);(case side1=>repeat (first|exact (C_below HR4.out HB.out)|(with_reducible refine C_alloc ?_ _)|(with_reducible refine C_drewN ?_ _)|(with_reducible refine C_drew ?_)));(case side2=>exact HC4.out);rintro e w47 ⟨v275,rfl,ho0,hb⟩;refine ⟨_,rfl,?_⟩;have n0_:=Aside0.mk (R_below (by (with_reducible repeat (first|apply R_alloc|apply R_drewN|apply R_drew));exact HO_14.out) hb);have n1_:=Aside0.mk (R_elder' (by (with_reducible repeat (first|apply R_alloc|apply R_drewN|apply R_drew));exact HO_15.out) (R_base ho0) hb);have n2_:=Aside0.mk (R_below (by (with_reducible repeat (first|apply R_alloc|apply R_drewN|apply R_drew));exact HO272.out) hb);have n3_:=Aside0.mk (R_lower (R_new' ho0 (R_lt (by (with_reducible repeat (first|apply R_alloc|apply R_drewN|apply R_drew));exact HO_15.out))) (below_size (by repeat (first|(with_reducible first|exact HB.out|apply below_alloc|apply pw_below_drewN|apply below_drew1|refine below_set ?_ GE247.out)|exact HB.out))));have n4_:=Aside0.mk (blk_below (g:=gb247) (o:=.cells #[.int .i64 a0_0,.bool a0_1] 23 (0,0)) (by (with_reducible repeat (first|apply blk_drewN|apply blk_drew|apply blk_alloc));exact BK247.out) hb);have n5_:=Aside0.mk (below_step (by repeat (first|(with_reducible first|exact HB.out|apply below_alloc|apply pw_below_drewN|apply below_drew1|refine below_set ?_ GE247.out)|exact HB.out)) hb);clear HO_14;clear HO_15;clear HO272;clear BK247;clear HB;have HO_14:=n0_;have HO_15:=n1_;have HO272:=n2_;have HO276:=n3_;have BK247:=n4_;have HB:=n5_;clear n0_ n1_ n2_ n3_ n4_ n5_;(try clear hb);(try clear hb2);(try clear hk);(try clear hi);(try clear ho0);obtain ⟨Ao48,co48,eo48⟩:=R_slice HO276.out;subst eo48)|((with_reducible refine gate_callee (f:=20) rfl ?_);refine goesL_ (some 70) rfl rfl Try.func20 (by kernel_rfl) rfl #[.slice Ao34 t263.length co34,.slice Ao48 t274.length co48] rfl (by (try simp only [List.map_toArray,List.map_cons,List.map_nil]);first|done|rfl|(simp only [List.length_drop,List.length_take];rfl)) ?_;(with_reducible refine (laws_eqIntA3S.calls kj19 _ _ t263 _ _ t274 true _ ?side1 ?side2 ?side3 ?side4 A42.out).mono ?_);(case side1=>repeat (first|exact (R_reads' HO_15.out).2.2|(with_reducible refine C_alloc ?_ _)|(with_reducible refine C_drewN ?_ _)|(with_reducible refine C_drew ?_)));(case side2=>exact (R_reads' HO_15.out).2.1);(case side3=>repeat (first|exact (R_reads' HO276.out).2.2|(with_reducible refine C_alloc ?_ _)|(with_reducible refine C_drewN ?_ _)|(with_reducible refine C_drew ?_)));(case side4=>exact (R_reads' HO276.out).2.1);rintro e w49 ⟨rfl,hb⟩;refine ⟨_,rfl,?_⟩;have n0_:=Aside0.mk (R_below (by (with_reducible repeat (first|apply R_alloc|apply R_drewN|apply R_drew));exact HO_14.out) hb);have n1_:=Aside0.mk (R_below (by (with_reducible repeat (first|apply R_alloc|apply R_drewN|apply R_drew));exact HO_15.out) hb);have n2_:=Aside0.mk (R_below (by (with_reducible repeat (first|apply R_alloc|apply R_drewN|apply R_drew));exact HO272.out) hb);have n3_:=Aside0.mk (R_below (by (with_reducible repeat (first|apply R_alloc|apply R_drewN|apply R_drew));exact HO276.out) hb);have n4_:=Aside0.mk (blk_below (g:=gb247) (o:=.cells #[.int .i64 a0_0,.bool a0_1] 23 (0,0)) (by (with_reducible repeat (first|apply blk_drewN|apply blk_drew|apply blk_alloc));exact BK247.out) hb);have n5_:=Aside0.mk (below_step (by repeat (first|(with_reducible first|exact HB.out|apply below_alloc|apply pw_below_drewN|apply below_drew1|refine below_set ?_ GE247.out)|exact HB.out)) hb);clear HO_14;clear HO_15;clear HO272;clear HO276;clear BK247;clear HB;have HO_14:=n0_;have HO_15:=n1_;have HO272:=n2_;have HO276:=n3_;have BK247:=n4_;have HB:=n5_;clear n0_ n1_ n2_ n3_ n4_ n5_;(try clear hb);(try clear hb2);(try clear hk);(try clear hi)))
   go_ret
   exact ⟨by first|rfl|(simp [errW_none,errW_some] <;> rfl)|(simp [*,errW_none,errW_some] <;> rfl),by repeat (first|(with_reducible first|exact HB.out|apply below_alloc|apply pw_below_drewN|apply below_drew1|refine below_set ?_ GE247.out)|exact HB.out)⟩
  replace c43:=Bool.eq_false_iff.mpr c43
  subst c43
  have H1 : (some false) = some r:=by rw [if_neg (show ¬ (false = true) by decide)] at H;exact H
  clear H
  have H:=H1
  clear H1
  obtain rfl:=Option.some.inj H
  go_wp2_with (first|((with_reducible refine gate_callee (f:=13) rfl ?_);refine goesL_ (some 64) rfl rfl Try.func13 (by kernel_rfl) rfl #[.slice A1 l1.length c1] rfl (by (try simp only [List.map_toArray,List.map_cons,List.map_nil]);first|done|rfl|(simp only [List.length_drop,List.length_take];rfl)) ?_;(with_reducible refine (laws_toCarrierS.calls kj19 _ _ l1 t270 _ ?side1 ?side2 A38.out).mono ?_);(case side1=>repeat (first|exact (C_below HR1.out HB.out)|(with_reducible refine C_alloc ?_ _)|(with_reducible refine C_drewN ?_ _)|(with_reducible refine C_drew ?_)));(case side2=>exact HC1.out);rintro e w50 ⟨v271,rfl,ho0,hb⟩;refine ⟨_,rfl,?_⟩;have n0_:=Aside0.mk (R_elder' (by (with_reducible repeat (first|apply R_alloc|apply R_drewN|apply R_drew));exact HO_14.out) (R_base ho0) hb);have n1_:=Aside0.mk (R_below (by (with_reducible repeat (first|apply R_alloc|apply R_drewN|apply R_drew));exact HO_15.out) hb);have n2_:=Aside0.mk (R_lower (R_new' ho0 (R_lt (by (with_reducible repeat (first|apply R_alloc|apply R_drewN|apply R_drew));exact HO_14.out))) (below_size (by repeat (first|(with_reducible first|exact HB.out|apply below_alloc|apply pw_below_drewN|apply below_drew1|refine below_set ?_ GE247.out)|exact HB.out))));have n3_:=Aside0.mk (blk_below (g:=gb247) (o:=.cells #[.int .i64 a0_0,.bool a0_1] 23 (0,0)) (by (with_reducible repeat (first|apply blk_drewN|apply blk_drew|apply blk_alloc));exact BK247.out) hb);have n4_:=Aside0.mk (below_step (by repeat (first|(with_reducible first|exact HB.out|apply below_alloc|apply pw_below_drewN|apply below_drew1|refine below_set ?_ GE247.out)|exact HB.out)) hb);clear HO_14;clear HO_15;clear BK247;clear HB;have HO_14:=n0_;have HO_15:=n1_;have HO272:=n2_;have BK247:=n3_;have HB:=n4_;clear n0_ n1_ n2_ n3_ n4_;(try clear hb);(try clear hb2);(try clear hk);(try clear hi);(try clear ho0);obtain ⟨Ao51,co51,eo51⟩:=R_slice HO272.out;subst eo51)|((with_reducible refine gate_callee (f:=15) rfl ?_);refine goesL_ (some 65) rfl rfl Try.func15 (by kernel_rfl) rfl #[.slice Ao33 t260.length co33,.slice Ao51 t270.length co51] rfl (by (try simp only [List.map_toArray,List.map_cons,List.map_nil]);first|done|rfl|(simp only [List.length_drop,List.length_take];rfl)) ?_;(with_reducible refine (laws_eqCarrierS.calls kj19 _ _ t260 _ _ t270 true _ ?side1 ?side2 ?side3 ?side4 A39.out).mono ?_);(case side1=>repeat (first|exact (R_reads' HO_14.out).2.2|(with_reducible refine C_alloc ?_ _)|(with_reducible refine C_drewN ?_ _)|(with_reducible refine C_drew ?_)));(case side2=>exact (R_reads' HO_14.out).2.1);(case side3=>repeat (first|exact (R_reads' HO272.out).2.2|(with_reducible refine C_alloc ?_ _)|(with_reducible refine C_drewN ?_ _)|(with_reducible refine C_drew ?_)));(case side4=>exact (R_reads' HO272.out).2.1);rintro e w52 ⟨rfl,hb⟩;refine ⟨_,rfl,?_⟩;have n0_:=Aside0.mk (R_below (by (with_reducible repeat (first|apply R_alloc|apply R_drewN|apply R_drew));exact HO_14.out) hb);have n1_:=Aside0.mk (R_below (by (with_reducible repeat (first|apply R_alloc|apply R_drewN|apply R_drew));exact HO_15.out) hb);have n2_:=Aside0.mk (R_below (by (with_reducible repeat (first|apply R_alloc|apply R_drewN|apply R_drew));exact HO272.out) hb);have n3_:=Aside0.mk (blk_below (g:=gb247) (o:=.cells #[.int .i64 a0_0,.bool a0_1] 23 (0,0)) (by (with_reducible repeat (first|apply blk_drewN|apply blk_drew|apply blk_alloc));exact BK247.out) hb);have n4_:=Aside0.mk (below_step (by repeat (first|(with_reducible first|exact HB.out|apply below_alloc|apply pw_below_drewN|apply below_drew1|refine below_set ?_ GE247.out)|exact HB.out)) hb);clear HO_14;clear HO_15;clear HO272;clear BK247;clear HB;have HO_14:=n0_;have HO_15:=n1_;have HO272:=n2_;have BK247:=n3_;have HB:=n4_;clear n0_ n1_ n2_ n3_ n4_;(try clear hb);(try clear hb2);(try clear hk);(try clear hi))|((with_reducible refine gate_callee (f:=18) rfl ?_);refine goesL_ (some 69) rfl rfl Try.func18 (by kernel_rfl) rfl #[.slice A4 l4.length c4] rfl (by (try simp only [List.map_toArray,List.map_cons,List.map_nil]);first|done|rfl|(simp only [List.length_drop,List.length_take];rfl)) ?_;(with_reducible refine (laws_toIntA3S.calls kj19 _ _ l4 t274 _ ?side1 ?side2 A41.out).mono ?_);(case side1=>repeat (first|exact (C_below HR4.out HB.out)|(with_reducible refine C_alloc ?_ _)|(with_reducible refine C_drewN ?_ _)|(with_reducible refine C_drew ?_)));(case side2=>exact HC4.out);rintro e w53 ⟨v275,rfl,ho0,hb⟩;refine ⟨_,rfl,?_⟩;have n0_:=Aside0.mk (R_below (by (with_reducible repeat (first|apply R_alloc|apply R_drewN|apply R_drew));exact HO_14.out) hb);have n1_:=Aside0.mk (R_elder' (by (with_reducible repeat (first|apply R_alloc|apply R_drewN|apply R_drew));exact HO_15.out) (R_base ho0) hb);have n2_:=Aside0.mk (R_below (by (with_reducible repeat (first|apply R_alloc|apply R_drewN|apply R_drew));exact HO272.out) hb);have n3_:=Aside0.mk (R_lower (R_new' ho0 (R_lt (by (with_reducible repeat (first|apply R_alloc|apply R_drewN|apply R_drew));exact HO_15.out))) (below_size (by repeat (first|(with_reducible first|exact HB.out|apply below_alloc|apply pw_below_drewN|apply below_drew1|refine below_set ?_ GE247.out)|exact HB.out))));have n4_:=Aside0.mk (blk_below (g:=gb247) (o:=.cells #[.int .i64 a0_0,.bool a0_1] 23 (0,0)) (by (with_reducible repeat (first|apply blk_drewN|apply blk_drew|apply blk_alloc));exact BK247.out) hb);have n5_:=Aside0.mk (below_step (by repeat (first|(with_reducible first|exact HB.out|apply below_alloc|apply pw_below_drewN|apply below_drew1|refine below_set ?_ GE247.out)|exact HB.out)) hb);clear HO_14;clear HO_15;clear HO272;clear BK247;clear HB;have HO_14:=n0_;have HO_15:=n1_;have HO272:=n2_;have HO276:=n3_;have BK247:=n4_;have HB:=n5_;clear n0_ n1_ n2_ n3_ n4_ n5_;(try clear hb);(try clear hb2);(try clear hk);(try clear hi);(try clear ho0);obtain ⟨Ao54,co54,eo54⟩:=R_slice HO276.out;subst eo54)|((with_reducible refine gate_callee (f:=20) rfl ?_);refine goesL_ (some 70) rfl rfl Try.func20 (by kernel_rfl) rfl #[.slice Ao34 t263.length co34,.slice Ao54 t274.length co54] rfl (by (try simp only [List.map_toArray,List.map_cons,List.map_nil]);first|done|rfl|(simp only [List.length_drop,List.length_take];rfl)) ?_;(with_reducible refine (laws_eqIntA3S.calls kj19 _ _ t263 _ _ t274 false _ ?side1 ?side2 ?side3 ?side4 A42.out).mono ?_);(case side1=>repeat (first|exact (R_reads' HO_15.out).2.2|(with_reducible refine C_alloc ?_ _)|(with_reducible refine C_drewN ?_ _)|(with_reducible refine C_drew ?_)));(case side2=>exact (R_reads' HO_15.out).2.1);(case side3=>repeat (first|exact (R_reads' HO276.out).2.2|(with_reducible refine C_alloc ?_ _)|(with_reducible refine C_drewN ?_ _)|(with_reducible refine C_drew ?_)));(case side4=>exact (R_reads' HO276.out).2.1);rintro e w55 ⟨rfl,hb⟩;refine ⟨_,rfl,?_⟩;have n0_:=Aside0.mk (R_below (by (with_reducible repeat (first|apply R_alloc|apply R_drewN|apply R_drew));exact HO_14.out) hb);have n1_:=Aside0.mk (R_below (by (with_reducible repeat (first|apply R_alloc|apply R_drewN|apply R_drew));exact HO_15.out) hb);have n2_:=Aside0.mk (R_below (by (with_reducible repeat (first|apply R_alloc|apply R_drewN|apply R_drew));exact HO272.out) hb);have n3_:=Aside0.mk (R_below (by (with_reducible repeat (first|apply R_alloc|apply R_drewN|apply R_drew));exact HO276.out) hb);have n4_:=Aside0.mk (blk_below (g:=gb247) (o:=.cells #[.int .i64 a0_0,.bool a0_1] 23 (0,0)) (by (with_reducible repeat (first|apply blk_drewN|apply blk_drew|apply blk_alloc));exact BK247.out) hb);have n5_:=Aside0.mk (below_step (by repeat (first|(with_reducible first|exact HB.out|apply below_alloc|apply pw_below_drewN|apply below_drew1|refine below_set ?_ GE247.out)|exact HB.out)) hb);clear HO_14;clear HO_15;clear HO272;clear HO276;clear BK247;clear HB;have HO_14:=n0_;have HO_15:=n1_;have HO272:=n2_;have HO276:=n3_;have BK247:=n4_;have HB:=n5_;clear n0_ n1_ n2_ n3_ n4_ n5_;(try clear hb);(try clear hb2);(try clear hk);(try clear hi)))
  go_ret
  exact ⟨by first|rfl|(simp [errW_none,errW_some] <;> rfl)|(simp [*,errW_none,errW_some] <;> rfl),by repeat (first|(with_reducible first|exact HB.out|apply below_alloc|apply pw_below_drewN|apply below_drew1|refine below_set ?_ GE247.out)|exact HB.out)⟩


end
end Go.Proofs.Ythagkpoinjpmfaa.QFnExactRelayArrival
