/- Functions that the law FnExactMirrorWire comes to, as Lean functions, with the proof that the Go code does what they say: written by a program of this session over the kit's print. No condition but those named. -/
import Derived.Test.YtciihopkgblpkaaQFnExactMirrorWirex0
import Derived.Test.YtciihopkgblpkaaQFnExactMirrorWirex2
namespace Go.Proofs.Ytciihopkgblpkaa.QFnExactMirrorWire
open Go.RowKit Go.Proofs.YtciihopkgblpkaaW.PrintWords Go.Proofs.YtciihopkgblpkaaW.PrintLast Go.Proofs.YtciihopkgblpkaaW.PrintMore
attribute [local go_sem] max2_int min2_int max_two min_two max_three min_three max_four min_four   -- for this text's walks alone
set_option linter.unusedVariables false
set_option linter.unusedSimpArgs false

/-! ### spec_MirrorWire: function 26 -/
section
open Kd
def spec_MirrorWire.l0 : Nat → Int → Int → List Int → List Int → Int → List Int → List Int → Option (Int × List Int × List Int × Bool)
 | 0,_,_,_,_,_,_,_=>none
 | k + 1,x5,x141000,x141001,x141002,x150000,x150001,x150002=>if x5 ≥ 0 then (if 0 ≤ x5 then (if x5 < (x141001.length : Int) then (if x150001.length < 17592186044416 then (if x5 < (x141002.length : Int) then (if x150002.length < 17592186044416 then (spec_MirrorWire.l0 k (wrap64 (x5 - 1)) x141000 x141001 x141002 x150000 (x150001 ++ [wrap64 (x141000 - (rd x141001 x5))]) (x150002 ++ [wrap64 (-(rd x141002 x5))])) else (none)) else (none)) else (none)) else (none)) else (none)) else (some (x150000,x150001,x150002,true))
def spec_MirrorWire.f (k : Nat) (a0_0 : Int) (l0_1 : List Int) (l0_2 : List Int) : Option (Int × List Int × List Int × Bool):=(spec_l8Wire.f k a0_0 l0_1 l0_2).bind fun t142=>(if t142 = true then (spec_MirrorWire.l0 k (wrap64 ((l0_1.length : Int) - 1)) a0_0 l0_1 l0_2 a0_0 (([] : List Int)) (([] : List Int))) else (some (0,([] : List Int),([] : List Int),false)))
theorem spec_MirrorWire.mono_l : ∀ k,(∀ y0 y1 y2 y3 y4 y5 y6,LeO (spec_MirrorWire.l0 k y0 y1 y2 y3 y4 y5 y6) (spec_MirrorWire.l0 (k + 1) y0 y1 y2 y3 y4 y5 y6))
 | 0=>fun _ _ _ _ _ _ _ r h=>by simp [spec_MirrorWire.l0] at h
 | k + 1=>by
  have ih0:=spec_MirrorWire.mono_l k
  ·intro y0 y1 y2 y3 y4 y5 y6
   unfold spec_MirrorWire.l0
   repeat' first
   | (with_reducible exact ih0 _ _ _ _ _ _ _)
   | (with_reducible exact spec_l8Wire.mono _ _ _ _)
   | (with_reducible exact LeO.refl _)
   | (with_reducible exact LeO.none _)
   | (with_reducible refine LeO.ite ?_ ?_)
   | (with_reducible refine LeO.bind ?_ (fun _=>?_))
   | exact ih0 _ _ _ _ _ _ _
   | exact spec_l8Wire.mono _ _ _ _
   | exact LeO.none _
   | refine LeO.ite ?_ ?_
   | refine LeO.bind ?_ (fun _=>?_)
theorem spec_MirrorWire.mono : ∀ a0 a1 a2 k,LeO (spec_MirrorWire.f k a0 a1 a2) (spec_MirrorWire.f (k + 1) a0 a1 a2):=by
 intro a0 a1 a2 k
 have ih0:=spec_MirrorWire.mono_l k
 unfold spec_MirrorWire.f
 repeat' first
   | (with_reducible exact ih0 _ _ _ _ _ _ _)
   | (with_reducible exact spec_l8Wire.mono _ _ _ _)
   | (with_reducible exact LeO.refl _)
   | (with_reducible exact LeO.none _)
   | (with_reducible refine LeO.ite ?_ ?_)
   | (with_reducible refine LeO.bind ?_ (fun _=>?_))
   | exact ih0 _ _ _ _ _ _ _
   | exact spec_l8Wire.mono _ _ _ _
   | exact LeO.none _
   | refine LeO.ite ?_ ?_
   | refine LeO.bind ?_ (fun _=>?_)
def spec_MirrorWire.T7 : Bool × List (List Nat × List Nat):=(true,[([],[]),([0],[0]),([],[]),([2],[2]),([],[]),([4],[4]),([],[]),([5,6],[5,6]),([7],[7]),([3,8],[3,8]),([9],[9]),([1,10],[1,10]),([0,1,2,3,4,5,6,7,8,9,10,11],[]),([12,11,11,0,1,2,3,4,5,6,7,8,9,10,11],[11,12])])
def spec_MirrorWire.B7 : List Nat:=[0,1,0,4,0,16,0,112,240,508,1020,2047,4095,8191]
theorem spec_MirrorWire.tab7 : rtab .any (opsOf Try.f26 7) = spec_MirrorWire.T7:=by kernel_rfl
theorem spec_MirrorWire.bits7 : waitsOk spec_MirrorWire.T7.2 spec_MirrorWire.B7 = true:=by kernel_rfl
def spec_MirrorWire.T8 : Bool × List (List Nat × List Nat):=(true,[([],[]),([0],[0]),([],[]),([2],[2]),([],[]),([3,4],[3,4]),([5],[5]),([6],[6]),([7],[7]),([1,8],[1,8]),([0,1,2,3,4,5,6,7,8,9],[]),([10,9,9,0,1,2,3,4,5,6,7,8,9],[9,10])])
def spec_MirrorWire.B8 : List Nat:=[0,1,0,4,0,28,60,124,252,511,1023,2047]
theorem spec_MirrorWire.tab8 : rtab .any (opsOf Try.f26 8) = spec_MirrorWire.T8:=by kernel_rfl
theorem spec_MirrorWire.bits8 : waitsOk spec_MirrorWire.T8.2 spec_MirrorWire.B8 = true:=by kernel_rfl
set_option maxHeartbeats 8000000 in
set_option maxRecDepth 100000 in
theorem spec_MirrorWire.calls (k : Nat) (a0_0 : Int) (A0_1 : Option Addr) (c0_1 : Nat) (l0_1 : List Int) (A0_2 : Option Addr) (c0_2 : Nat) (l0_2 : List Int) (r1 : Int) (r2 : List Int) (r3 : List Int) (r4 : Bool) (w : World) (hr0_1 : Kd.C (Kd.int .i64) w A0_1 l0_1.length l0_1) (hc0_1 : l0_1.length ≤ c0_1) (hr0_2 : Kd.C (Kd.int .i64) w A0_2 l0_2.length l0_2) (hc0_2 : l0_2.length ≤ c0_2) (h : spec_MirrorWire.f k a0_0 l0_1 l0_2 = some (r1,r2,r3,r4)) :
  Calls Try.prog 26 #[.agg #[.int .i64 a0_0,.slice A0_1 l0_1.length c0_1,.slice A0_2 l0_2.length c0_2]] w fun e w'=>∃ v1_ v2_ : Value,e = .returned (.tuple #[.agg #[.int .i64 r1,v1_,v2_],.bool r4]) ∧ Kd.R (Kd.int .i64) 3 w' w.heap.size (fun k_=>some k_ ≠ (v2_ : Value).ownBlock) v1_ r2 ∧ Kd.R (Kd.int .i64) 3 w' w.heap.size (fun k_=>some k_ ≠ (v1_ : Value).ownBlock) v2_ r3 ∧ Below w.heap.size w w':=by
 have hu27:=Try.underlying27
 have HR0_1:=Aside0.mk hr0_1
 have HC0_1:=Aside0.mk hc0_1
 clear hr0_1 hc0_1
 have HR0_2:=Aside0.mk hr0_2
 have HC0_2:=Aside0.mk hc0_2
 clear hr0_2 hc0_2
 have HB:=Aside0.mk (Below.refl w.heap.size w)
 have H : ((spec_l8Wire.f k a0_0 l0_1 l0_2).bind fun t142=>(if t142 = true then (spec_MirrorWire.l0 k (wrap64 ((l0_1.length : Int) - 1)) a0_0 l0_1 l0_2 a0_0 (([] : List Int)) (([] : List Int))) else (some (0,([] : List Int),([] : List Int),false)))) = some (r1,r2,r3,r4):=h
 clear h
 replace H:=Option.bind_eq_some_iff.mp H
 obtain ⟨t142,A20,H⟩:=H
 replace H : (if t142 = true then (spec_MirrorWire.l0 k (wrap64 ((l0_1.length : Int) - 1)) a0_0 l0_1 l0_2 a0_0 (([] : List Int)) (([] : List Int))) else (some (0,([] : List Int),([] : List Int),false))) = some (r1,r2,r3,r4):=H
 have A2:=Aside0.mk A20
 clear A20
 by_cases c3 : t142 = true
 rotate_left
 ·replace c3:=Bool.eq_false_iff.mpr c3
  subst c3
  have H1 : (some (0,([] : List Int),([] : List Int),false)) = some (r1,r2,r3,r4):=by rw [if_neg (show ¬ (false = true) by decide)] at H;exact H
  clear H
  have H:=H1
  clear H1
  simp only [Option.some.injEq,Prod.mk.injEq] at H
  obtain ⟨rfl,rfl,rfl,rfl⟩:=H
  go_enter Try.func26,Try.ntmps26
  go_wp2_with (first|((with_reducible refine gate_dst (N:=1) rfl ?_);refine box_event ?hg (N:=1) ?hd (cs:=#[.int .i64 a0_0,.slice A0_1 l0_1.length c0_1,.slice A0_2 l0_2.length c0_2]) (t:=27) ?hr ?_;(case hd=>rfl);(case hg=>rfl);(case hr=>first|(go_simp;done)|(go_simp;rfl));intro gb140 hg w43 hbox hb;have n0_:=Aside0.mk (below_step (by repeat (first|(with_reducible first|exact HB.out|apply below_alloc|apply pw_below_drewN|apply below_drew1)|exact HB.out)) hb);have n1_:=Aside0.mk (hbox);have n2_:=Aside0.mk ((by rw [hg];exact (below_size (by repeat (first|(with_reducible first|exact HB.out|apply below_alloc|apply pw_below_drewN|apply below_drew1)|exact HB.out))) : w.heap.size ≤ gb140));have n3_:=Aside0.mk ((by rw [hg];exact (below_size (by repeat (first|(with_reducible first|exact HB.out|apply below_alloc|apply pw_below_drewN|apply below_drew1)|exact HB.out))) : w.heap.size ≤ gb140));clear HB;have HB:=n0_;have BK140:=n1_;have GW140:=n2_;have GE140:=n3_;clear n0_ n1_ n2_ n3_;clear hb hbox hg)|((with_reducible refine gate_dst (N:=2) rfl ?_);refine box_event ?hg (N:=2) ?hd (cs:=#[.int .i64 0,.slice none 0 0,.slice none 0 0]) (t:=27) ?hr ?_;(case hd=>rfl);(case hg=>rfl);(case hr=>first|(go_simp;done)|(go_simp;rfl));intro gb141 hg w44 hbox hb;have n0_:=Aside0.mk (blk_below (g:=gb140) (o:=.cells #[.int .i64 a0_0,.slice A0_1 l0_1.length c0_1,.slice A0_2 l0_2.length c0_2] 27 (0,0)) (by (with_reducible repeat (first|apply blk_drewN|apply blk_drew|apply blk_alloc));exact BK140.out) hb);have n1_:=Aside0.mk (below_step (by repeat (first|(with_reducible first|exact HB.out|apply below_alloc|apply pw_below_drewN|apply below_drew1|refine below_set ?_ GE140.out)|exact HB.out)) hb);have n2_:=Aside0.mk (hbox);have n3_:=Aside0.mk ((by rw [hg];exact (below_size (by repeat (first|(with_reducible first|exact HB.out|apply below_alloc|apply pw_below_drewN|apply below_drew1|refine below_set ?_ GE140.out)|exact HB.out))) : w.heap.size ≤ gb141));have n4_:=Aside0.mk ((by rw [hg];exact (below_size (by repeat (first|(with_reducible first|exact HB.out|apply below_alloc|apply pw_below_drewN|apply below_drew1|refine below_set ?_ GE140.out)|exact HB.out))) : w.heap.size ≤ gb141));have n5_:=Aside0.mk ((by rw [hg];exact Nat.ne_of_lt (blk_lt (g:=gb140) (by (with_reducible repeat (first|apply blk_drewN|apply blk_drew|apply blk_alloc));exact BK140.out)) : gb140 ≠ gb141));have n6_:=Aside0.mk ((by rw [hg];exact Nat.ne_of_gt (blk_lt (g:=gb140) (by (with_reducible repeat (first|apply blk_drewN|apply blk_drew|apply blk_alloc));exact BK140.out)) : gb141 ≠ gb140));clear BK140;clear HB;have BK140:=n0_;have HB:=n1_;have BK141:=n2_;have GW141:=n3_;have GE141:=n4_;have NB140_141:=n5_;have NB141_140:=n6_;clear n0_ n1_ n2_ n3_ n4_ n5_ n6_;clear hb hbox hg;have hnb45:=NB140_141.out;have hnc45:=NB141_140.out;have hcz46_0 : w44.cell? ⟨gb140,0,none⟩ = some (.int .i64 a0_0):=(blk_cell BK140.out 0).trans rfl;have hcz46_1 : w44.cell? ⟨gb140,1,none⟩ = some (.slice A0_1 l0_1.length c0_1):=(blk_cell BK140.out 1).trans rfl;have hcz46_2 : w44.cell? ⟨gb140,2,none⟩ = some (.slice A0_2 l0_2.length c0_2):=(blk_cell BK140.out 2).trans rfl;have hfz46_0:=blk_frozen BK140.out 0;have hfz46_1:=blk_frozen BK140.out 1;have hfz46_2:=blk_frozen BK140.out 2)|((with_reducible refine gate_callee (f:=40) rfl ?_);refine goesL_ (some 7) rfl rfl Try.func40 (by kernel_rfl) rfl #[.agg #[.int .i64 a0_0,.slice A0_1 l0_1.length c0_1,.slice A0_2 l0_2.length c0_2]] rfl (by (try simp only [List.map_toArray,List.map_cons,List.map_nil]);first|done|rfl|(simp only [List.length_drop,List.length_take];rfl)) ?_;(with_reducible refine (spec_l8Wire.calls k a0_0 _ _ l0_1 _ _ l0_2 false _ ?side1 ?side2 ?side3 ?side4 A2.out).mono ?_);(case side1=>repeat (first|exact (C_below HR0_1.out HB.out)|(with_reducible refine C_alloc ?_ _)|(with_reducible refine C_drewN ?_ _)|(with_reducible refine C_drew ?_)));(case side2=>exact HC0_1.out);(case side3=>repeat (first|exact (C_below HR0_2.out HB.out)|(with_reducible refine C_alloc ?_ _)|(with_reducible refine C_drewN ?_ _)|(with_reducible refine C_drew ?_)));(case side4=>exact HC0_2.out);rintro e w47 ⟨rfl,hb⟩;refine ⟨_,rfl,?_⟩;have n0_:=Aside0.mk (blk_below (g:=gb140) (o:=.cells #[.int .i64 a0_0,.slice A0_1 l0_1.length c0_1,.slice A0_2 l0_2.length c0_2] 27 (0,0)) (by (with_reducible repeat (first|apply blk_drewN|apply blk_drew|apply blk_alloc));exact BK140.out) hb);have n1_:=Aside0.mk (blk_below (g:=gb141) (o:=.cells #[.int .i64 0,.slice none 0 0,.slice none 0 0] 27 (0,0)) (by (with_reducible repeat (first|apply blk_drewN|apply blk_drew|apply blk_alloc));exact BK141.out) hb);have n2_:=Aside0.mk (below_step (by repeat (first|(with_reducible first|exact HB.out|apply below_alloc|apply pw_below_drewN|apply below_drew1|refine below_set ?_ GE140.out|refine below_set ?_ GE141.out)|exact HB.out)) hb);clear BK140;clear BK141;clear HB;have BK140:=n0_;have BK141:=n1_;have HB:=n2_;clear n0_ n1_ n2_;(try clear hb);(try clear hb2);(try clear hk);(try clear hi);have hcz48_0 : w47.cell? ⟨gb141,0,none⟩ = some (.int .i64 0):=(blk_cell BK141.out 0).trans rfl;have hcz48_1 : w47.cell? ⟨gb141,1,none⟩ = some (.slice none 0 0):=(blk_cell BK141.out 1).trans rfl;have hcz48_2 : w47.cell? ⟨gb141,2,none⟩ = some (.slice none 0 0):=(blk_cell BK141.out 2).trans rfl;have hfz48_0:=blk_frozen BK141.out 0;have hfz48_1:=blk_frozen BK141.out 1;have hfz48_2:=blk_frozen BK141.out 2))
  refine bodyPost_ret (results_ct rfl _ _ gb141 27 #[.int .i64 0,.slice none 0 0,.slice none 0 0] (0,0) _ rfl (by (with_reducible repeat (first|apply blk_drewN|apply blk_drew|apply blk_alloc));refine blk_put (cs:=#[.int .i64 0,.slice none 0 0,.slice none 0 0]) ?_ 2 _ rfl;(with_reducible repeat (first|apply blk_drewN|apply blk_drew|apply blk_alloc));refine blk_put (cs:=#[.int .i64 0,.slice none 0 0,.slice none 0 0]) ?_ 1 _ rfl;(with_reducible repeat (first|apply blk_drewN|apply blk_drew|apply blk_alloc));refine blk_put (cs:=#[.int .i64 0,.slice none 0 0,.slice none 0 0]) ?_ 0 _ rfl;(with_reducible repeat (first|apply blk_drewN|apply blk_drew|apply blk_alloc));exact BK141.out) Try.underlying27 rfl (by kernel_rfl)) rfl ?_
  exact ⟨_,_,by first|rfl|(simp [errW_none,errW_some] <;> rfl)|(simp [*,errW_none,errW_some] <;> rfl),by first|exact R_nil _ _ _ _ _|exact Kd.N_nil _ _ _ _ _|exact Kd.V_nil _ _ _ _ _|exact Kd.Q_nil _ _ _ _ _|exact Kd.S_nil _ _ _ _ _,by first|exact R_nil _ _ _ _ _|exact Kd.N_nil _ _ _ _ _|exact Kd.V_nil _ _ _ _ _|exact Kd.Q_nil _ _ _ _ _|exact Kd.S_nil _ _ _ _ _,by repeat (first|(with_reducible first|exact HB.out|apply below_alloc|apply pw_below_drewN|apply below_drew1|refine below_set ?_ GE140.out|refine below_set ?_ GE141.out)|exact HB.out)⟩
 subst c3
 have H1 : (spec_MirrorWire.l0 k (wrap64 ((l0_1.length : Int) - 1)) a0_0 l0_1 l0_2 a0_0 (([] : List Int)) (([] : List Int))) = some (r1,r2,r3,r4):=by rw [if_pos rfl] at H;exact H
 clear H
 have H:=H1
 clear H1
 obtain ⟨y143,hy143⟩ : ∃ y_ : List Int,y_ = (([] : List Int)):=⟨_,rfl⟩
 replace H : (spec_MirrorWire.l0 k (wrap64 ((l0_1.length : Int) - 1)) a0_0 l0_1 l0_2 a0_0 y143 (([] : List Int))) = some (r1,r2,r3,r4):=by first|(rw [hy143];with_reducible exact H)|(have H2_:=(Option.bind_some _ _).symm.trans H;rw [hy143];with_reducible exact H2_)|(have H2_:=(Option.bind_some _ _).symm.trans H;with_reducible exact H2_)|with_reducible exact H|(rw [hy143];exact H)|exact H
 have Ny143:=Aside0.mk hy143
 clear hy143
 obtain ⟨y146,hy146⟩ : ∃ y_ : List Int,y_ = (([] : List Int)):=⟨_,rfl⟩
 replace H : (spec_MirrorWire.l0 k (wrap64 ((l0_1.length : Int) - 1)) a0_0 l0_1 l0_2 a0_0 y143 y146) = some (r1,r2,r3,r4):=by first|(rw [hy146];with_reducible exact H)|(have H2_:=(Option.bind_some _ _).symm.trans H;rw [hy146];with_reducible exact H2_)|(have H2_:=(Option.bind_some _ _).symm.trans H;with_reducible exact H2_)|with_reducible exact H|(rw [hy146];exact H)|exact H
 have Ny146:=Aside0.mk hy146
 clear hy146
 have H':=Aside0.mk H
 clear H
 go_enter Try.func26,Try.ntmps26
 go_wp2_with (first|((with_reducible refine gate_dst (N:=1) rfl ?_);refine box_event ?hg (N:=1) ?hd (cs:=#[.int .i64 a0_0,.slice A0_1 l0_1.length c0_1,.slice A0_2 l0_2.length c0_2]) (t:=27) ?hr ?_;(case hd=>rfl);(case hg=>rfl);(case hr=>first|(go_simp;done)|(go_simp;rfl));intro gb140 hg w4 hbox hb;have n0_:=Aside0.mk (below_step (by repeat (first|(with_reducible first|exact HB.out|apply below_alloc|apply pw_below_drewN|apply below_drew1)|exact HB.out)) hb);have n1_:=Aside0.mk (hbox);have n2_:=Aside0.mk ((by rw [hg];exact (below_size (by repeat (first|(with_reducible first|exact HB.out|apply below_alloc|apply pw_below_drewN|apply below_drew1)|exact HB.out))) : w.heap.size ≤ gb140));have n3_:=Aside0.mk ((by rw [hg];exact (below_size (by repeat (first|(with_reducible first|exact HB.out|apply below_alloc|apply pw_below_drewN|apply below_drew1)|exact HB.out))) : w.heap.size ≤ gb140));clear HB;have HB:=n0_;have BK140:=n1_;have GW140:=n2_;have GE140:=n3_;clear n0_ n1_ n2_ n3_;clear hb hbox hg)|((with_reducible refine gate_dst (N:=2) rfl ?_);refine box_event ?hg (N:=2) ?hd (cs:=#[.int .i64 0,.slice none 0 0,.slice none 0 0]) (t:=27) ?hr ?_;(case hd=>rfl);(case hg=>rfl);(case hr=>first|(go_simp;done)|(go_simp;rfl));intro gb141 hg w5 hbox hb;have n0_:=Aside0.mk (blk_below (g:=gb140) (o:=.cells #[.int .i64 a0_0,.slice A0_1 l0_1.length c0_1,.slice A0_2 l0_2.length c0_2] 27 (0,0)) (by (with_reducible repeat (first|apply blk_drewN|apply blk_drew|apply blk_alloc));exact BK140.out) hb);have n1_:=Aside0.mk (below_step (by repeat (first|(with_reducible first|exact HB.out|apply below_alloc|apply pw_below_drewN|apply below_drew1|refine below_set ?_ GE140.out)|exact HB.out)) hb);have n2_:=Aside0.mk (hbox);have n3_:=Aside0.mk ((by rw [hg];exact (below_size (by repeat (first|(with_reducible first|exact HB.out|apply below_alloc|apply pw_below_drewN|apply below_drew1|refine below_set ?_ GE140.out)|exact HB.out))) : w.heap.size ≤ gb141));have n4_:=Aside0.mk ((by rw [hg];exact (below_size (by repeat (first|(with_reducible first|exact HB.out|apply below_alloc|apply pw_below_drewN|apply below_drew1|refine below_set ?_ GE140.out)|exact HB.out))) : w.heap.size ≤ gb141));have n5_:=Aside0.mk ((by rw [hg];exact Nat.ne_of_lt (blk_lt (g:=gb140) (by (with_reducible repeat (first|apply blk_drewN|apply blk_drew|apply blk_alloc));exact BK140.out)) : gb140 ≠ gb141));have n6_:=Aside0.mk ((by rw [hg];exact Nat.ne_of_gt (blk_lt (g:=gb140) (by (with_reducible repeat (first|apply blk_drewN|apply blk_drew|apply blk_alloc));exact BK140.out)) : gb141 ≠ gb140));clear BK140;clear HB;have BK140:=n0_;have HB:=n1_;have BK141:=n2_;have GW141:=n3_;have GE141:=n4_;have NB140_141:=n5_;have NB141_140:=n6_;clear n0_ n1_ n2_ n3_ n4_ n5_ n6_;clear hb hbox hg;have hnb6:=NB140_141.out;have hnc6:=NB141_140.out;have hcz7_0 : w5.cell? ⟨gb140,0,none⟩ = some (.int .i64 a0_0):=(blk_cell BK140.out 0).trans rfl;have hcz7_1 : w5.cell? ⟨gb140,1,none⟩ = some (.slice A0_1 l0_1.length c0_1):=(blk_cell BK140.out 1).trans rfl;have hcz7_2 : w5.cell? ⟨gb140,2,none⟩ = some (.slice A0_2 l0_2.length c0_2):=(blk_cell BK140.out 2).trans rfl;have hfz7_0:=blk_frozen BK140.out 0;have hfz7_1:=blk_frozen BK140.out 1;have hfz7_2:=blk_frozen BK140.out 2)|((with_reducible refine gate_callee (f:=40) rfl ?_);refine goesL_ (some 7) rfl rfl Try.func40 (by kernel_rfl) rfl #[.agg #[.int .i64 a0_0,.slice A0_1 l0_1.length c0_1,.slice A0_2 l0_2.length c0_2]] rfl (by (try simp only [List.map_toArray,List.map_cons,List.map_nil]);first|done|rfl|(simp only [List.length_drop,List.length_take];rfl)) ?_;(with_reducible refine (spec_l8Wire.calls k a0_0 _ _ l0_1 _ _ l0_2 true _ ?side1 ?side2 ?side3 ?side4 A2.out).mono ?_);(case side1=>repeat (first|exact (C_below HR0_1.out HB.out)|(with_reducible refine C_alloc ?_ _)|(with_reducible refine C_drewN ?_ _)|(with_reducible refine C_drew ?_)));(case side2=>exact HC0_1.out);(case side3=>repeat (first|exact (C_below HR0_2.out HB.out)|(with_reducible refine C_alloc ?_ _)|(with_reducible refine C_drewN ?_ _)|(with_reducible refine C_drew ?_)));(case side4=>exact HC0_2.out);rintro e w8 ⟨rfl,hb⟩;refine ⟨_,rfl,?_⟩;have n0_:=Aside0.mk (blk_below (g:=gb140) (o:=.cells #[.int .i64 a0_0,.slice A0_1 l0_1.length c0_1,.slice A0_2 l0_2.length c0_2] 27 (0,0)) (by (with_reducible repeat (first|apply blk_drewN|apply blk_drew|apply blk_alloc));exact BK140.out) hb);have n1_:=Aside0.mk (blk_below (g:=gb141) (o:=.cells #[.int .i64 0,.slice none 0 0,.slice none 0 0] 27 (0,0)) (by (with_reducible repeat (first|apply blk_drewN|apply blk_drew|apply blk_alloc));exact BK141.out) hb);have n2_:=Aside0.mk (below_step (by repeat (first|(with_reducible first|exact HB.out|apply below_alloc|apply pw_below_drewN|apply below_drew1|refine below_set ?_ GE140.out|refine below_set ?_ GE141.out)|exact HB.out)) hb);clear BK140;clear BK141;clear HB;have BK140:=n0_;have BK141:=n1_;have HB:=n2_;clear n0_ n1_ n2_;(try clear hb);(try clear hb2);(try clear hk);(try clear hi);have hcz9_0 : w8.cell? ⟨gb140,0,none⟩ = some (.int .i64 a0_0):=(blk_cell BK140.out 0).trans rfl;have hcz9_1 : w8.cell? ⟨gb140,1,none⟩ = some (.slice A0_1 l0_1.length c0_1):=(blk_cell BK140.out 1).trans rfl;have hcz9_2 : w8.cell? ⟨gb140,2,none⟩ = some (.slice A0_2 l0_2.length c0_2):=(blk_cell BK140.out 2).trans rfl;have hfz9_0:=blk_frozen BK140.out 0;have hfz9_1:=blk_frozen BK140.out 1;have hfz9_2:=blk_frozen BK140.out 2)|((with_reducible refine gate_dst (N:=12) rfl ?_);refine R_lit (Kd.int .i64) _ 3 ?hg (N:=12) ?hd (xs:=([] : List Int)) (inner:=[]) (ok:=fun _=>True) (okp:=fun _=>True) ?hr ?hp (fun _ hk=>hk) trivial (Below.refl _ _) (Nat.le_refl _) (by simp) ?_;(case hd=>rfl);(case hg=>rfl);(case hr=>first|(go_simp;done)|(go_simp;rfl));(case hp=>exact (Reps.none _ _));intro v144 w10 ho11 hb hg_ hnew_;clear hg_ hnew_;(first|rw [← Ny143.out] at ho11|(simp only [Int.reduceToNat] at ho11;rw [← Ny143.out] at ho11));have n0_:=Aside0.mk (R_lower ho11 (below_size (by repeat (first|(with_reducible first|exact HB.out|apply below_alloc|apply pw_below_drewN|apply below_drew1|refine below_set ?_ GE140.out|refine below_set ?_ GE141.out)|exact HB.out))));have n1_:=Aside0.mk (blk_below (g:=gb140) (o:=.cells #[.int .i64 a0_0,.slice A0_1 l0_1.length c0_1,.slice A0_2 l0_2.length c0_2] 27 (0,0)) (by (with_reducible repeat (first|apply blk_drewN|apply blk_drew|apply blk_alloc));exact BK140.out) hb);have n2_:=Aside0.mk (blk_below (g:=gb141) (o:=.cells #[.int .i64 0,.slice none 0 0,.slice none 0 0] 27 (0,0)) (by (with_reducible repeat (first|apply blk_drewN|apply blk_drew|apply blk_alloc));exact BK141.out) hb);have n3_:=Aside0.mk (below_step (by repeat (first|(with_reducible first|exact HB.out|apply below_alloc|apply pw_below_drewN|apply below_drew1|refine below_set ?_ GE140.out|refine below_set ?_ GE141.out)|exact HB.out)) hb);clear BK140;clear BK141;clear HB;have HO145:=n0_;have BK140:=n1_;have BK141:=n2_;have HB:=n3_;clear n0_ n1_ n2_ n3_;clear hb ho11)|((with_reducible refine gate_dst (N:=13) rfl ?_);refine R_lit (Kd.int .i64) _ 3 ?hg (N:=13) ?hd (xs:=([] : List Int)) (inner:=[]) (ok:=fun _=>True) (okp:=fun _=>True) ?hr ?hp (fun _ hk=>hk) trivial (Below.refl _ _) (Nat.le_refl _) (by simp) ?_;(case hd=>rfl);(case hg=>rfl);(case hr=>first|(go_simp;done)|(go_simp;rfl));(case hp=>exact (Reps.none _ _));intro v147 w12 ho13 hb hg_ hnew_;clear hg_ hnew_;(first|rw [← Ny146.out] at ho13|(simp only [Int.reduceToNat] at ho13;rw [← Ny146.out] at ho13));have n0_:=Aside0.mk (R_elder' (by (with_reducible repeat (first|apply R_alloc|apply R_drewN|apply R_drew));exact HO145.out) (R_base ho13) hb);have n1_:=Aside0.mk (R_lower (R_new' ho13 (R_lt (by (with_reducible repeat (first|apply R_alloc|apply R_drewN|apply R_drew));exact HO145.out))) (below_size (by repeat (first|(with_reducible first|exact HB.out|apply below_alloc|apply pw_below_drewN|apply below_drew1|refine below_set ?_ GE140.out|refine below_set ?_ GE141.out)|exact HB.out))));have n2_:=Aside0.mk (blk_below (g:=gb140) (o:=.cells #[.int .i64 a0_0,.slice A0_1 l0_1.length c0_1,.slice A0_2 l0_2.length c0_2] 27 (0,0)) (by (with_reducible repeat (first|apply blk_drewN|apply blk_drew|apply blk_alloc));exact BK140.out) hb);have n3_:=Aside0.mk (blk_below (g:=gb141) (o:=.cells #[.int .i64 0,.slice none 0 0,.slice none 0 0] 27 (0,0)) (by (with_reducible repeat (first|apply blk_drewN|apply blk_drew|apply blk_alloc));exact BK141.out) hb);have n4_:=Aside0.mk (below_step (by repeat (first|(with_reducible first|exact HB.out|apply below_alloc|apply pw_below_drewN|apply below_drew1|refine below_set ?_ GE140.out|refine below_set ?_ GE141.out)|exact HB.out)) hb);clear HO145;clear BK140;clear BK141;clear HB;have HO145:=n0_;have HO148:=n1_;have BK140:=n2_;have BK141:=n3_;have HB:=n4_;clear n0_ n1_ n2_ n3_ n4_;clear hb ho13;obtain ⟨Ao14,co14,eo14⟩:=R_slice HO148.out;subst eo14;obtain ⟨Ao15,co15,eo15⟩:=R_slice HO145.out;subst eo15)|((with_reducible refine gate_dst (N:=4) rfl ?_);refine box_event ?hg (N:=4) ?hd (cs:=#[.int .i64 0,.slice none 0 0,.slice none 0 0]) (t:=27) ?hr ?_;(case hd=>rfl);(case hg=>rfl);(case hr=>first|(go_simp;done)|(go_simp;rfl));intro gb149 hg w16 hbox hb;have n0_:=Aside0.mk (R_below (by (with_reducible repeat (first|apply R_alloc|apply R_drewN|apply R_drew));exact HO145.out) hb);have n1_:=Aside0.mk (R_below (by (with_reducible repeat (first|apply R_alloc|apply R_drewN|apply R_drew));exact HO148.out) hb);have n2_:=Aside0.mk (blk_below (g:=gb140) (o:=.cells #[.int .i64 a0_0,.slice A0_1 l0_1.length c0_1,.slice A0_2 l0_2.length c0_2] 27 (0,0)) (by (with_reducible repeat (first|apply blk_drewN|apply blk_drew|apply blk_alloc));exact BK140.out) hb);have n3_:=Aside0.mk (blk_below (g:=gb141) (o:=.cells #[.int .i64 0,.slice none 0 0,.slice none 0 0] 27 (0,0)) (by (with_reducible repeat (first|apply blk_drewN|apply blk_drew|apply blk_alloc));exact BK141.out) hb);have n4_:=Aside0.mk (below_step (by repeat (first|(with_reducible first|exact HB.out|apply below_alloc|apply pw_below_drewN|apply below_drew1|refine below_set ?_ GE140.out|refine below_set ?_ GE141.out)|exact HB.out)) hb);have n5_:=Aside0.mk (hbox);have n6_:=Aside0.mk ((by rw [hg];exact (below_size (by repeat (first|(with_reducible first|exact HB.out|apply below_alloc|apply pw_below_drewN|apply below_drew1|refine below_set ?_ GE140.out|refine below_set ?_ GE141.out)|exact HB.out))) : w.heap.size ≤ gb149));have n7_:=Aside0.mk ((by rw [hg];exact (below_size (by repeat (first|(with_reducible first|exact HB.out|apply below_alloc|apply pw_below_drewN|apply below_drew1|refine below_set ?_ GE140.out|refine below_set ?_ GE141.out)|exact HB.out))) : w.heap.size ≤ gb149));have n8_:=Aside0.mk ((by rw [hg];exact Nat.ne_of_lt (blk_lt (g:=gb140) (by (with_reducible repeat (first|apply blk_drewN|apply blk_drew|apply blk_alloc));exact BK140.out)) : gb140 ≠ gb149));have n9_:=Aside0.mk ((by rw [hg];exact Nat.ne_of_gt (blk_lt (g:=gb140) (by (with_reducible repeat (first|apply blk_drewN|apply blk_drew|apply blk_alloc));exact BK140.out)) : gb149 ≠ gb140));have n10_:=Aside0.mk ((by rw [hg];exact Nat.ne_of_lt (blk_lt (g:=gb141) (by (with_reducible repeat (first|apply blk_drewN|apply blk_drew|apply blk_alloc));exact BK141.out)) : gb141 ≠ gb149));have n11_:=Aside0.mk ((by rw [hg];exact Nat.ne_of_gt (blk_lt (g:=gb141) (by (with_reducible repeat (first|apply blk_drewN|apply blk_drew|apply blk_alloc));exact BK141.out)) : gb149 ≠ gb141));clear HO145;clear HO148;clear BK140;clear BK141;clear HB;have HO145:=n0_;have HO148:=n1_;have BK140:=n2_;have BK141:=n3_;have HB:=n4_;have BK149:=n5_;have GW149:=n6_;have GE149:=n7_;have NB140_149:=n8_;have NB149_140:=n9_;have NB141_149:=n10_;have NB149_141:=n11_;clear n0_ n1_ n2_ n3_ n4_ n5_ n6_ n7_ n8_ n9_ n10_ n11_;clear hb hbox hg;have hnb17:=NB149_140.out;have hnc17:=NB140_149.out;have hnb18:=NB149_141.out;have hnc18:=NB141_149.out;have hcz19_0 : w16.cell? ⟨gb149,0,none⟩ = some (.int .i64 0):=(blk_cell BK149.out 0).trans rfl;have hcz19_1 : w16.cell? ⟨gb149,1,none⟩ = some (.slice none 0 0):=(blk_cell BK149.out 1).trans rfl;have hcz19_2 : w16.cell? ⟨gb149,2,none⟩ = some (.slice none 0 0):=(blk_cell BK149.out 2).trans rfl;have hfz19_0:=blk_frozen BK149.out 0;have hfz19_1:=blk_frozen BK149.out 1;have hfz19_2:=blk_frozen BK149.out 2;have hcz20_0 : w16.cell? ⟨gb140,0,none⟩ = some (.int .i64 a0_0):=(blk_cell BK140.out 0).trans rfl;have hcz20_1 : w16.cell? ⟨gb140,1,none⟩ = some (.slice A0_1 l0_1.length c0_1):=(blk_cell BK140.out 1).trans rfl;have hcz20_2 : w16.cell? ⟨gb140,2,none⟩ = some (.slice A0_2 l0_2.length c0_2):=(blk_cell BK140.out 2).trans rfl;have hfz20_0:=blk_frozen BK140.out 0;have hfz20_1:=blk_frozen BK140.out 1;have hfz20_2:=blk_frozen BK140.out 2))
 go_loopg [5] k (fun kq v5 w'=>∃ (x5_1 : Int) (x150001_1 : List Int) (x150002_1 : List Int) (u150001 : Value) (u150002 : Value),v5 = .int .i64 x5_1 ∧ Aside0 (spec_MirrorWire.l0 kq x5_1 a0_0 l0_1 l0_2 a0_0 x150001_1 x150002_1 = some (r1,r2,r3,r4)) ∧ Aside0 (kq ≤ k) ∧ Aside0 (Kd.R (Kd.int .i64) 3 w' w.heap.size (fun k_=>some k_ ≠ (u150002 : Value).ownBlock) u150001 x150001_1) ∧ Aside0 (Kd.R (Kd.int .i64) 3 w' w.heap.size (fun k_=>some k_ ≠ (u150001 : Value).ownBlock) u150002 x150002_1) ∧ Aside0 (w'.heap[gb140]? = some (.cells #[.int .i64 a0_0,(.slice A0_1 l0_1.length c0_1),(.slice A0_2 l0_2.length c0_2)] 27 (0,0))) ∧ Aside0 (w'.heap[gb141]? = some (.cells #[.int .i64 0,(.slice none 0 0),(.slice none 0 0)] 27 (0,0))) ∧ Aside0 (w'.heap[gb149]? = some (.cells #[.int .i64 a0_0,u150001,u150002] 27 (0,0))) ∧ Aside0 (Below w.heap.size w w'))
 case atStart=>exact ⟨(wrap64 ((l0_1.length : Int) - 1)),(y143),(y146),(.slice Ao15 y143.length co15),(.slice Ao14 y146.length co14),(by first|rfl|(simp;done)|(simp [*];done)),H',⟨Nat.le_refl _⟩,⟨by (with_reducible repeat (first|apply R_alloc|apply R_drewN|apply R_drew));exact R_mono (R_far (p:=⟨gb149,2,none⟩) (R_far (p:=⟨gb149,1,none⟩) (R_far (p:=⟨gb149,0,none⟩) (R_types HO145.out BK149.out (by decide)) (fun _ hk=>hk.2) (.int .i64 a0_0)) (fun _ hk=>hk.2) (.slice Ao15 y143.length co15)) (fun _ hk=>hk.2) (.slice Ao14 y146.length co14)) (fun _ hk=>hk.1.2)⟩,⟨by (with_reducible repeat (first|apply R_alloc|apply R_drewN|apply R_drew));exact R_mono (R_far (p:=⟨gb149,2,none⟩) (R_far (p:=⟨gb149,1,none⟩) (R_far (p:=⟨gb149,0,none⟩) (R_types HO148.out BK149.out (by decide)) (fun _ hk=>hk.2) (.int .i64 a0_0)) (fun _ hk=>hk.2) (.slice Ao15 y143.length co15)) (fun _ hk=>hk.2) (.slice Ao14 y146.length co14)) (fun _ hk=>hk.1.2)⟩,⟨by (with_reducible repeat (first|apply blk_drewN|apply blk_drew|apply blk_alloc));refine blk_far ?_ NB140_149.out _;(with_reducible repeat (first|apply blk_drewN|apply blk_drew|apply blk_alloc));refine blk_far ?_ NB140_149.out _;(with_reducible repeat (first|apply blk_drewN|apply blk_drew|apply blk_alloc));refine blk_far ?_ NB140_149.out _;(with_reducible repeat (first|apply blk_drewN|apply blk_drew|apply blk_alloc));exact BK140.out⟩,⟨by (with_reducible repeat (first|apply blk_drewN|apply blk_drew|apply blk_alloc));refine blk_far ?_ NB141_149.out _;(with_reducible repeat (first|apply blk_drewN|apply blk_drew|apply blk_alloc));refine blk_far ?_ NB141_149.out _;(with_reducible repeat (first|apply blk_drewN|apply blk_drew|apply blk_alloc));refine blk_far ?_ NB141_149.out _;(with_reducible repeat (first|apply blk_drewN|apply blk_drew|apply blk_alloc));exact BK141.out⟩,⟨by (with_reducible repeat (first|apply blk_drewN|apply blk_drew|apply blk_alloc));refine blk_put (cs:=#[.int .i64 a0_0,.slice Ao15 y143.length co15,.slice none 0 0]) ?_ 2 _ rfl;(with_reducible repeat (first|apply blk_drewN|apply blk_drew|apply blk_alloc));refine blk_put (cs:=#[.int .i64 a0_0,.slice none 0 0,.slice none 0 0]) ?_ 1 _ rfl;(with_reducible repeat (first|apply blk_drewN|apply blk_drew|apply blk_alloc));refine blk_put (cs:=#[.int .i64 0,.slice none 0 0,.slice none 0 0]) ?_ 0 _ rfl;(with_reducible repeat (first|apply blk_drewN|apply blk_drew|apply blk_alloc));exact BK149.out⟩,⟨by repeat (first|(with_reducible first|exact HB.out|apply below_alloc|apply pw_below_drewN|apply below_drew1|refine below_set ?_ GE140.out|refine below_set ?_ GE141.out|refine below_set ?_ GE149.out)|exact HB.out)⟩⟩
 clear H'
 try clear c1
 try clear c2
 try clear p2
 try clear c3
 try clear c4
 try clear c6
 try clear p6
 try clear c17
 try clear c18
 try clear hcz19_0
 try clear hcz19_1
 try clear hcz19_2
 try clear hcz20_0
 try clear hcz20_1
 try clear hcz20_2
 try clear hcz7_0
 try clear hcz7_1
 try clear hcz7_2
 try clear hcz9_0
 try clear hcz9_1
 try clear hcz9_2
 try clear hfz19_0
 try clear hfz19_1
 try clear hfz19_2
 try clear hfz20_0
 try clear hfz20_1
 try clear hfz20_2
 try clear hfz7_0
 try clear hfz7_1
 try clear hfz7_2
 try clear hfz9_0
 try clear hfz9_1
 try clear hfz9_2
 obtain ⟨x5_1,x150001_1,x150002_1,u150001,u150002,rfl,HA,HK1,HO_150001,HO_150002,BK140,BK141,BK149,HB⟩:=hrel
 cases gk with
 | zero=>exact absurd HA.out (by simp [spec_MirrorWire.l0])
 | succ k1 =>
  have H:=HA.out
  clear HA
  simp only [spec_MirrorWire.l0] at H
  by_cases c21 : x5_1 ≥ 0
  rotate_left
  ·rw [if_neg c21] at H
   have c21b0 : decide (0 ≤ x5_1) = false:=decide_eq_false c21
   clear c21
   simp only [Option.some.injEq,Prod.mk.injEq] at H
   obtain ⟨rfl,rfl,rfl,rfl⟩:=H
   have hnb36:=NB149_140.out
   have hnc36:=NB140_149.out
   have hnb37:=NB149_141.out
   have hnc37:=NB141_149.out
   have hcz38_0 : wr.cell? ⟨gb149,0,none⟩ = some (.int .i64 a0_0):=(blk_cell BK149.out 0).trans rfl
   have hcz38_1 : wr.cell? ⟨gb149,1,none⟩ = some (u150001):=(blk_cell BK149.out 1).trans rfl
   have hcz38_2 : wr.cell? ⟨gb149,2,none⟩ = some (u150002):=(blk_cell BK149.out 2).trans rfl
   have hfz38_0:=blk_frozen BK149.out 0
   have hfz38_1:=blk_frozen BK149.out 1
   have hfz38_2:=blk_frozen BK149.out 2
   have hnb39:=NB141_140.out
   have hnc39:=NB140_141.out
   have hcz40_0 : wr.cell? ⟨gb141,0,none⟩ = some (.int .i64 0):=(blk_cell BK141.out 0).trans rfl
   have hcz40_1 : wr.cell? ⟨gb141,1,none⟩ = some (.slice none 0 0):=(blk_cell BK141.out 1).trans rfl
   have hcz40_2 : wr.cell? ⟨gb141,2,none⟩ = some (.slice none 0 0):=(blk_cell BK141.out 2).trans rfl
   have hfz40_0:=blk_frozen BK141.out 0
   have hfz40_1:=blk_frozen BK141.out 1
   have hfz40_2:=blk_frozen BK141.out 2
   obtain ⟨Ao41,co41,eo41⟩:=R_slice HO_150001.out
   subst eo41
   obtain ⟨Ao42,co42,eo42⟩:=R_slice HO_150002.out
   subst eo42
   go_wp2
   refine bodyPost_ret (results_ct rfl _ _ gb141 27 #[.int .i64 a0_0,.slice Ao41 x150001_1.length co41,.slice Ao42 x150002_1.length co42] (0,0) _ rfl (by (with_reducible repeat (first|apply blk_drewN|apply blk_drew|apply blk_alloc));refine blk_put (cs:=#[.int .i64 a0_0,.slice Ao41 x150001_1.length co41,.slice none 0 0]) ?_ 2 _ rfl;(with_reducible repeat (first|apply blk_drewN|apply blk_drew|apply blk_alloc));refine blk_put (cs:=#[.int .i64 a0_0,.slice none 0 0,.slice none 0 0]) ?_ 1 _ rfl;(with_reducible repeat (first|apply blk_drewN|apply blk_drew|apply blk_alloc));refine blk_put (cs:=#[.int .i64 0,.slice none 0 0,.slice none 0 0]) ?_ 0 _ rfl;(with_reducible repeat (first|apply blk_drewN|apply blk_drew|apply blk_alloc));exact BK141.out) Try.underlying27 rfl (by kernel_rfl)) rfl ?_
   exact ⟨_,_,by first|rfl|(simp [errW_none,errW_some] <;> rfl)|(simp [*,errW_none,errW_some] <;> rfl),by (with_reducible repeat (first|apply R_alloc|apply R_drewN|apply R_drew));exact R_mono (R_far (p:=⟨gb141,2,none⟩) (R_far (p:=⟨gb141,1,none⟩) (R_far (p:=⟨gb141,0,none⟩) (R_types HO_150001.out BK141.out (by decide)) (fun _ hk=>hk.2) (.int .i64 a0_0)) (fun _ hk=>hk.2) (.slice Ao41 x150001_1.length co41)) (fun _ hk=>hk.2) (.slice Ao42 x150002_1.length co42)) (fun _ hk=>hk.1),by (with_reducible repeat (first|apply R_alloc|apply R_drewN|apply R_drew));exact R_mono (R_far (p:=⟨gb141,2,none⟩) (R_far (p:=⟨gb141,1,none⟩) (R_far (p:=⟨gb141,0,none⟩) (R_types HO_150002.out BK141.out (by decide)) (fun _ hk=>hk.2) (.int .i64 a0_0)) (fun _ hk=>hk.2) (.slice Ao41 x150001_1.length co41)) (fun _ hk=>hk.2) (.slice Ao42 x150002_1.length co42)) (fun _ hk=>hk.1),by repeat (first|(with_reducible first|exact HB.out|apply below_alloc|apply pw_below_drewN|apply below_drew1|refine below_set ?_ GE140.out|refine below_set ?_ GE141.out|refine below_set ?_ GE149.out)|exact HB.out)⟩
  rw [if_pos c21] at H
  have c21b0 : decide (0 ≤ x5_1) = true:=decide_eq_true c21
  clear c21
  by_cases c22 : 0 ≤ x5_1
  rotate_left
  ·rw [if_neg c22] at H
   exact absurd H (by simp)
  rw [if_pos c22] at H
  have c22b0 : decide (0 ≤ x5_1) = true:=decide_eq_true c22
  clear c22
  by_cases c23 : x5_1 < (l0_1.length : Int)
  rotate_left
  ·rw [if_neg c23] at H
   exact absurd H (by simp)
  rw [if_pos c23] at H
  have c23b0 : decide (x5_1 < (l0_1.length : Int)) = true:=decide_eq_true c23
  clear c23
  by_cases c24 : x150001_1.length < 17592186044416
  rotate_left
  ·rw [if_neg c24] at H
   exact absurd H (by simp)
  rw [if_pos c24] at H
  have LMc24:=Aside0.mk c24
  clear c24
  obtain ⟨y151,hy151⟩ : ∃ y_ : List Int,y_ = (x150001_1 ++ [wrap64 (a0_0 - (rd l0_1 x5_1))]):=⟨_,rfl⟩
  replace H : (if x5_1 < (l0_2.length : Int) then (if x150002_1.length < 17592186044416 then (spec_MirrorWire.l0 k1 (wrap64 (x5_1 - 1)) a0_0 l0_1 l0_2 a0_0 y151 (x150002_1 ++ [wrap64 (-(rd l0_2 x5_1))])) else (none)) else (none)) = some (r1,r2,r3,r4):=by first|(rw [hy151];with_reducible exact H)|(have H2_:=(Option.bind_some _ _).symm.trans H;rw [hy151];with_reducible exact H2_)|(have H2_:=(Option.bind_some _ _).symm.trans H;with_reducible exact H2_)|with_reducible exact H|(rw [hy151];exact H)|exact H
  have Ny151:=Aside0.mk hy151
  clear hy151
  by_cases c25 : x5_1 < (l0_2.length : Int)
  rotate_left
  ·rw [if_neg c25] at H
   exact absurd H (by simp)
  rw [if_pos c25] at H
  have c25b0 : decide (x5_1 < (l0_2.length : Int)) = true:=decide_eq_true c25
  clear c25
  by_cases c26 : x150002_1.length < 17592186044416
  rotate_left
  ·rw [if_neg c26] at H
   exact absurd H (by simp)
  rw [if_pos c26] at H
  have LMc26:=Aside0.mk c26
  clear c26
  obtain ⟨y155,hy155⟩ : ∃ y_ : List Int,y_ = (x150002_1 ++ [wrap64 (-(rd l0_2 x5_1))]):=⟨_,rfl⟩
  replace H : (spec_MirrorWire.l0 k1 (wrap64 (x5_1 - 1)) a0_0 l0_1 l0_2 a0_0 y151 y155) = some (r1,r2,r3,r4):=by first|(rw [hy155];with_reducible exact H)|(have H2_:=(Option.bind_some _ _).symm.trans H;rw [hy155];with_reducible exact H2_)|(have H2_:=(Option.bind_some _ _).symm.trans H;with_reducible exact H2_)|with_reducible exact H|(rw [hy155];exact H)|exact H
  have Ny155:=Aside0.mk hy155
  clear hy155
  have H':=Aside0.mk H
  clear H
  try go_wp2
  have n0_:=Aside0.mk (R_drew HO_150001.out)
  have n1_:=Aside0.mk (R_drew HO_150002.out)
  have n2_:=Aside0.mk (blk_drew BK140.out)
  have n3_:=Aside0.mk (blk_drew BK141.out)
  have n4_:=Aside0.mk (blk_drew BK149.out)
  have n5_:=Aside0.mk (below_drew1 HB.out)
  clear HO_150001
  clear HO_150002
  clear BK140
  clear BK141
  clear BK149
  clear HB
  have HO_150001:=n0_
  have HO_150002:=n1_
  have BK140:=n2_
  have BK141:=n3_
  have BK149:=n4_
  have HB:=n5_
  clear n0_ n1_ n2_ n3_ n4_ n5_
  have p150 : 0 ≤ (x5_1 : Int):=of_decide_eq_true (by first|(with_reducible assumption)|assumption)
  have q150 : x5_1 < (l0_1.length : Int):=of_decide_eq_true (by first|(with_reducible assumption)|assumption)
  obtain ⟨ad150,e150,hx150_0⟩:=Kd.at_int HR0_1.out x5_1 p150 q150
  have hw150_0:=hx150_0
  cases e150
  replace hx150_0:=(HB.out.cell (World.block_lt_of_cell? w _ hx150_0)).trans hx150_0
  replace p150:=eq_true p150
  replace q150:=eq_true q150
  refine start_ (n:=14) (S:=fun w'=>w'.cell? ⟨gb149,0,none⟩ = some (.int .i64 a0_0) ∧ w'.cell? ⟨gb149,1,none⟩ = some (u150001) ∧ w'.cell? ⟨gb149,2,none⟩ = some (u150002) ∧ w'.cell? ⟨gb140,0,none⟩ = some (.int .i64 a0_0) ∧ w'.cell? ⟨gb140,1,none⟩ = some (.slice (some ad150) l0_1.length c0_1) ∧ w'.cell? ⟨gb140,2,none⟩ = some (.slice A0_2 l0_2.length c0_2) ∧ w'.cell? (ad150.add (x5_1).toNat) = some (.int .i64 (rd l0_1 x5_1))) (ds:=[13]) #[false,false,false,false,false,false,false,false,false,false,false,false,false,false] (by kernel_rfl) rfl rfl ⟨(blk_cell BK149.out 0).trans rfl,(blk_cell BK149.out 1).trans rfl,(blk_cell BK149.out 2).trans rfl,(blk_cell BK140.out 0).trans rfl,(blk_cell BK140.out 1).trans rfl,(blk_cell BK140.out 2).trans rfl,((HB.out.cell (World.block_lt_of_cell? w _ hw150_0)).trans hw150_0)⟩ (fun hHeld=>?_);refine with_tabW spec_MirrorWire.tab7 spec_MirrorWire.bits7 (fun HT_ HW_=>?_)
  generalize wr.drew = w27 at HO_150001 HO_150002 BK140 BK141 BK149 HB hx150_0 hHeld ⊢
  refine pure_ (i:=0) (N:=some 23) (v:=?_) (a':=?_) #[true,false,false,false,false,false,false,false,false,false,false,false,false,false] rfl rfl (any_of HT_.out (by kernel_rfl)) (fun _ _ _ h=>h) (Or.inl ⟨by rfl,?_⟩) ?_ ?_
  rotate_left
  ·intro w'
   go_simp
   with_reducible rfl
  rotate_left
  ·simp only [Act.put,List.setIfInBounds_toArray,List.set_cons_zero,List.set_cons_succ,i64_w,i32_w]
   rfl
  refine pure_ (i:=2) (N:=some 25) (v:=?_) (a':=?_) #[true,false,true,false,false,false,false,false,false,false,false,false,false,false] rfl rfl (any_of HT_.out (by kernel_rfl)) (fun _ _ _ h=>h) (Or.inl ⟨by rfl,?_⟩) ?_ ?_
  rotate_left
  ·intro w'
   go_simp
   with_reducible rfl
  rotate_left
  ·simp only [Act.put,List.setIfInBounds_toArray,List.set_cons_zero,List.set_cons_succ,i64_w,i32_w]
   rfl
  refine pure_ (i:=4) (N:=some 27) (v:=?_) (a':=?_) #[true,false,true,false,true,false,false,false,false,false,false,false,false,false] rfl rfl (any_of HT_.out (by kernel_rfl)) (fun _ _ _ h=>h) (Or.inl ⟨by rfl,?_⟩) ?_ ?_
  rotate_left
  ·intro w'
   go_simp
   with_reducible rfl
  rotate_left
  ·simp only [Act.put,List.setIfInBounds_toArray,List.set_cons_zero,List.set_cons_succ,i64_w,i32_w]
   rfl
  refine pure_ (i:=6) (N:=some 29) (v:=?_) (a':=?_) #[true,false,true,false,true,false,true,false,false,false,false,false,false,false] rfl rfl (any_of HT_.out (by kernel_rfl)) (fun _ _ _ h=>h) (Or.inl ⟨by rfl,?_⟩) ?_ ?_
  rotate_left
  ·intro w'
   go_simp
   with_reducible rfl
  rotate_left
  ·simp only [Act.put,List.setIfInBounds_toArray,List.set_cons_zero,List.set_cons_succ,i64_w,i32_w]
   rfl
  refine take_ (i:=1) (N:=some 24) (v:=?_) (a':=?_) #[true,true,true,false,true,false,true,false,false,false,false,false,false,false] rfl rfl (take_ofW HT_.out HW_.out (by kernel_rfl)) (fun _ _ _ h=>h) (Or.inl ⟨by rfl,?_⟩) hHeld ?_ ?_
  rotate_left
  ·rintro w' ⟨s0,s1,s2,s3,s4,s5,s6⟩
   go_simp
   with_reducible rfl
  rotate_left
  ·simp only [Act.put,List.setIfInBounds_toArray,List.set_cons_zero,List.set_cons_succ,i64_w,i32_w]
   rfl
  refine take_ (i:=3) (N:=some 26) (v:=?_) (a':=?_) #[true,true,true,true,true,false,true,false,false,false,false,false,false,false] rfl rfl (take_ofW HT_.out HW_.out (by kernel_rfl)) (fun _ _ _ h=>h) (Or.inl ⟨by rfl,?_⟩) hHeld ?_ ?_
  rotate_left
  ·rintro w' ⟨s0,s1,s2,s3,s4,s5,s6⟩
   go_simp
   with_reducible rfl
  rotate_left
  ·simp only [Act.put,List.setIfInBounds_toArray,List.set_cons_zero,List.set_cons_succ,i64_w,i32_w]
   rfl
  refine take_ (i:=5) (N:=some 28) (v:=?_) (a':=?_) #[true,true,true,true,true,true,true,false,false,false,false,false,false,false] rfl rfl (take_ofW HT_.out HW_.out (by kernel_rfl)) (fun _ _ _ h=>h) (Or.inl ⟨by rfl,?_⟩) hHeld ?_ ?_
  rotate_left
  ·rintro w' ⟨s0,s1,s2,s3,s4,s5,s6⟩
   go_simp
   with_reducible rfl
  rotate_left
  ·simp only [Act.put,List.setIfInBounds_toArray,List.set_cons_zero,List.set_cons_succ,i64_w,i32_w]
   rfl
  refine pure_ (i:=7) (N:=some 30) (v:=?_) (a':=?_) #[true,true,true,true,true,true,true,true,false,false,false,false,false,false] rfl rfl (any_of HT_.out (by kernel_rfl)) (fun _ _ _ h=>h) (Or.inl ⟨by rfl,?_⟩) ?_ ?_
  rotate_left
  ·intro w'
   go_simp
   with_reducible rfl
  rotate_left
  ·simp only [Act.put,List.setIfInBounds_toArray,List.set_cons_zero,List.set_cons_succ,i64_w,i32_w]
   rfl
  refine take_ (i:=8) (N:=some 31) (v:=?_) (a':=?_) #[true,true,true,true,true,true,true,true,true,false,false,false,false,false] rfl rfl (take_ofW HT_.out HW_.out (by kernel_rfl)) (fun _ _ _ h=>h) (Or.inl ⟨by rfl,?_⟩) hHeld ?_ ?_
  rotate_left
  ·rintro w' ⟨s0,s1,s2,s3,s4,s5,s6⟩
   go_simp
   with_reducible rfl
  rotate_left
  ·simp only [Act.put,List.setIfInBounds_toArray,List.set_cons_zero,List.set_cons_succ,i64_w,i32_w]
   rfl
  refine pure_ (i:=9) (N:=some 32) (v:=?_) (a':=?_) #[true,true,true,true,true,true,true,true,true,true,false,false,false,false] rfl rfl (any_of HT_.out (by kernel_rfl)) (fun _ _ _ h=>h) (Or.inl ⟨by rfl,?_⟩) ?_ ?_
  rotate_left
  ·intro w'
   go_simp
   with_reducible rfl
  rotate_left
  ·simp only [Act.put,List.setIfInBounds_toArray,List.set_cons_zero,List.set_cons_succ,i64_w,i32_w]
   rfl
  refine one_ (i:=10) (N:=some 33) #[true,true,true,true,true,true,true,true,true,true,true,false,false,false] rfl rfl (one_of HT_.out (by kernel_rfl)) (by decide) (fun K hK=>?_)
  refine value_ (w1:=?_) (v:=?_) (by rfl) rfl ?_ ?_
  rotate_left 2
  ·go_simp
   constructor
   rotate_left
   ·rfl
   rfl
  refine hK.out _ _ ⟨(blk_cell (blk_alloc BK149.out _) 0).trans rfl,(blk_cell (blk_alloc BK149.out _) 1).trans rfl,(blk_cell (blk_alloc BK149.out _) 2).trans rfl,(blk_cell (blk_alloc BK140.out _) 0).trans rfl,(blk_cell (blk_alloc BK140.out _) 1).trans rfl,(blk_cell (blk_alloc BK140.out _) 2).trans rfl,(World.cell?_alloc_lt _ _ _ (World.block_lt_of_cell? _ _ (((HB.out.cell (World.block_lt_of_cell? w _ hw150_0)).trans hw150_0)))).trans (((HB.out.cell (World.block_lt_of_cell? w _ hw150_0)).trans hw150_0))⟩ (fun hHeld=>?_)
  clear hK K
  refine norm_ (a':=?_) ?_ ?_
  rotate_left
  ·show Act.put _ (some 33) _ = _
   simp only [Act.put,List.setIfInBounds_toArray,List.set_cons_zero,List.set_cons_succ,i64_w,i32_w]
   rfl
  refine one_ (i:=11) (N:=some 34) #[true,true,true,true,true,true,true,true,true,true,true,true,false,false] rfl rfl (one_of HT_.out (by kernel_rfl)) (by decide) (fun K hK=>?_)
  refine R_append_step (Kd.int .i64) (w0:=w) w.heap.size (by rfl) (.tmp 24) (.tmp 33) 22 3 (.int .i64 0) 8 rfl Try.underlying22 info3 rfl (by decide) (by omega) u150001 x150001_1 (wrap64 (a0_0 - (rd l0_1 x5_1))) [.int .i64 (wrap64 (a0_0 - (rd l0_1 x5_1)))] (fun k_=>some k_ ≠ (u150002 : Value).ownBlock) (fun _=>False) rfl rfl ?aP (fun _ hk=>hk.elim) ?aF ?aO ?aB ?aS ?aL ?_
  (case aP=>exact rfl)
  (case aB=>exact (by repeat (first|(with_reducible first|exact HB.out|apply below_alloc|apply pw_below_drewN|apply below_drew1|refine below_set ?_ GE140.out|refine below_set ?_ GE141.out|refine below_set ?_ GE149.out)|exact HB.out)))
  (case aF=>exact (fun k_ hk=>Kd.fresh' (R_lt (by (with_reducible repeat (first|apply R_alloc|apply R_drewN|apply R_drew));exact HO_150002.out)) k_ hk))
  (case aO=>exact (by (with_reducible repeat (first|apply R_alloc|apply R_drewN|apply R_drew));exact HO_150001.out))
  (case aS=>exact (below_size (by repeat (first|(with_reducible first|exact HB.out|apply below_alloc|apply pw_below_drewN|apply below_drew1|refine below_set ?_ GE140.out|refine below_set ?_ GE141.out|refine below_set ?_ GE149.out)|exact HB.out))))
  (case aL=>have:=LMc24.out;omega)
  intro v152 w28 ho hb hg hat
  rw [← Ny151.out] at ho
  have n0_:=Aside0.mk (R_after (ok:=(fun _=>True)) (by (with_reducible repeat (first|apply R_alloc|apply R_drewN|apply R_drew));exact R_mono HO_150002.out (fun _ hk=>⟨trivial,hk⟩)) hg hat)
  have n1_:=Aside0.mk (blk_grown (g:=gb140) (o:=.cells #[.int .i64 a0_0,.slice (some ad150) l0_1.length c0_1,.slice A0_2 l0_2.length c0_2] 27 (0,0)) (by (with_reducible repeat (first|apply blk_drewN|apply blk_drew|apply blk_alloc));exact BK140.out) hg (R_ne HO_150001.out BK140.out (by decide)))
  have n2_:=Aside0.mk (blk_grown (g:=gb141) (o:=.cells #[.int .i64 0,.slice none 0 0,.slice none 0 0] 27 (0,0)) (by (with_reducible repeat (first|apply blk_drewN|apply blk_drew|apply blk_alloc));exact BK141.out) hg (R_ne HO_150001.out BK141.out (by decide)))
  have n3_:=Aside0.mk (blk_grown (g:=gb149) (o:=.cells #[.int .i64 a0_0,u150001,u150002] 27 (0,0)) (by (with_reducible repeat (first|apply blk_drewN|apply blk_drew|apply blk_alloc));exact BK149.out) hg (R_ne HO_150001.out BK149.out (by decide)))
  have n4_:=Aside0.mk (hb)
  have n5_:=Aside0.mk (ho)
  clear HO_150002
  clear BK140
  clear BK141
  clear BK149
  clear HB
  clear HO_150001
  have HO_150002:=n0_
  have BK140:=n1_
  have BK141:=n2_
  have BK149:=n3_
  have HB:=n4_
  have HO153:=n5_
  clear n0_ n1_ n2_ n3_ n4_ n5_
  clear ho hb hg hat
  obtain ⟨Ao29,co29,eo29⟩:=R_slice HO153.out
  (first|subst eo29|(injection eo29 with f1_ f2_ f3_;have f4_:=f1_.symm;have f5_:=f3_.symm;clear f1_ f2_ f3_;subst f4_;subst f5_))
  refine hK.out _ _ ⟨(blk_cell BK149.out 0).trans rfl,(blk_cell BK149.out 1).trans rfl,(blk_cell BK149.out 2).trans rfl,(blk_cell BK140.out 0).trans rfl,(blk_cell BK140.out 1).trans rfl,(blk_cell BK140.out 2).trans rfl,((HB.out.cell (World.block_lt_of_cell? w _ hw150_0)).trans hw150_0)⟩ (fun hHeld=>?_)
  clear hK K
  refine norm_ (a':=?_) ?_ ?_
  rotate_left
  ·show Act.put _ (some 34) _ = _
   simp only [Act.put,List.setIfInBounds_toArray,List.set_cons_zero,List.set_cons_succ,i64_w,i32_w]
   rfl
  refine pure_ (i:=12) (N:=some 35) (v:=?_) (a':=?_) #[true,true,true,true,true,true,true,true,true,true,true,true,true,false] rfl rfl (any_of HT_.out (by kernel_rfl)) (fun _ _ _ h=>h) (Or.inl ⟨by rfl,?_⟩) ?_ ?_
  rotate_left
  ·intro w'
   go_simp
   with_reducible rfl
  rotate_left
  ·simp only [Act.put,List.setIfInBounds_toArray,List.set_cons_zero,List.set_cons_succ,i64_w,i32_w]
   rfl
  refine last_ (i:=13) (N:=none) #[true,true,true,true,true,true,true,true,true,true,true,true,true,true] rfl rfl (one_of HT_.out (by kernel_rfl)) (by decide) (fun K hK=>?_)
  have hs30 : w28.cell? ⟨gb149,1,none⟩ = some (u150001):=(blk_cell BK149.out 1).trans rfl
  have hfs30:=blk_frozen BK149.out 1
  have hns30_0:=NB140_149.out
  have hns30_1:=NB141_149.out
  have hms30_0:=NB149_140.out
  have hms30_1:=NB149_141.out
  refine skip_ (w1:=?_) (by rfl) rfl ?_ ?_
  rotate_left
  ·go_simp
   rfl
  refine hK.out _ _ ?_
  clear hK K
  refine done_ (done_of HT_.out (by kernel_rfl)) ?_
  try go_wp2
  have n0_ : Aside0 (Kd.R (Kd.int .i64) 3 (w28.setCell ⟨gb149,1,none⟩ (.slice Ao29 y151.length co29)) w.heap.size (fun k_=>some k_ ≠ (.slice Ao29 y151.length co29 : Value).ownBlock) u150002 x150002_1):=⟨by (with_reducible repeat (first|apply R_alloc|apply R_drewN|apply R_drew));exact R_mono (R_far (p:=⟨gb149,1,none⟩) (R_types HO_150002.out BK149.out (by decide)) (fun _ hk=>hk.2) (.slice Ao29 y151.length co29)) (fun _ hk=>hk.1.2)⟩
  have n1_ : Aside0 (Kd.R (Kd.int .i64) 3 (w28.setCell ⟨gb149,1,none⟩ (.slice Ao29 y151.length co29)) w.heap.size (fun k_=>some k_ ≠ (u150002 : Value).ownBlock) (.slice Ao29 y151.length co29) y151):=⟨by (with_reducible repeat (first|apply R_alloc|apply R_drewN|apply R_drew));exact R_mono (R_far (p:=⟨gb149,1,none⟩) (R_types HO153.out BK149.out (by decide)) (fun _ hk=>hk.2) (.slice Ao29 y151.length co29)) (fun _ hk=>hk.1)⟩
  have n2_ : Aside0 ((w28.setCell ⟨gb149,1,none⟩ (.slice Ao29 y151.length co29)).heap[gb140]? = some (.cells #[.int .i64 a0_0,.slice (some ad150) l0_1.length c0_1,.slice A0_2 l0_2.length c0_2] 27 (0,0))):=⟨by (with_reducible repeat (first|apply blk_drewN|apply blk_drew|apply blk_alloc));refine blk_far ?_ NB140_149.out _;(with_reducible repeat (first|apply blk_drewN|apply blk_drew|apply blk_alloc));exact BK140.out⟩
  have n3_ : Aside0 ((w28.setCell ⟨gb149,1,none⟩ (.slice Ao29 y151.length co29)).heap[gb141]? = some (.cells #[.int .i64 0,.slice none 0 0,.slice none 0 0] 27 (0,0))):=⟨by (with_reducible repeat (first|apply blk_drewN|apply blk_drew|apply blk_alloc));refine blk_far ?_ NB141_149.out _;(with_reducible repeat (first|apply blk_drewN|apply blk_drew|apply blk_alloc));exact BK141.out⟩
  have n4_ : Aside0 ((w28.setCell ⟨gb149,1,none⟩ (.slice Ao29 y151.length co29)).heap[gb149]? = some (.cells #[.int .i64 a0_0,.slice Ao29 y151.length co29,u150002] 27 (0,0))):=⟨by (with_reducible repeat (first|apply blk_drewN|apply blk_drew|apply blk_alloc));refine blk_put (cs:=#[.int .i64 a0_0,u150001,u150002]) ?_ 1 _ rfl;(with_reducible repeat (first|apply blk_drewN|apply blk_drew|apply blk_alloc));exact BK149.out⟩
  have n5_ : Aside0 (Below w.heap.size w (w28.setCell ⟨gb149,1,none⟩ (.slice Ao29 y151.length co29))):=⟨by repeat (first|(with_reducible first|exact HB.out|apply below_alloc|apply pw_below_drewN|apply below_drew1|refine below_set ?_ GE140.out|refine below_set ?_ GE141.out|refine below_set ?_ GE149.out)|exact HB.out)⟩
  (try clear HO_150002)
  (try clear HO153)
  (try clear BK140)
  (try clear BK141)
  (try clear BK149)
  (try clear HB)
  generalize (w28.setCell ⟨gb149,1,none⟩ (.slice Ao29 y151.length co29)) = w31 at n0_ n1_ n2_ n3_ n4_ n5_ ⊢
  have HO_150002:=n0_
  have HO153:=n1_
  have BK140:=n2_
  have BK141:=n3_
  have BK149:=n4_
  have HB:=n5_
  clear n0_ n1_ n2_ n3_ n4_ n5_
  have n0_:=Aside0.mk (R_drew HO_150002.out)
  have n1_:=Aside0.mk (R_drew HO153.out)
  have n2_:=Aside0.mk (blk_drew BK140.out)
  have n3_:=Aside0.mk (blk_drew BK141.out)
  have n4_:=Aside0.mk (blk_drew BK149.out)
  have n5_:=Aside0.mk (below_drew1 HB.out)
  clear HO_150002
  clear HO153
  clear BK140
  clear BK141
  clear BK149
  clear HB
  have HO_150002:=n0_
  have HO153:=n1_
  have BK140:=n2_
  have BK141:=n3_
  have BK149:=n4_
  have HB:=n5_
  clear n0_ n1_ n2_ n3_ n4_ n5_
  have p154 : 0 ≤ (x5_1 : Int):=of_decide_eq_true (by first|(with_reducible assumption)|assumption)
  have q154 : x5_1 < (l0_2.length : Int):=of_decide_eq_true (by first|(with_reducible assumption)|assumption)
  obtain ⟨ad154,e154,hx154_0⟩:=Kd.at_int HR0_2.out x5_1 p154 q154
  have hw154_0:=hx154_0
  cases e154
  replace hx154_0:=(HB.out.cell (World.block_lt_of_cell? w _ hx154_0)).trans hx154_0
  replace p154:=eq_true p154
  replace q154:=eq_true q154
  refine start_ (n:=12) (S:=fun w'=>w'.cell? ⟨gb149,0,none⟩ = some (.int .i64 a0_0) ∧ w'.cell? ⟨gb149,1,none⟩ = some (.slice Ao29 y151.length co29) ∧ w'.cell? ⟨gb149,2,none⟩ = some (u150002) ∧ w'.cell? ⟨gb140,0,none⟩ = some (.int .i64 a0_0) ∧ w'.cell? ⟨gb140,1,none⟩ = some (.slice (some ad150) l0_1.length c0_1) ∧ w'.cell? ⟨gb140,2,none⟩ = some (.slice (some ad154) l0_2.length c0_2) ∧ w'.cell? (ad154.add (x5_1).toNat) = some (.int .i64 (rd l0_2 x5_1))) (ds:=[11]) #[false,false,false,false,false,false,false,false,false,false,false,false] (by kernel_rfl) rfl rfl ⟨(blk_cell BK149.out 0).trans rfl,(blk_cell BK149.out 1).trans rfl,(blk_cell BK149.out 2).trans rfl,(blk_cell BK140.out 0).trans rfl,(blk_cell BK140.out 1).trans rfl,(blk_cell BK140.out 2).trans rfl,((HB.out.cell (World.block_lt_of_cell? w _ hw154_0)).trans hw154_0)⟩ (fun hHeld=>?_);refine with_tabW spec_MirrorWire.tab8 spec_MirrorWire.bits8 (fun HT_ HW_=>?_)
  generalize w31.drew = w32 at HO_150002 HO153 BK140 BK141 BK149 HB hx154_0 hHeld ⊢
  refine pure_ (i:=0) (N:=some 36) (v:=?_) (a':=?_) #[true,false,false,false,false,false,false,false,false,false,false,false] rfl rfl (any_of HT_.out (by kernel_rfl)) (fun _ _ _ h=>h) (Or.inl ⟨by rfl,?_⟩) ?_ ?_
  rotate_left
  ·intro w'
   go_simp
   with_reducible rfl
  rotate_left
  ·simp only [Act.put,List.setIfInBounds_toArray,List.set_cons_zero,List.set_cons_succ,i64_w,i32_w]
   rfl
  refine pure_ (i:=2) (N:=some 38) (v:=?_) (a':=?_) #[true,false,true,false,false,false,false,false,false,false,false,false] rfl rfl (any_of HT_.out (by kernel_rfl)) (fun _ _ _ h=>h) (Or.inl ⟨by rfl,?_⟩) ?_ ?_
  rotate_left
  ·intro w'
   go_simp
   with_reducible rfl
  rotate_left
  ·simp only [Act.put,List.setIfInBounds_toArray,List.set_cons_zero,List.set_cons_succ,i64_w,i32_w]
   rfl
  refine pure_ (i:=4) (N:=some 40) (v:=?_) (a':=?_) #[true,false,true,false,true,false,false,false,false,false,false,false] rfl rfl (any_of HT_.out (by kernel_rfl)) (fun _ _ _ h=>h) (Or.inl ⟨by rfl,?_⟩) ?_ ?_
  rotate_left
  ·intro w'
   go_simp
   with_reducible rfl
  rotate_left
  ·simp only [Act.put,List.setIfInBounds_toArray,List.set_cons_zero,List.set_cons_succ,i64_w,i32_w]
   rfl
  refine take_ (i:=1) (N:=some 37) (v:=?_) (a':=?_) #[true,true,true,false,true,false,false,false,false,false,false,false] rfl rfl (take_ofW HT_.out HW_.out (by kernel_rfl)) (fun _ _ _ h=>h) (Or.inl ⟨by rfl,?_⟩) hHeld ?_ ?_
  rotate_left
  ·rintro w' ⟨s0,s1,s2,s3,s4,s5,s6⟩
   go_simp
   with_reducible rfl
  rotate_left
  ·simp only [Act.put,List.setIfInBounds_toArray,List.set_cons_zero,List.set_cons_succ,i64_w,i32_w]
   rfl
  refine take_ (i:=3) (N:=some 39) (v:=?_) (a':=?_) #[true,true,true,true,true,false,false,false,false,false,false,false] rfl rfl (take_ofW HT_.out HW_.out (by kernel_rfl)) (fun _ _ _ h=>h) (Or.inl ⟨by rfl,?_⟩) hHeld ?_ ?_
  rotate_left
  ·rintro w' ⟨s0,s1,s2,s3,s4,s5,s6⟩
   go_simp
   with_reducible rfl
  rotate_left
  ·simp only [Act.put,List.setIfInBounds_toArray,List.set_cons_zero,List.set_cons_succ,i64_w,i32_w]
   rfl
  refine pure_ (i:=5) (N:=some 41) (v:=?_) (a':=?_) #[true,true,true,true,true,true,false,false,false,false,false,false] rfl rfl (any_of HT_.out (by kernel_rfl)) (fun _ _ _ h=>h) (Or.inl ⟨by rfl,?_⟩) ?_ ?_
  rotate_left
  ·intro w'
   go_simp
   with_reducible rfl
  rotate_left
  ·simp only [Act.put,List.setIfInBounds_toArray,List.set_cons_zero,List.set_cons_succ,i64_w,i32_w]
   rfl
  refine take_ (i:=6) (N:=some 42) (v:=?_) (a':=?_) #[true,true,true,true,true,true,true,false,false,false,false,false] rfl rfl (take_ofW HT_.out HW_.out (by kernel_rfl)) (fun _ _ _ h=>h) (Or.inl ⟨by rfl,?_⟩) hHeld ?_ ?_
  rotate_left
  ·rintro w' ⟨s0,s1,s2,s3,s4,s5,s6⟩
   go_simp
   with_reducible rfl
  rotate_left
  ·simp only [Act.put,List.setIfInBounds_toArray,List.set_cons_zero,List.set_cons_succ,i64_w,i32_w]
   rfl
  refine pure_ (i:=7) (N:=some 43) (v:=?_) (a':=?_) #[true,true,true,true,true,true,true,true,false,false,false,false] rfl rfl (any_of HT_.out (by kernel_rfl)) (fun _ _ _ h=>h) (Or.inl ⟨by rfl,?_⟩) ?_ ?_
  rotate_left
  ·intro w'
   go_simp
   with_reducible rfl
  rotate_left
  ·simp only [Act.put,List.setIfInBounds_toArray,List.set_cons_zero,List.set_cons_succ,i64_w,i32_w]
   rfl
  refine one_ (i:=8) (N:=some 44) #[true,true,true,true,true,true,true,true,true,false,false,false] rfl rfl (one_of HT_.out (by kernel_rfl)) (by decide) (fun K hK=>?_)
  refine value_ (w1:=?_) (v:=?_) (by rfl) rfl ?_ ?_
  rotate_left 2
  ·go_simp
   constructor
   rotate_left
   ·rfl
   rfl
  refine hK.out _ _ ⟨(blk_cell (blk_alloc BK149.out _) 0).trans rfl,(blk_cell (blk_alloc BK149.out _) 1).trans rfl,(blk_cell (blk_alloc BK149.out _) 2).trans rfl,(blk_cell (blk_alloc BK140.out _) 0).trans rfl,(blk_cell (blk_alloc BK140.out _) 1).trans rfl,(blk_cell (blk_alloc BK140.out _) 2).trans rfl,(World.cell?_alloc_lt _ _ _ (World.block_lt_of_cell? _ _ (((HB.out.cell (World.block_lt_of_cell? w _ hw154_0)).trans hw154_0)))).trans (((HB.out.cell (World.block_lt_of_cell? w _ hw154_0)).trans hw154_0))⟩ (fun hHeld=>?_)
  clear hK K
  refine norm_ (a':=?_) ?_ ?_
  rotate_left
  ·show Act.put _ (some 44) _ = _
   simp only [Act.put,List.setIfInBounds_toArray,List.set_cons_zero,List.set_cons_succ,i64_w,i32_w]
   rfl
  refine one_ (i:=9) (N:=some 45) #[true,true,true,true,true,true,true,true,true,true,false,false] rfl rfl (one_of HT_.out (by kernel_rfl)) (by decide) (fun K hK=>?_)
  refine R_append_step (Kd.int .i64) (w0:=w) w.heap.size (by rfl) (.tmp 37) (.tmp 44) 22 3 (.int .i64 0) 8 rfl Try.underlying22 info3 rfl (by decide) (by omega) u150002 x150002_1 (wrap64 (-(rd l0_2 x5_1))) [.int .i64 (wrap64 (-(rd l0_2 x5_1)))] (fun k_=>some k_ ≠ (.slice Ao29 y151.length co29 : Value).ownBlock) (fun _=>False) rfl rfl ?aP (fun _ hk=>hk.elim) ?aF ?aO ?aB ?aS ?aL ?_
  (case aP=>exact rfl)
  (case aB=>exact (by repeat (first|(with_reducible first|exact HB.out|apply below_alloc|apply pw_below_drewN|apply below_drew1|refine below_set ?_ GE140.out|refine below_set ?_ GE141.out|refine below_set ?_ GE149.out)|exact HB.out)))
  (case aF=>exact (fun k_ hk=>Kd.fresh' (R_lt (by (with_reducible repeat (first|apply R_alloc|apply R_drewN|apply R_drew));exact HO153.out)) k_ hk))
  (case aO=>exact (by (with_reducible repeat (first|apply R_alloc|apply R_drewN|apply R_drew));exact HO_150002.out))
  (case aS=>exact (below_size (by repeat (first|(with_reducible first|exact HB.out|apply below_alloc|apply pw_below_drewN|apply below_drew1|refine below_set ?_ GE140.out|refine below_set ?_ GE141.out|refine below_set ?_ GE149.out)|exact HB.out))))
  (case aL=>have:=LMc26.out;omega)
  intro v156 w33 ho hb hg hat
  rw [← Ny155.out] at ho
  have n0_:=Aside0.mk (blk_grown (g:=gb140) (o:=.cells #[.int .i64 a0_0,.slice (some ad150) l0_1.length c0_1,.slice (some ad154) l0_2.length c0_2] 27 (0,0)) (by (with_reducible repeat (first|apply blk_drewN|apply blk_drew|apply blk_alloc));exact BK140.out) hg (R_ne HO_150002.out BK140.out (by decide)))
  have n1_:=Aside0.mk (blk_grown (g:=gb141) (o:=.cells #[.int .i64 0,.slice none 0 0,.slice none 0 0] 27 (0,0)) (by (with_reducible repeat (first|apply blk_drewN|apply blk_drew|apply blk_alloc));exact BK141.out) hg (R_ne HO_150002.out BK141.out (by decide)))
  have n2_:=Aside0.mk (blk_grown (g:=gb149) (o:=.cells #[.int .i64 a0_0,.slice Ao29 y151.length co29,u150002] 27 (0,0)) (by (with_reducible repeat (first|apply blk_drewN|apply blk_drew|apply blk_alloc));exact BK149.out) hg (R_ne HO_150002.out BK149.out (by decide)))
  have n3_:=Aside0.mk (R_after (ok:=(fun _=>True)) (by (with_reducible repeat (first|apply R_alloc|apply R_drewN|apply R_drew));exact R_mono HO153.out (fun _ hk=>⟨trivial,hk⟩)) hg hat)
  have n4_:=Aside0.mk (hb)
  have n5_:=Aside0.mk (ho)
  clear BK140
  clear BK141
  clear BK149
  clear HO153
  clear HB
  clear HO_150002
  have BK140:=n0_
  have BK141:=n1_
  have BK149:=n2_
  have HO153:=n3_
  have HB:=n4_
  have HO157:=n5_
  clear n0_ n1_ n2_ n3_ n4_ n5_
  clear ho hb hg hat
  obtain ⟨Ao34,co34,eo34⟩:=R_slice HO157.out
  (first|subst eo34|(injection eo34 with f1_ f2_ f3_;have f4_:=f1_.symm;have f5_:=f3_.symm;clear f1_ f2_ f3_;subst f4_;subst f5_))
  refine hK.out _ _ ⟨(blk_cell BK149.out 0).trans rfl,(blk_cell BK149.out 1).trans rfl,(blk_cell BK149.out 2).trans rfl,(blk_cell BK140.out 0).trans rfl,(blk_cell BK140.out 1).trans rfl,(blk_cell BK140.out 2).trans rfl,((HB.out.cell (World.block_lt_of_cell? w _ hw154_0)).trans hw154_0)⟩ (fun hHeld=>?_)
  clear hK K
  refine norm_ (a':=?_) ?_ ?_
  rotate_left
  ·show Act.put _ (some 45) _ = _
   simp only [Act.put,List.setIfInBounds_toArray,List.set_cons_zero,List.set_cons_succ,i64_w,i32_w]
   rfl
  refine pure_ (i:=10) (N:=some 46) (v:=?_) (a':=?_) #[true,true,true,true,true,true,true,true,true,true,true,false] rfl rfl (any_of HT_.out (by kernel_rfl)) (fun _ _ _ h=>h) (Or.inl ⟨by rfl,?_⟩) ?_ ?_
  rotate_left
  ·intro w'
   go_simp
   with_reducible rfl
  rotate_left
  ·simp only [Act.put,List.setIfInBounds_toArray,List.set_cons_zero,List.set_cons_succ,i64_w,i32_w]
   rfl
  refine last_ (i:=11) (N:=none) #[true,true,true,true,true,true,true,true,true,true,true,true] rfl rfl (one_of HT_.out (by kernel_rfl)) (by decide) (fun K hK=>?_)
  have hs35 : w33.cell? ⟨gb149,2,none⟩ = some (u150002):=(blk_cell BK149.out 2).trans rfl
  have hfs35:=blk_frozen BK149.out 2
  have hns35_0:=NB140_149.out
  have hns35_1:=NB141_149.out
  have hms35_0:=NB149_140.out
  have hms35_1:=NB149_141.out
  refine skip_ (w1:=?_) (by rfl) rfl ?_ ?_
  rotate_left
  ·go_simp
   rfl
  refine hK.out _ _ ?_
  clear hK K
  refine done_ (done_of HT_.out (by kernel_rfl)) ?_
  try go_wp2
  go_roundg k1
  case measure=>have:=HK1.out;omega
  case rel=>exact ⟨(wrap64 (x5_1 - 1)),(y151),(y155),(.slice Ao29 y151.length co29),(.slice Ao34 y155.length co34),(by first|rfl|(simp;done)|(simp [*];done)),H',⟨by have:=HK1.out;omega⟩,⟨by (with_reducible repeat (first|apply R_alloc|apply R_drewN|apply R_drew));exact R_mono (R_far (p:=⟨gb149,2,none⟩) (R_types HO153.out BK149.out (by decide)) (fun _ hk=>hk.2) (.slice Ao34 y155.length co34)) (fun _ hk=>hk.1.2)⟩,⟨by (with_reducible repeat (first|apply R_alloc|apply R_drewN|apply R_drew));exact R_mono (R_far (p:=⟨gb149,2,none⟩) (R_types HO157.out BK149.out (by decide)) (fun _ hk=>hk.2) (.slice Ao34 y155.length co34)) (fun _ hk=>hk.1)⟩,⟨by (with_reducible repeat (first|apply blk_drewN|apply blk_drew|apply blk_alloc));refine blk_far ?_ NB140_149.out _;(with_reducible repeat (first|apply blk_drewN|apply blk_drew|apply blk_alloc));exact BK140.out⟩,⟨by (with_reducible repeat (first|apply blk_drewN|apply blk_drew|apply blk_alloc));refine blk_far ?_ NB141_149.out _;(with_reducible repeat (first|apply blk_drewN|apply blk_drew|apply blk_alloc));exact BK141.out⟩,⟨by (with_reducible repeat (first|apply blk_drewN|apply blk_drew|apply blk_alloc));refine blk_put (cs:=#[.int .i64 a0_0,.slice Ao29 y151.length co29,u150002]) ?_ 2 _ rfl;(with_reducible repeat (first|apply blk_drewN|apply blk_drew|apply blk_alloc));exact BK149.out⟩,⟨by repeat (first|(with_reducible first|exact HB.out|apply below_alloc|apply pw_below_drewN|apply below_drew1|refine below_set ?_ GE140.out|refine below_set ?_ GE141.out|refine below_set ?_ GE149.out)|exact HB.out)⟩⟩

/-! ### impl_within: function 42 -/
def impl_within.f (a0 : Int) (a1 : Int) (a2 : Int) : Option (Bool):=if a0 ≥ a1 then (some (decide (a0 ≤ a2))) else (some false)
set_option maxHeartbeats 8000000 in
set_option maxRecDepth 100000 in
theorem impl_within.calls (a0 : Int) (a1 : Int) (a2 : Int) (r : Bool) (w : World) (h : impl_within.f a0 a1 a2 = some r) :
  Calls Try.prog 42 #[.int .i64 a0,.int .i64 a1,.int .i64 a2] w fun e w'=>e = .returned (.bool r) ∧ Drawn0 w w':=by
 have H : (if a0 ≥ a1 then (some (decide (a0 ≤ a2))) else (some false)) = some r:=h
 clear h
 by_cases c4 : a0 ≥ a1
 ·rw [if_pos c4] at H
  have c4b0 : decide (a1 ≤ a0) = true:=decide_eq_true c4
  clear c4
  obtain rfl:=Option.some.inj H
  go_enter Try.func42,Try.ntmps42
  go_wp2
  go_ret
  exact ⟨by first|rfl|(simp;done)|(simp [*];done),by repeat (first|exact Drawn0.refl _|apply Drawn0.step)⟩
 rw [if_neg c4] at H
 have c4b0 : decide (a1 ≤ a0) = false:=decide_eq_false c4
 clear c4
 obtain rfl:=Option.some.inj H
 go_enter Try.func42,Try.ntmps42
 go_wp2
 go_ret
 exact ⟨by first|rfl|(simp;done)|(simp [*];done),by repeat (first|exact Drawn0.refl _|apply Drawn0.step)⟩

/-! ### impl_allWithin: function 43 -/
def impl_allWithin.l0 : Nat → Int → Int → List Int → Int → Int → Option (Bool)
 | 0,_,_,_,_,_=>none
 | k + 1,x1,x2,x9,x10,x11=>if x11 < x10 then (if 0 ≤ x11 then (if x11 < (x9.length : Int) then ((impl_within.f (rd x9 x11) x1 x2).bind fun t159=>(if t159 = true then (impl_allWithin.l0 k x1 x2 x9 x10 (wrap64 (x11 + 1))) else (some false))) else (none)) else (none)) else (some true)
def impl_allWithin.f (k : Nat) (l0 : List Int) (a1 : Int) (a2 : Int) : Option (Bool):=impl_allWithin.l0 k a1 a2 l0 (l0.length : Int) 0
theorem impl_allWithin.mono_l : ∀ k,(∀ y0 y1 y2 y3 y4,LeO (impl_allWithin.l0 k y0 y1 y2 y3 y4) (impl_allWithin.l0 (k + 1) y0 y1 y2 y3 y4))
 | 0=>fun _ _ _ _ _ r h=>by simp [impl_allWithin.l0] at h
 | k + 1=>by
  have ih0:=impl_allWithin.mono_l k
  ·intro y0 y1 y2 y3 y4
   unfold impl_allWithin.l0
   repeat' first
   | (with_reducible exact ih0 _ _ _ _ _)
   | (with_reducible exact LeO.refl _)
   | (with_reducible exact LeO.none _)
   | (with_reducible refine LeO.ite ?_ ?_)
   | (with_reducible refine LeO.bind ?_ (fun _=>?_))
   | exact ih0 _ _ _ _ _
   | exact LeO.none _
   | refine LeO.ite ?_ ?_
   | refine LeO.bind ?_ (fun _=>?_)
theorem impl_allWithin.mono : ∀ a0 a1 a2 k,LeO (impl_allWithin.f k a0 a1 a2) (impl_allWithin.f (k + 1) a0 a1 a2):=by
 intro a0 a1 a2 k
 have ih0:=impl_allWithin.mono_l k
 unfold impl_allWithin.f
 repeat' first
   | (with_reducible exact ih0 _ _ _ _ _)
   | (with_reducible exact LeO.refl _)
   | (with_reducible exact LeO.none _)
   | (with_reducible refine LeO.ite ?_ ?_)
   | (with_reducible refine LeO.bind ?_ (fun _=>?_))
   | exact ih0 _ _ _ _ _
   | exact LeO.none _
   | refine LeO.ite ?_ ?_
   | refine LeO.bind ?_ (fun _=>?_)
set_option maxHeartbeats 8000000 in
set_option maxRecDepth 100000 in
theorem impl_allWithin.calls (k : Nat) (A0 : Option Addr) (c0 : Nat) (l0 : List Int) (a1 : Int) (a2 : Int) (r : Bool) (w : World) (hr0 : Kd.C (Kd.int .i64) w A0 l0.length l0) (hc0 : l0.length ≤ c0) (h : impl_allWithin.f k l0 a1 a2 = some r) :
  Calls Try.prog 43 #[.slice A0 l0.length c0,.int .i64 a1,.int .i64 a2] w fun e w'=>e = .returned (.bool r) ∧ Drawn0 w w':=by
 have HR0:=Aside0.mk hr0
 have HC0:=Aside0.mk hc0
 clear hr0 hc0
 have H : (impl_allWithin.l0 k a1 a2 l0 (l0.length : Int) 0) = some r:=h
 clear h
 have H':=Aside0.mk H
 clear H
 go_enter Try.func43,Try.ntmps43
 go_wp2
 go_loopg [11] k (fun kq v11 w'=>∃ (x11_1 : Int),v11 = .int .i64 x11_1 ∧ Aside0 (impl_allWithin.l0 kq a1 a2 l0 (l0.length : Int) x11_1 = some r) ∧ Aside0 (kq ≤ k) ∧ Drawn0 w w')
 case atStart=>exact ⟨(0),(by first|rfl|(simp;done)|(simp [*];done)),H',⟨Nat.le_refl _⟩,by repeat (first|exact Drawn0.refl _|apply Drawn0.step)⟩
 clear H'
 try clear p2
 obtain ⟨x11_1,rfl,HA,HK1,⟨m1,rfl⟩⟩:=hrel
 cases gk with
 | zero=>exact absurd HA.out (by simp [impl_allWithin.l0])
 | succ k1 =>
  have H:=HA.out
  clear HA
  simp only [impl_allWithin.l0] at H
  by_cases c4 : x11_1 < (l0.length : Int)
  rotate_left
  ·rw [if_neg c4] at H
   have c4b0 : decide (x11_1 < (l0.length : Int)) = false:=decide_eq_false c4
   clear c4
   obtain rfl:=Option.some.inj H
   go_wp2
   go_ret
   exact ⟨by first|rfl|(simp;done)|(simp [*];done),by repeat (first|exact Drawn0.refl _|apply Drawn0.step)⟩
  rw [if_pos c4] at H
  have c4b0 : decide (x11_1 < (l0.length : Int)) = true:=decide_eq_true c4
  clear c4
  by_cases c5 : 0 ≤ x11_1
  rotate_left
  ·rw [if_neg c5] at H
   exact absurd H (by simp)
  rw [if_pos c5] at H
  have c5b0 : decide (0 ≤ x11_1) = true:=decide_eq_true c5
  clear c5
  by_cases c6 : x11_1 < (l0.length : Int)
  rotate_left
  ·rw [if_neg c6] at H
   exact absurd H (by simp)
  rw [if_pos c6] at H
  have c6b0 : decide (x11_1 < (l0.length : Int)) = true:=decide_eq_true c6
  clear c6
  replace H:=Option.bind_eq_some_iff.mp H
  obtain ⟨t159,A70,H⟩:=H
  replace H : (if t159 = true then (impl_allWithin.l0 k1 a1 a2 l0 (l0.length : Int) (wrap64 (x11_1 + 1))) else (some false)) = some r:=H
  have A7:=Aside0.mk A70
  clear A70
  by_cases c8 : t159 = true
  rotate_left
  ·replace c8:=Bool.eq_false_iff.mpr c8
   subst c8
   have H1 : (some false) = some r:=by rw [if_neg (show ¬ (false = true) by decide)] at H;exact H
   clear H
   have H:=H1
   clear H1
   obtain rfl:=Option.some.inj H
   have p158 : 0 ≤ (x11_1 : Int):=of_decide_eq_true (by first|(with_reducible assumption)|assumption)
   have q158 : x11_1 < (l0.length : Int):=of_decide_eq_true (by first|(with_reducible assumption)|assumption)
   obtain ⟨ad158,e158,hx158_0⟩:=Kd.at_int HR0.out x11_1 p158 q158
   cases e158
   replace p158:=eq_true p158
   replace q158:=eq_true q158
   go_wp2_with (first|((with_reducible refine gate_callee (f:=42) rfl ?_);refine goesL_ (some 18) rfl rfl Try.func42 (by kernel_rfl) rfl #[.int .i64 (rd l0 x11_1),.int .i64 a1,.int .i64 a2] rfl (by (try simp only [List.map_toArray,List.map_cons,List.map_nil]);first|done|rfl|(simp only [List.length_drop,List.length_take];rfl)) ?_;(with_reducible refine (impl_within.calls (rd l0 x11_1) a1 a2 false _ A7.out).mono ?_);rintro e w' ⟨rfl,⟨nd,rfl⟩⟩;refine ⟨_,rfl,?_⟩))
   go_ret
   exact ⟨by first|rfl|(simp;done)|(simp [*];done),by repeat (first|exact Drawn0.refl _|apply Drawn0.step)⟩
  subst c8
  have H1 : (impl_allWithin.l0 k1 a1 a2 l0 (l0.length : Int) (wrap64 (x11_1 + 1))) = some r:=by rw [if_pos rfl] at H;exact H
  clear H
  have H:=H1
  clear H1
  have H':=Aside0.mk H
  clear H
  have p158 : 0 ≤ (x11_1 : Int):=of_decide_eq_true (by first|(with_reducible assumption)|assumption)
  have q158 : x11_1 < (l0.length : Int):=of_decide_eq_true (by first|(with_reducible assumption)|assumption)
  obtain ⟨ad158,e158,hx158_0⟩:=Kd.at_int HR0.out x11_1 p158 q158
  cases e158
  replace p158:=eq_true p158
  replace q158:=eq_true q158
  go_wp2_with (first|((with_reducible refine gate_callee (f:=42) rfl ?_);refine goesL_ (some 18) rfl rfl Try.func42 (by kernel_rfl) rfl #[.int .i64 (rd l0 x11_1),.int .i64 a1,.int .i64 a2] rfl (by (try simp only [List.map_toArray,List.map_cons,List.map_nil]);first|done|rfl|(simp only [List.length_drop,List.length_take];rfl)) ?_;(with_reducible refine (impl_within.calls (rd l0 x11_1) a1 a2 true _ A7.out).mono ?_);rintro e w' ⟨rfl,⟨nd,rfl⟩⟩;refine ⟨_,rfl,?_⟩))
  go_roundg k1
  case measure=>have:=HK1.out;omega
  case rel=>exact ⟨(wrap64 (x11_1 + 1)),(by first|rfl|(simp;done)|(simp [*];done)),H',⟨by have:=HK1.out;omega⟩,by repeat (first|exact Drawn0.refl _|apply Drawn0.step)⟩


end
end Go.Proofs.Ytciihopkgblpkaa.QFnExactMirrorWire
