/- Functions that the law FnExactRelayArrival comes to, as Lean functions, with the proof that the Go code does what they say: written by a program of this session over the kit's print. No condition but those named. -/
import Derived.Test.YthagkpoinjpmfaaQFnExactRelayArrivalx0
import Derived.Test.YthagkpoinjpmfaaQFnExactRelayArrivalx5
namespace Go.Proofs.Ythagkpoinjpmfaa.QFnExactRelayArrival
open Go.RowKit Go.Proofs.YthagkpoinjpmfaaW.PrintWords Go.Proofs.YthagkpoinjpmfaaW.PrintLast Go.Proofs.YthagkpoinjpmfaaW.PrintMore
attribute [local go_sem] max2_int min2_int max_two min_two max_three min_three max_four min_four   -- for this text's walks alone
set_option linter.unusedVariables false
set_option linter.unusedSimpArgs false

/-! ### impl_Road_areCarriers: function 95 -/
section
open Kd
def impl_Road_areCarriers.l0 : Nat → List (S63) → List (S63) → Int → Int → Int → Bool → Option (Bool)
 | 0,_,_,_,_,_,_=>none
 | k + 1,x1,x7,x8,x9,x199000,x199001=>if x9 < x8 then (if 0 ≤ x9 then (if x9 < (x7.length : Int) then ((impl_Road_has.f k x199000 x199001 (([(rd_T63 x7 x9).f0] : List Int))).bind fun t204=>(if t204 = true then ((impl_within.f ((rd_T63 x7 x9).f1) 0 48).bind fun t205=>(if t205 = true then ((impl_within.f ((rd_T63 x7 x9).f2) 0 20).bind fun t206=>(if t206 = true then (impl_Road_areCarriers.l0 k x1 x7 x8 (wrap64 (x9 + 1)) x199000 x199001) else (some false))) else (some false))) else (some false))) else (none)) else (none)) else (some (decide ((x1.length : Int) ≤ 6)))
def impl_Road_areCarriers.f (k : Nat) (a0_0 : Int) (a0_1 : Bool) (l1 : List (S63)) : Option (Bool):=impl_Road_areCarriers.l0 k l1 l1 (l1.length : Int) 0 a0_0 a0_1
theorem impl_Road_areCarriers.mono_l : ∀ k,(∀ y0 y1 y2 y3 y4 y5,LeO (impl_Road_areCarriers.l0 k y0 y1 y2 y3 y4 y5) (impl_Road_areCarriers.l0 (k + 1) y0 y1 y2 y3 y4 y5))
 | 0=>fun _ _ _ _ _ _ r h=>by simp [impl_Road_areCarriers.l0] at h
 | k + 1=>by
  have ih0:=impl_Road_areCarriers.mono_l k
  ·intro y0 y1 y2 y3 y4 y5
   unfold impl_Road_areCarriers.l0
   repeat' first
   | (with_reducible exact ih0 _ _ _ _ _ _)
   | (with_reducible exact impl_Road_has.mono _ _ _ _)
   | (with_reducible exact LeO.refl _)
   | (with_reducible exact LeO.none _)
   | (with_reducible refine LeO.ite ?_ ?_)
   | (with_reducible refine LeO.bind ?_ (fun _=>?_))
   | exact ih0 _ _ _ _ _ _
   | exact impl_Road_has.mono _ _ _ _
   | exact LeO.none _
   | refine LeO.ite ?_ ?_
   | refine LeO.bind ?_ (fun _=>?_)
theorem impl_Road_areCarriers.mono : ∀ a0 a1 a2 k,LeO (impl_Road_areCarriers.f k a0 a1 a2) (impl_Road_areCarriers.f (k + 1) a0 a1 a2):=by
 intro a0 a1 a2 k
 have ih0:=impl_Road_areCarriers.mono_l k
 unfold impl_Road_areCarriers.f
 repeat' first
   | (with_reducible exact ih0 _ _ _ _ _ _)
   | (with_reducible exact impl_Road_has.mono _ _ _ _)
   | (with_reducible exact LeO.refl _)
   | (with_reducible exact LeO.none _)
   | (with_reducible refine LeO.ite ?_ ?_)
   | (with_reducible refine LeO.bind ?_ (fun _=>?_))
   | exact ih0 _ _ _ _ _ _
   | exact impl_Road_has.mono _ _ _ _
   | exact LeO.none _
   | refine LeO.ite ?_ ?_
   | refine LeO.bind ?_ (fun _=>?_)
set_option maxHeartbeats 8000000 in
set_option maxRecDepth 100000 in
theorem impl_Road_areCarriers.calls (k : Nat) (a0_0 : Int) (a0_1 : Bool) (A1 : Option Addr) (c1 : Nat) (l1 : List (S63)) (r : Bool) (w : World) (hr1 : Kd.C k63 w A1 l1.length l1) (hc1 : l1.length ≤ c1) (h : impl_Road_areCarriers.f k a0_0 a0_1 l1 = some r) :
  Calls Try.prog 95 #[.agg #[.int .i64 a0_0,.bool a0_1],.slice A1 l1.length c1] w fun e w'=>e = .returned (.bool r) ∧ Below w.heap.size w w':=by
 have hu28:=Try.underlying28
 have hu63:=Try.underlying63
 have HR1:=Aside0.mk hr1
 have HC1:=Aside0.mk hc1
 clear hr1 hc1
 have HB:=Aside0.mk (Below.refl w.heap.size w)
 have H : (impl_Road_areCarriers.l0 k l1 l1 (l1.length : Int) 0 a0_0 a0_1) = some r:=h
 clear h
 have H':=Aside0.mk H
 clear H
 go_enter Try.func95,Try.ntmps95
 go_wp2_with (first|((with_reducible refine gate_dst (N:=2) rfl ?_);refine box_event ?hg (N:=2) ?hd (cs:=#[.int .i64 a0_0,.bool a0_1]) (t:=28) ?hr ?_;(case hd=>rfl);(case hg=>rfl);(case hr=>first|(go_simp;done)|(go_simp;rfl));intro gb198 hg w3 hbox hb;have n0_:=Aside0.mk (below_step (by repeat (first|(with_reducible first|exact HB.out|apply below_alloc|apply pw_below_drewN|apply below_drew1)|exact HB.out)) hb);have n1_:=Aside0.mk (hbox);have n2_:=Aside0.mk ((by rw [hg];exact (below_size (by repeat (first|(with_reducible first|exact HB.out|apply below_alloc|apply pw_below_drewN|apply below_drew1)|exact HB.out))) : w.heap.size ≤ gb198));have n3_:=Aside0.mk ((by rw [hg];exact (below_size (by repeat (first|(with_reducible first|exact HB.out|apply below_alloc|apply pw_below_drewN|apply below_drew1)|exact HB.out))) : w.heap.size ≤ gb198));clear HB;have HB:=n0_;have BK198:=n1_;have GW198:=n2_;have GE198:=n3_;clear n0_ n1_ n2_ n3_;clear hb hbox hg))
 go_loopg [9] k (fun kq v9 w'=>∃ (x9_1 : Int),v9 = .int .i64 x9_1 ∧ Aside0 (impl_Road_areCarriers.l0 kq l1 l1 (l1.length : Int) x9_1 a0_0 a0_1 = some r) ∧ Aside0 (kq ≤ k) ∧ Aside0 (w'.heap[gb198]? = some (.cells #[.int .i64 a0_0,.bool a0_1] 28 (0,0))) ∧ Aside0 (Below w.heap.size w w'))
 case atStart=>exact ⟨(0),(by first|rfl|(simp;done)|(simp [*];done)),H',⟨Nat.le_refl _⟩,⟨by (with_reducible repeat (first|apply blk_drewN|apply blk_drew|apply blk_alloc));exact BK198.out⟩,⟨by repeat (first|(with_reducible first|exact HB.out|apply below_alloc|apply pw_below_drewN|apply below_drew1|refine below_set ?_ GE198.out)|exact HB.out)⟩⟩
 clear H'
 try clear c1
 try clear p2
 obtain ⟨x9_1,rfl,HA,HK1,BK198,HB⟩:=hrel
 cases gk with
 | zero=>exact absurd HA.out (by simp [impl_Road_areCarriers.l0])
 | succ k1 =>
  have H:=HA.out
  clear HA
  simp only [impl_Road_areCarriers.l0] at H
  by_cases c4 : x9_1 < (l1.length : Int)
  rotate_left
  ·rw [if_neg c4] at H
   have c4b0 : decide (x9_1 < (l1.length : Int)) = false:=decide_eq_false c4
   clear c4
   obtain rfl:=Option.some.inj H
   go_wp2
   go_ret
   exact ⟨by first|rfl|(simp [errW_none,errW_some] <;> rfl)|(simp [*,errW_none,errW_some] <;> rfl),by repeat (first|(with_reducible first|exact HB.out|apply below_alloc|apply pw_below_drewN|apply below_drew1|refine below_set ?_ GE198.out)|exact HB.out)⟩
  rw [if_pos c4] at H
  have c4b0 : decide (x9_1 < (l1.length : Int)) = true:=decide_eq_true c4
  clear c4
  by_cases c5 : 0 ≤ x9_1
  rotate_left
  ·rw [if_neg c5] at H
   exact absurd H (by simp)
  rw [if_pos c5] at H
  have c5b0 : decide (0 ≤ x9_1) = true:=decide_eq_true c5
  clear c5
  by_cases c6 : x9_1 < (l1.length : Int)
  rotate_left
  ·rw [if_neg c6] at H
   exact absurd H (by simp)
  rw [if_pos c6] at H
  have c6b0 : decide (x9_1 < (l1.length : Int)) = true:=decide_eq_true c6
  clear c6
  obtain ⟨y201,hy201⟩ : ∃ y_ : List Int,y_ = (([(rd_T63 l1 x9_1).f0] : List Int)):=⟨_,rfl⟩
  replace H : ((impl_Road_has.f k1 a0_0 a0_1 y201).bind fun t204=>(if t204 = true then ((impl_within.f ((rd_T63 l1 x9_1).f1) 0 48).bind fun t205=>(if t205 = true then ((impl_within.f ((rd_T63 l1 x9_1).f2) 0 20).bind fun t206=>(if t206 = true then (impl_Road_areCarriers.l0 k1 l1 l1 (l1.length : Int) (wrap64 (x9_1 + 1)) a0_0 a0_1) else (some false))) else (some false))) else (some false))) = some r:=by first|(rw [hy201];with_reducible exact H)|(have H2_:=(Option.bind_some _ _).symm.trans H;rw [hy201];with_reducible exact H2_)|(have H2_:=(Option.bind_some _ _).symm.trans H;with_reducible exact H2_)|with_reducible exact H|(rw [hy201];exact H)|exact H
  have Ny201:=Aside0.mk hy201
  clear hy201
  replace H:=Option.bind_eq_some_iff.mp H
  obtain ⟨t204,A70,H⟩:=H
  replace H : (if t204 = true then ((impl_within.f ((rd_T63 l1 x9_1).f1) 0 48).bind fun t205=>(if t205 = true then ((impl_within.f ((rd_T63 l1 x9_1).f2) 0 20).bind fun t206=>(if t206 = true then (impl_Road_areCarriers.l0 k1 l1 l1 (l1.length : Int) (wrap64 (x9_1 + 1)) a0_0 a0_1) else (some false))) else (some false))) else (some false)) = some r:=H
  have A7:=Aside0.mk A70
  clear A70
  by_cases c8 : t204 = true
  rotate_left
  ·replace c8:=Bool.eq_false_iff.mpr c8
   subst c8
   have H1 : (some false) = some r:=by rw [if_neg (show ¬ (false = true) by decide)] at H;exact H
   clear H
   have H:=H1
   clear H1
   obtain rfl:=Option.some.inj H
   have p199 : 0 ≤ (x9_1 : Int):=of_decide_eq_true (by first|(with_reducible assumption)|assumption)
   have q199 : x9_1 < (l1.length : Int):=of_decide_eq_true (by first|(with_reducible assumption)|assumption)
   obtain ⟨ad199,e199,hx199_0,hx199_1,hx199_2⟩:=at_T63 HR1.out x9_1 p199 q199
   cases e199
   replace hx199_0:=(HB.out.cell (World.block_lt_of_cell? w _ hx199_0)).trans hx199_0
   replace hx199_1:=(HB.out.cell (World.block_lt_of_cell? w _ hx199_1)).trans hx199_1
   replace hx199_2:=(HB.out.cell (World.block_lt_of_cell? w _ hx199_2)).trans hx199_2
   replace p199:=eq_true p199
   replace q199:=eq_true q199
   go_wp2_with (first|((with_reducible refine gate_dst (N:=6) rfl ?_);refine box_event ?hg (N:=6) ?hd (cs:=#[.int .i64 0,.int .i64 0,.int .i64 0]) (t:=63) ?hr ?_;(case hd=>rfl);(case hg=>rfl);(case hr=>first|(go_simp;done)|(go_simp;rfl));intro gb200 hg w40 hbox hb;have n0_:=Aside0.mk (blk_below (g:=gb198) (o:=.cells #[.int .i64 a0_0,.bool a0_1] 28 (0,0)) (by (with_reducible repeat (first|apply blk_drewN|apply blk_drew|apply blk_alloc));exact BK198.out) hb);have n1_:=Aside0.mk (below_step (by repeat (first|(with_reducible first|exact HB.out|apply below_alloc|apply pw_below_drewN|apply below_drew1|refine below_set ?_ GE198.out)|exact HB.out)) hb);have n2_:=Aside0.mk (hbox);have n3_:=Aside0.mk ((by rw [hg];exact (below_size (by repeat (first|(with_reducible first|exact HB.out|apply below_alloc|apply pw_below_drewN|apply below_drew1|refine below_set ?_ GE198.out)|exact HB.out))) : w.heap.size ≤ gb200));have n4_:=Aside0.mk ((by rw [hg];exact (below_size (by repeat (first|(with_reducible first|exact HB.out|apply below_alloc|apply pw_below_drewN|apply below_drew1|refine below_set ?_ GE198.out)|exact HB.out))) : w.heap.size ≤ gb200));have n5_:=Aside0.mk ((by rw [hg];exact Nat.ne_of_lt (blk_lt (g:=gb198) (o:=.cells #[.int .i64 a0_0,.bool a0_1] 28 (0,0)) (by (with_reducible repeat (first|apply blk_drewN|apply blk_drew|apply blk_alloc));exact BK198.out)) : gb198 ≠ gb200));have n6_:=Aside0.mk ((by rw [hg];exact Nat.ne_of_gt (blk_lt (g:=gb198) (o:=.cells #[.int .i64 a0_0,.bool a0_1] 28 (0,0)) (by (with_reducible repeat (first|apply blk_drewN|apply blk_drew|apply blk_alloc));exact BK198.out)) : gb200 ≠ gb198));clear BK198;clear HB;have BK198:=n0_;have HB:=n1_;have BK200:=n2_;have GW200:=n3_;have GE200:=n4_;have NB198_200:=n5_;have NB200_198:=n6_;clear n0_ n1_ n2_ n3_ n4_ n5_ n6_;clear hb hbox hg;have hnb41:=NB200_198.out;have hnc41:=NB198_200.out;have hcz42_0 : w40.cell? ⟨gb200,0,none⟩ = some (.int .i64 0):=(blk_cell BK200.out 0).trans rfl;have hcz42_1 : w40.cell? ⟨gb200,1,none⟩ = some (.int .i64 0):=(blk_cell BK200.out 1).trans rfl;have hcz42_2 : w40.cell? ⟨gb200,2,none⟩ = some (.int .i64 0):=(blk_cell BK200.out 2).trans rfl;have hfz42_0:=blk_frozen BK200.out 0;have hfz42_1:=blk_frozen BK200.out 1;have hfz42_2:=blk_frozen BK200.out 2;have hcz43_0 : w40.cell? ⟨gb198,0,none⟩ = some (.int .i64 a0_0):=(blk_cell BK198.out 0).trans rfl;have hcz43_1 : w40.cell? ⟨gb198,1,none⟩ = some (.bool a0_1):=(blk_cell BK198.out 1).trans rfl;have hfz43_0:=blk_frozen BK198.out 0;have hfz43_1:=blk_frozen BK198.out 1)|((with_reducible refine gate_dst (N:=16) rfl ?_);refine R_lit (Kd.int .i64) _ 3 ?hg (N:=16) ?hd (xs:=([(rd_T63 l1 x9_1).f0] : List Int)) (inner:=[.int .i64 ((rd_T63 l1 x9_1).f0)]) (ok:=fun _=>True) (okp:=fun _=>True) ?hr ?hp (fun _ hk=>hk) trivial (Below.refl _ _) (Nat.le_refl _) (by simp) ?_;(case hd=>rfl);(case hg=>rfl);(case hr=>first|(go_simp;done)|(go_simp;rfl));(case hp=>exact (Reps.one (show Kd.M (Kd.int .i64) _ _ _ ((rd_T63 l1 x9_1).f0) [.int .i64 ((rd_T63 l1 x9_1).f0)] from rfl) (Reps.none _ _)));intro v202 w44 ho45 hb hg_ hnew_;clear hg_ hnew_;(first|rw [← Ny201.out] at ho45|(simp only [Int.reduceToNat] at ho45;rw [← Ny201.out] at ho45));have n0_:=Aside0.mk (R_lower ho45 (below_size (by repeat (first|(with_reducible first|exact HB.out|apply below_alloc|apply pw_below_drewN|apply below_drew1|refine below_set ?_ GE198.out|refine below_set ?_ GE200.out)|exact HB.out))));have n1_:=Aside0.mk (blk_below (g:=gb198) (o:=.cells #[.int .i64 a0_0,.bool a0_1] 28 (0,0)) (by (with_reducible repeat (first|apply blk_drewN|apply blk_drew|apply blk_alloc));refine blk_far ?_ NB198_200.out _;(with_reducible repeat (first|apply blk_drewN|apply blk_drew|apply blk_alloc));refine blk_far ?_ NB198_200.out _;(with_reducible repeat (first|apply blk_drewN|apply blk_drew|apply blk_alloc));refine blk_far ?_ NB198_200.out _;(with_reducible repeat (first|apply blk_drewN|apply blk_drew|apply blk_alloc));exact BK198.out) hb);have n2_:=Aside0.mk (blk_below (g:=gb200) (o:=.cells #[.int .i64 ((rd_T63 l1 x9_1).f0),.int .i64 ((rd_T63 l1 x9_1).f1),.int .i64 ((rd_T63 l1 x9_1).f2)] 63 (0,0)) (by (with_reducible repeat (first|apply blk_drewN|apply blk_drew|apply blk_alloc));refine blk_put (cs:=#[.int .i64 ((rd_T63 l1 x9_1).f0),.int .i64 ((rd_T63 l1 x9_1).f1),.int .i64 0]) ?_ 2 _ rfl;(with_reducible repeat (first|apply blk_drewN|apply blk_drew|apply blk_alloc));refine blk_put (cs:=#[.int .i64 ((rd_T63 l1 x9_1).f0),.int .i64 0,.int .i64 0]) ?_ 1 _ rfl;(with_reducible repeat (first|apply blk_drewN|apply blk_drew|apply blk_alloc));refine blk_put (cs:=#[.int .i64 0,.int .i64 0,.int .i64 0]) ?_ 0 _ rfl;(with_reducible repeat (first|apply blk_drewN|apply blk_drew|apply blk_alloc));exact BK200.out) hb);have n3_:=Aside0.mk (below_step (by repeat (first|(with_reducible first|exact HB.out|apply below_alloc|apply pw_below_drewN|apply below_drew1|refine below_set ?_ GE198.out|refine below_set ?_ GE200.out)|exact HB.out)) hb);clear BK198;clear BK200;clear HB;have HO203:=n0_;have BK198:=n1_;have BK200:=n2_;have HB:=n3_;clear n0_ n1_ n2_ n3_;clear hb ho45;obtain ⟨Ao46,co46,eo46⟩:=R_slice HO203.out;subst eo46)|((with_reducible refine gate_callee (f:=88) rfl ?_);refine goesL_ (some 17) rfl rfl Try.func88 (by kernel_rfl) rfl #[.agg #[.int .i64 a0_0,.bool a0_1],.slice Ao46 y201.length co46] rfl (by (try simp only [List.map_toArray,List.map_cons,List.map_nil]);first|done|rfl|(simp only [List.length_drop,List.length_take];rfl)) ?_;(with_reducible refine (impl_Road_has.calls k1 a0_0 a0_1 _ _ y201 false _ ?side1 ?side2 A7.out).mono ?_);(case side1=>repeat (first|exact (R_reads' HO203.out).2.2|(with_reducible refine C_alloc ?_ _)|(with_reducible refine C_drewN ?_ _)|(with_reducible refine C_drew ?_)));(case side2=>exact (R_reads' HO203.out).2.1);rintro e w47 ⟨rfl,hb⟩;refine ⟨_,rfl,?_⟩;have n0_:=Aside0.mk (R_below (by (with_reducible repeat (first|apply R_alloc|apply R_drewN|apply R_drew));exact HO203.out) hb);have n1_:=Aside0.mk (blk_below (g:=gb198) (o:=.cells #[.int .i64 a0_0,.bool a0_1] 28 (0,0)) (by (with_reducible repeat (first|apply blk_drewN|apply blk_drew|apply blk_alloc));exact BK198.out) hb);have n2_:=Aside0.mk (blk_below (g:=gb200) (o:=.cells #[.int .i64 ((rd_T63 l1 x9_1).f0),.int .i64 ((rd_T63 l1 x9_1).f1),.int .i64 ((rd_T63 l1 x9_1).f2)] 63 (0,0)) (by (with_reducible repeat (first|apply blk_drewN|apply blk_drew|apply blk_alloc));exact BK200.out) hb);have n3_:=Aside0.mk (below_step (by repeat (first|(with_reducible first|exact HB.out|apply below_alloc|apply pw_below_drewN|apply below_drew1|refine below_set ?_ GE198.out|refine below_set ?_ GE200.out)|exact HB.out)) hb);clear HO203;clear BK198;clear BK200;clear HB;have HO203:=n0_;have BK198:=n1_;have BK200:=n2_;have HB:=n3_;clear n0_ n1_ n2_ n3_;(try clear hb);(try clear hb2);(try clear hk);(try clear hi)))
   go_ret
   exact ⟨by first|rfl|(simp [errW_none,errW_some] <;> rfl)|(simp [*,errW_none,errW_some] <;> rfl),by repeat (first|(with_reducible first|exact HB.out|apply below_alloc|apply pw_below_drewN|apply below_drew1|refine below_set ?_ GE198.out|refine below_set ?_ GE200.out)|exact HB.out)⟩
  subst c8
  have H1 : ((impl_within.f ((rd_T63 l1 x9_1).f1) 0 48).bind fun t205=>(if t205 = true then ((impl_within.f ((rd_T63 l1 x9_1).f2) 0 20).bind fun t206=>(if t206 = true then (impl_Road_areCarriers.l0 k1 l1 l1 (l1.length : Int) (wrap64 (x9_1 + 1)) a0_0 a0_1) else (some false))) else (some false))) = some r:=by rw [if_pos rfl] at H;exact H
  clear H
  have H:=H1
  clear H1
  replace H:=Option.bind_eq_some_iff.mp H
  obtain ⟨t205,A90,H⟩:=H
  replace H : (if t205 = true then ((impl_within.f ((rd_T63 l1 x9_1).f2) 0 20).bind fun t206=>(if t206 = true then (impl_Road_areCarriers.l0 k1 l1 l1 (l1.length : Int) (wrap64 (x9_1 + 1)) a0_0 a0_1) else (some false))) else (some false)) = some r:=H
  have A9:=Aside0.mk A90
  clear A90
  by_cases c10 : t205 = true
  rotate_left
  ·replace c10:=Bool.eq_false_iff.mpr c10
   subst c10
   have H1 : (some false) = some r:=by rw [if_neg (show ¬ (false = true) by decide)] at H;exact H
   clear H
   have H:=H1
   clear H1
   obtain rfl:=Option.some.inj H
   have p199 : 0 ≤ (x9_1 : Int):=of_decide_eq_true (by first|(with_reducible assumption)|assumption)
   have q199 : x9_1 < (l1.length : Int):=of_decide_eq_true (by first|(with_reducible assumption)|assumption)
   obtain ⟨ad199,e199,hx199_0,hx199_1,hx199_2⟩:=at_T63 HR1.out x9_1 p199 q199
   cases e199
   replace hx199_0:=(HB.out.cell (World.block_lt_of_cell? w _ hx199_0)).trans hx199_0
   replace hx199_1:=(HB.out.cell (World.block_lt_of_cell? w _ hx199_1)).trans hx199_1
   replace hx199_2:=(HB.out.cell (World.block_lt_of_cell? w _ hx199_2)).trans hx199_2
   replace p199:=eq_true p199
   replace q199:=eq_true q199
   go_wp2_with (first|((with_reducible refine gate_dst (N:=6) rfl ?_);refine box_event ?hg (N:=6) ?hd (cs:=#[.int .i64 0,.int .i64 0,.int .i64 0]) (t:=63) ?hr ?_;(case hd=>rfl);(case hg=>rfl);(case hr=>first|(go_simp;done)|(go_simp;rfl));intro gb200 hg w31 hbox hb;have n0_:=Aside0.mk (blk_below (g:=gb198) (o:=.cells #[.int .i64 a0_0,.bool a0_1] 28 (0,0)) (by (with_reducible repeat (first|apply blk_drewN|apply blk_drew|apply blk_alloc));exact BK198.out) hb);have n1_:=Aside0.mk (below_step (by repeat (first|(with_reducible first|exact HB.out|apply below_alloc|apply pw_below_drewN|apply below_drew1|refine below_set ?_ GE198.out)|exact HB.out)) hb);have n2_:=Aside0.mk (hbox);have n3_:=Aside0.mk ((by rw [hg];exact (below_size (by repeat (first|(with_reducible first|exact HB.out|apply below_alloc|apply pw_below_drewN|apply below_drew1|refine below_set ?_ GE198.out)|exact HB.out))) : w.heap.size ≤ gb200));have n4_:=Aside0.mk ((by rw [hg];exact (below_size (by repeat (first|(with_reducible first|exact HB.out|apply below_alloc|apply pw_below_drewN|apply below_drew1|refine below_set ?_ GE198.out)|exact HB.out))) : w.heap.size ≤ gb200));have n5_:=Aside0.mk ((by rw [hg];exact Nat.ne_of_lt (blk_lt (g:=gb198) (o:=.cells #[.int .i64 a0_0,.bool a0_1] 28 (0,0)) (by (with_reducible repeat (first|apply blk_drewN|apply blk_drew|apply blk_alloc));exact BK198.out)) : gb198 ≠ gb200));have n6_:=Aside0.mk ((by rw [hg];exact Nat.ne_of_gt (blk_lt (g:=gb198) (o:=.cells #[.int .i64 a0_0,.bool a0_1] 28 (0,0)) (by (with_reducible repeat (first|apply blk_drewN|apply blk_drew|apply blk_alloc));exact BK198.out)) : gb200 ≠ gb198));clear BK198;clear HB;have BK198:=n0_;have HB:=n1_;have BK200:=n2_;have GW200:=n3_;have GE200:=n4_;have NB198_200:=n5_;have NB200_198:=n6_;clear n0_ n1_ n2_ n3_ n4_ n5_ n6_;clear hb hbox hg;have hnb32:=NB200_198.out;have hnc32:=NB198_200.out;have hcz33_0 : w31.cell? ⟨gb200,0,none⟩ = some (.int .i64 0):=(blk_cell BK200.out 0).trans rfl;have hcz33_1 : w31.cell? ⟨gb200,1,none⟩ = some (.int .i64 0):=(blk_cell BK200.out 1).trans rfl;have hcz33_2 : w31.cell? ⟨gb200,2,none⟩ = some (.int .i64 0):=(blk_cell BK200.out 2).trans rfl;have hfz33_0:=blk_frozen BK200.out 0;have hfz33_1:=blk_frozen BK200.out 1;have hfz33_2:=blk_frozen BK200.out 2;have hcz34_0 : w31.cell? ⟨gb198,0,none⟩ = some (.int .i64 a0_0):=(blk_cell BK198.out 0).trans rfl;have hcz34_1 : w31.cell? ⟨gb198,1,none⟩ = some (.bool a0_1):=(blk_cell BK198.out 1).trans rfl;have hfz34_0:=blk_frozen BK198.out 0;have hfz34_1:=blk_frozen BK198.out 1)|((with_reducible refine gate_dst (N:=16) rfl ?_);refine R_lit (Kd.int .i64) _ 3 ?hg (N:=16) ?hd (xs:=([(rd_T63 l1 x9_1).f0] : List Int)) (inner:=[.int .i64 ((rd_T63 l1 x9_1).f0)]) (ok:=fun _=>True) (okp:=fun _=>True) ?hr ?hp (fun _ hk=>hk) trivial (Below.refl _ _) (Nat.le_refl _) (by simp) ?_;(case hd=>rfl);(case hg=>rfl);(case hr=>first|(go_simp;done)|(go_simp;rfl));(case hp=>exact (Reps.one (show Kd.M (Kd.int .i64) _ _ _ ((rd_T63 l1 x9_1).f0) [.int .i64 ((rd_T63 l1 x9_1).f0)] from rfl) (Reps.none _ _)));intro v202 w35 ho36 hb hg_ hnew_;clear hg_ hnew_;(first|rw [← Ny201.out] at ho36|(simp only [Int.reduceToNat] at ho36;rw [← Ny201.out] at ho36));have n0_:=Aside0.mk (R_lower ho36 (below_size (by repeat (first|(with_reducible first|exact HB.out|apply below_alloc|apply pw_below_drewN|apply below_drew1|refine below_set ?_ GE198.out|refine below_set ?_ GE200.out)|exact HB.out))));have n1_:=Aside0.mk (blk_below (g:=gb198) (o:=.cells #[.int .i64 a0_0,.bool a0_1] 28 (0,0)) (by (with_reducible repeat (first|apply blk_drewN|apply blk_drew|apply blk_alloc));refine blk_far ?_ NB198_200.out _;(with_reducible repeat (first|apply blk_drewN|apply blk_drew|apply blk_alloc));refine blk_far ?_ NB198_200.out _;(with_reducible repeat (first|apply blk_drewN|apply blk_drew|apply blk_alloc));refine blk_far ?_ NB198_200.out _;(with_reducible repeat (first|apply blk_drewN|apply blk_drew|apply blk_alloc));exact BK198.out) hb);have n2_:=Aside0.mk (blk_below (g:=gb200) (o:=.cells #[.int .i64 ((rd_T63 l1 x9_1).f0),.int .i64 ((rd_T63 l1 x9_1).f1),.int .i64 ((rd_T63 l1 x9_1).f2)] 63 (0,0)) (by (with_reducible repeat (first|apply blk_drewN|apply blk_drew|apply blk_alloc));refine blk_put (cs:=#[.int .i64 ((rd_T63 l1 x9_1).f0),.int .i64 ((rd_T63 l1 x9_1).f1),.int .i64 0]) ?_ 2 _ rfl;(with_reducible repeat (first|apply blk_drewN|apply blk_drew|apply blk_alloc));refine blk_put (cs:=#[.int .i64 ((rd_T63 l1 x9_1).f0),.int .i64 0,.int .i64 0]) ?_ 1 _ rfl;(with_reducible repeat (first|apply blk_drewN|apply blk_drew|apply blk_alloc));refine blk_put (cs:=#[.int .i64 0,.int .i64 0,.int .i64 0]) ?_ 0 _ rfl;(with_reducible repeat (first|apply blk_drewN|apply blk_drew|apply blk_alloc));exact BK200.out) hb);have n3_:=Aside0.mk (below_step (by repeat (first|(with_reducible first|exact HB.out|apply below_alloc|apply pw_below_drewN|apply below_drew1|refine below_set ?_ GE198.out|refine below_set ?_ GE200.out)|exact HB.out)) hb);clear BK198;clear BK200;clear HB;have HO203:=n0_;have BK198:=n1_;have BK200:=n2_;have HB:=n3_;clear n0_ n1_ n2_ n3_;clear hb ho36;obtain ⟨Ao37,co37,eo37⟩:=R_slice HO203.out;subst eo37)|((with_reducible refine gate_callee (f:=88) rfl ?_);refine goesL_ (some 17) rfl rfl Try.func88 (by kernel_rfl) rfl #[.agg #[.int .i64 a0_0,.bool a0_1],.slice Ao37 y201.length co37] rfl (by (try simp only [List.map_toArray,List.map_cons,List.map_nil]);first|done|rfl|(simp only [List.length_drop,List.length_take];rfl)) ?_;(with_reducible refine (impl_Road_has.calls k1 a0_0 a0_1 _ _ y201 true _ ?side1 ?side2 A7.out).mono ?_);(case side1=>repeat (first|exact (R_reads' HO203.out).2.2|(with_reducible refine C_alloc ?_ _)|(with_reducible refine C_drewN ?_ _)|(with_reducible refine C_drew ?_)));(case side2=>exact (R_reads' HO203.out).2.1);rintro e w38 ⟨rfl,hb⟩;refine ⟨_,rfl,?_⟩;have n0_:=Aside0.mk (R_below (by (with_reducible repeat (first|apply R_alloc|apply R_drewN|apply R_drew));exact HO203.out) hb);have n1_:=Aside0.mk (blk_below (g:=gb198) (o:=.cells #[.int .i64 a0_0,.bool a0_1] 28 (0,0)) (by (with_reducible repeat (first|apply blk_drewN|apply blk_drew|apply blk_alloc));exact BK198.out) hb);have n2_:=Aside0.mk (blk_below (g:=gb200) (o:=.cells #[.int .i64 ((rd_T63 l1 x9_1).f0),.int .i64 ((rd_T63 l1 x9_1).f1),.int .i64 ((rd_T63 l1 x9_1).f2)] 63 (0,0)) (by (with_reducible repeat (first|apply blk_drewN|apply blk_drew|apply blk_alloc));exact BK200.out) hb);have n3_:=Aside0.mk (below_step (by repeat (first|(with_reducible first|exact HB.out|apply below_alloc|apply pw_below_drewN|apply below_drew1|refine below_set ?_ GE198.out|refine below_set ?_ GE200.out)|exact HB.out)) hb);clear HO203;clear BK198;clear BK200;clear HB;have HO203:=n0_;have BK198:=n1_;have BK200:=n2_;have HB:=n3_;clear n0_ n1_ n2_ n3_;(try clear hb);(try clear hb2);(try clear hk);(try clear hi);have hcz39_0 : w38.cell? ⟨gb200,0,none⟩ = some (.int .i64 ((rd_T63 l1 x9_1).f0)):=(blk_cell BK200.out 0).trans rfl;have hcz39_1 : w38.cell? ⟨gb200,1,none⟩ = some (.int .i64 ((rd_T63 l1 x9_1).f1)):=(blk_cell BK200.out 1).trans rfl;have hcz39_2 : w38.cell? ⟨gb200,2,none⟩ = some (.int .i64 ((rd_T63 l1 x9_1).f2)):=(blk_cell BK200.out 2).trans rfl;have hfz39_0:=blk_frozen BK200.out 0;have hfz39_1:=blk_frozen BK200.out 1;have hfz39_2:=blk_frozen BK200.out 2)|(go_at_call 105;(with_reducible refine (impl_within.calls ((rd_T63 l1 x9_1).f1) 0 48 false _ A9.out).mono ?_);rintro e w' ⟨rfl,⟨nd,rfl⟩⟩))
   go_ret
   exact ⟨by first|rfl|(simp [errW_none,errW_some] <;> rfl)|(simp [*,errW_none,errW_some] <;> rfl),by repeat (first|(with_reducible first|exact HB.out|apply below_alloc|apply pw_below_drewN|apply below_drew1|refine below_set ?_ GE198.out|refine below_set ?_ GE200.out)|exact HB.out)⟩
  subst c10
  have H1 : ((impl_within.f ((rd_T63 l1 x9_1).f2) 0 20).bind fun t206=>(if t206 = true then (impl_Road_areCarriers.l0 k1 l1 l1 (l1.length : Int) (wrap64 (x9_1 + 1)) a0_0 a0_1) else (some false))) = some r:=by rw [if_pos rfl] at H;exact H
  clear H
  have H:=H1
  clear H1
  replace H:=Option.bind_eq_some_iff.mp H
  obtain ⟨t206,A110,H⟩:=H
  replace H : (if t206 = true then (impl_Road_areCarriers.l0 k1 l1 l1 (l1.length : Int) (wrap64 (x9_1 + 1)) a0_0 a0_1) else (some false)) = some r:=H
  have A11:=Aside0.mk A110
  clear A110
  by_cases c12 : t206 = true
  rotate_left
  ·replace c12:=Bool.eq_false_iff.mpr c12
   subst c12
   have H1 : (some false) = some r:=by rw [if_neg (show ¬ (false = true) by decide)] at H;exact H
   clear H
   have H:=H1
   clear H1
   obtain rfl:=Option.some.inj H
   have p199 : 0 ≤ (x9_1 : Int):=of_decide_eq_true (by first|(with_reducible assumption)|assumption)
   have q199 : x9_1 < (l1.length : Int):=of_decide_eq_true (by first|(with_reducible assumption)|assumption)
   obtain ⟨ad199,e199,hx199_0,hx199_1,hx199_2⟩:=at_T63 HR1.out x9_1 p199 q199
   cases e199
   replace hx199_0:=(HB.out.cell (World.block_lt_of_cell? w _ hx199_0)).trans hx199_0
   replace hx199_1:=(HB.out.cell (World.block_lt_of_cell? w _ hx199_1)).trans hx199_1
   replace hx199_2:=(HB.out.cell (World.block_lt_of_cell? w _ hx199_2)).trans hx199_2
   replace p199:=eq_true p199
   replace q199:=eq_true q199
   go_wp2_with (first|((with_reducible refine gate_dst (N:=6) rfl ?_);refine box_event ?hg (N:=6) ?hd (cs:=#[.int .i64 0,.int .i64 0,.int .i64 0]) (t:=63) ?hr ?_;(case hd=>rfl);(case hg=>rfl);(case hr=>first|(go_simp;done)|(go_simp;rfl));intro gb200 hg w22 hbox hb;have n0_:=Aside0.mk (blk_below (g:=gb198) (o:=.cells #[.int .i64 a0_0,.bool a0_1] 28 (0,0)) (by (with_reducible repeat (first|apply blk_drewN|apply blk_drew|apply blk_alloc));exact BK198.out) hb);have n1_:=Aside0.mk (below_step (by repeat (first|(with_reducible first|exact HB.out|apply below_alloc|apply pw_below_drewN|apply below_drew1|refine below_set ?_ GE198.out)|exact HB.out)) hb);have n2_:=Aside0.mk (hbox);have n3_:=Aside0.mk ((by rw [hg];exact (below_size (by repeat (first|(with_reducible first|exact HB.out|apply below_alloc|apply pw_below_drewN|apply below_drew1|refine below_set ?_ GE198.out)|exact HB.out))) : w.heap.size ≤ gb200));have n4_:=Aside0.mk ((by rw [hg];exact (below_size (by repeat (first|(with_reducible first|exact HB.out|apply below_alloc|apply pw_below_drewN|apply below_drew1|refine below_set ?_ GE198.out)|exact HB.out))) : w.heap.size ≤ gb200));have n5_:=Aside0.mk ((by rw [hg];exact Nat.ne_of_lt (blk_lt (g:=gb198) (o:=.cells #[.int .i64 a0_0,.bool a0_1] 28 (0,0)) (by (with_reducible repeat (first|apply blk_drewN|apply blk_drew|apply blk_alloc));exact BK198.out)) : gb198 ≠ gb200));have n6_:=Aside0.mk ((by rw [hg];exact Nat.ne_of_gt (blk_lt (g:=gb198) (o:=.cells #[.int .i64 a0_0,.bool a0_1] 28 (0,0)) (by (with_reducible repeat (first|apply blk_drewN|apply blk_drew|apply blk_alloc));exact BK198.out)) : gb200 ≠ gb198));clear BK198;clear HB;have BK198:=n0_;have HB:=n1_;have BK200:=n2_;have GW200:=n3_;have GE200:=n4_;have NB198_200:=n5_;have NB200_198:=n6_;clear n0_ n1_ n2_ n3_ n4_ n5_ n6_;clear hb hbox hg;have hnb23:=NB200_198.out;have hnc23:=NB198_200.out;have hcz24_0 : w22.cell? ⟨gb200,0,none⟩ = some (.int .i64 0):=(blk_cell BK200.out 0).trans rfl;have hcz24_1 : w22.cell? ⟨gb200,1,none⟩ = some (.int .i64 0):=(blk_cell BK200.out 1).trans rfl;have hcz24_2 : w22.cell? ⟨gb200,2,none⟩ = some (.int .i64 0):=(blk_cell BK200.out 2).trans rfl;have hfz24_0:=blk_frozen BK200.out 0;have hfz24_1:=blk_frozen BK200.out 1;have hfz24_2:=blk_frozen BK200.out 2;have hcz25_0 : w22.cell? ⟨gb198,0,none⟩ = some (.int .i64 a0_0):=(blk_cell BK198.out 0).trans rfl;have hcz25_1 : w22.cell? ⟨gb198,1,none⟩ = some (.bool a0_1):=(blk_cell BK198.out 1).trans rfl;have hfz25_0:=blk_frozen BK198.out 0;have hfz25_1:=blk_frozen BK198.out 1)|((with_reducible refine gate_dst (N:=16) rfl ?_);refine R_lit (Kd.int .i64) _ 3 ?hg (N:=16) ?hd (xs:=([(rd_T63 l1 x9_1).f0] : List Int)) (inner:=[.int .i64 ((rd_T63 l1 x9_1).f0)]) (ok:=fun _=>True) (okp:=fun _=>True) ?hr ?hp (fun _ hk=>hk) trivial (Below.refl _ _) (Nat.le_refl _) (by simp) ?_;(case hd=>rfl);(case hg=>rfl);(case hr=>first|(go_simp;done)|(go_simp;rfl));(case hp=>exact (Reps.one (show Kd.M (Kd.int .i64) _ _ _ ((rd_T63 l1 x9_1).f0) [.int .i64 ((rd_T63 l1 x9_1).f0)] from rfl) (Reps.none _ _)));intro v202 w26 ho27 hb hg_ hnew_;clear hg_ hnew_;(first|rw [← Ny201.out] at ho27|(simp only [Int.reduceToNat] at ho27;rw [← Ny201.out] at ho27));have n0_:=Aside0.mk (R_lower ho27 (below_size (by repeat (first|(with_reducible first|exact HB.out|apply below_alloc|apply pw_below_drewN|apply below_drew1|refine below_set ?_ GE198.out|refine below_set ?_ GE200.out)|exact HB.out))));have n1_:=Aside0.mk (blk_below (g:=gb198) (o:=.cells #[.int .i64 a0_0,.bool a0_1] 28 (0,0)) (by (with_reducible repeat (first|apply blk_drewN|apply blk_drew|apply blk_alloc));refine blk_far ?_ NB198_200.out _;(with_reducible repeat (first|apply blk_drewN|apply blk_drew|apply blk_alloc));refine blk_far ?_ NB198_200.out _;(with_reducible repeat (first|apply blk_drewN|apply blk_drew|apply blk_alloc));refine blk_far ?_ NB198_200.out _;(with_reducible repeat (first|apply blk_drewN|apply blk_drew|apply blk_alloc));exact BK198.out) hb);have n2_:=Aside0.mk (blk_below (g:=gb200) (o:=.cells #[.int .i64 ((rd_T63 l1 x9_1).f0),.int .i64 ((rd_T63 l1 x9_1).f1),.int .i64 ((rd_T63 l1 x9_1).f2)] 63 (0,0)) (by (with_reducible repeat (first|apply blk_drewN|apply blk_drew|apply blk_alloc));refine blk_put (cs:=#[.int .i64 ((rd_T63 l1 x9_1).f0),.int .i64 ((rd_T63 l1 x9_1).f1),.int .i64 0]) ?_ 2 _ rfl;(with_reducible repeat (first|apply blk_drewN|apply blk_drew|apply blk_alloc));refine blk_put (cs:=#[.int .i64 ((rd_T63 l1 x9_1).f0),.int .i64 0,.int .i64 0]) ?_ 1 _ rfl;(with_reducible repeat (first|apply blk_drewN|apply blk_drew|apply blk_alloc));refine blk_put (cs:=#[.int .i64 0,.int .i64 0,.int .i64 0]) ?_ 0 _ rfl;(with_reducible repeat (first|apply blk_drewN|apply blk_drew|apply blk_alloc));exact BK200.out) hb);have n3_:=Aside0.mk (below_step (by repeat (first|(with_reducible first|exact HB.out|apply below_alloc|apply pw_below_drewN|apply below_drew1|refine below_set ?_ GE198.out|refine below_set ?_ GE200.out)|exact HB.out)) hb);clear BK198;clear BK200;clear HB;have HO203:=n0_;have BK198:=n1_;have BK200:=n2_;have HB:=n3_;clear n0_ n1_ n2_ n3_;clear hb ho27;obtain ⟨Ao28,co28,eo28⟩:=R_slice HO203.out;subst eo28)|((with_reducible refine gate_callee (f:=88) rfl ?_);refine goesL_ (some 17) rfl rfl Try.func88 (by kernel_rfl) rfl #[.agg #[.int .i64 a0_0,.bool a0_1],.slice Ao28 y201.length co28] rfl (by (try simp only [List.map_toArray,List.map_cons,List.map_nil]);first|done|rfl|(simp only [List.length_drop,List.length_take];rfl)) ?_;(with_reducible refine (impl_Road_has.calls k1 a0_0 a0_1 _ _ y201 true _ ?side1 ?side2 A7.out).mono ?_);(case side1=>repeat (first|exact (R_reads' HO203.out).2.2|(with_reducible refine C_alloc ?_ _)|(with_reducible refine C_drewN ?_ _)|(with_reducible refine C_drew ?_)));(case side2=>exact (R_reads' HO203.out).2.1);rintro e w29 ⟨rfl,hb⟩;refine ⟨_,rfl,?_⟩;have n0_:=Aside0.mk (R_below (by (with_reducible repeat (first|apply R_alloc|apply R_drewN|apply R_drew));exact HO203.out) hb);have n1_:=Aside0.mk (blk_below (g:=gb198) (o:=.cells #[.int .i64 a0_0,.bool a0_1] 28 (0,0)) (by (with_reducible repeat (first|apply blk_drewN|apply blk_drew|apply blk_alloc));exact BK198.out) hb);have n2_:=Aside0.mk (blk_below (g:=gb200) (o:=.cells #[.int .i64 ((rd_T63 l1 x9_1).f0),.int .i64 ((rd_T63 l1 x9_1).f1),.int .i64 ((rd_T63 l1 x9_1).f2)] 63 (0,0)) (by (with_reducible repeat (first|apply blk_drewN|apply blk_drew|apply blk_alloc));exact BK200.out) hb);have n3_:=Aside0.mk (below_step (by repeat (first|(with_reducible first|exact HB.out|apply below_alloc|apply pw_below_drewN|apply below_drew1|refine below_set ?_ GE198.out|refine below_set ?_ GE200.out)|exact HB.out)) hb);clear HO203;clear BK198;clear BK200;clear HB;have HO203:=n0_;have BK198:=n1_;have BK200:=n2_;have HB:=n3_;clear n0_ n1_ n2_ n3_;(try clear hb);(try clear hb2);(try clear hk);(try clear hi);have hcz30_0 : w29.cell? ⟨gb200,0,none⟩ = some (.int .i64 ((rd_T63 l1 x9_1).f0)):=(blk_cell BK200.out 0).trans rfl;have hcz30_1 : w29.cell? ⟨gb200,1,none⟩ = some (.int .i64 ((rd_T63 l1 x9_1).f1)):=(blk_cell BK200.out 1).trans rfl;have hcz30_2 : w29.cell? ⟨gb200,2,none⟩ = some (.int .i64 ((rd_T63 l1 x9_1).f2)):=(blk_cell BK200.out 2).trans rfl;have hfz30_0:=blk_frozen BK200.out 0;have hfz30_1:=blk_frozen BK200.out 1;have hfz30_2:=blk_frozen BK200.out 2)|(go_at_call 105;(with_reducible refine (impl_within.calls ((rd_T63 l1 x9_1).f1) 0 48 true _ A9.out).mono ?_);rintro e w' ⟨rfl,⟨nd,rfl⟩⟩)|(go_at_call 105;(with_reducible refine (impl_within.calls ((rd_T63 l1 x9_1).f2) 0 20 false _ A11.out).mono ?_);rintro e w' ⟨rfl,⟨nd,rfl⟩⟩))
   go_ret
   exact ⟨by first|rfl|(simp [errW_none,errW_some] <;> rfl)|(simp [*,errW_none,errW_some] <;> rfl),by repeat (first|(with_reducible first|exact HB.out|apply below_alloc|apply pw_below_drewN|apply below_drew1|refine below_set ?_ GE198.out|refine below_set ?_ GE200.out)|exact HB.out)⟩
  subst c12
  have H1 : (impl_Road_areCarriers.l0 k1 l1 l1 (l1.length : Int) (wrap64 (x9_1 + 1)) a0_0 a0_1) = some r:=by rw [if_pos rfl] at H;exact H
  clear H
  have H:=H1
  clear H1
  have H':=Aside0.mk H
  clear H
  have p199 : 0 ≤ (x9_1 : Int):=of_decide_eq_true (by first|(with_reducible assumption)|assumption)
  have q199 : x9_1 < (l1.length : Int):=of_decide_eq_true (by first|(with_reducible assumption)|assumption)
  obtain ⟨ad199,e199,hx199_0,hx199_1,hx199_2⟩:=at_T63 HR1.out x9_1 p199 q199
  cases e199
  replace hx199_0:=(HB.out.cell (World.block_lt_of_cell? w _ hx199_0)).trans hx199_0
  replace hx199_1:=(HB.out.cell (World.block_lt_of_cell? w _ hx199_1)).trans hx199_1
  replace hx199_2:=(HB.out.cell (World.block_lt_of_cell? w _ hx199_2)).trans hx199_2
  replace p199:=eq_true p199
  replace q199:=eq_true q199
  go_wp2_with (first|((with_reducible refine gate_dst (N:=6) rfl ?_);refine box_event ?hg (N:=6) ?hd (cs:=#[.int .i64 0,.int .i64 0,.int .i64 0]) (t:=63) ?hr ?_;(case hd=>rfl);(case hg=>rfl);(case hr=>first|(go_simp;done)|(go_simp;rfl));intro gb200 hg w13 hbox hb;have n0_:=Aside0.mk (blk_below (g:=gb198) (o:=.cells #[.int .i64 a0_0,.bool a0_1] 28 (0,0)) (by (with_reducible repeat (first|apply blk_drewN|apply blk_drew|apply blk_alloc));exact BK198.out) hb);have n1_:=Aside0.mk (below_step (by repeat (first|(with_reducible first|exact HB.out|apply below_alloc|apply pw_below_drewN|apply below_drew1|refine below_set ?_ GE198.out)|exact HB.out)) hb);have n2_:=Aside0.mk (hbox);have n3_:=Aside0.mk ((by rw [hg];exact (below_size (by repeat (first|(with_reducible first|exact HB.out|apply below_alloc|apply pw_below_drewN|apply below_drew1|refine below_set ?_ GE198.out)|exact HB.out))) : w.heap.size ≤ gb200));have n4_:=Aside0.mk ((by rw [hg];exact (below_size (by repeat (first|(with_reducible first|exact HB.out|apply below_alloc|apply pw_below_drewN|apply below_drew1|refine below_set ?_ GE198.out)|exact HB.out))) : w.heap.size ≤ gb200));have n5_:=Aside0.mk ((by rw [hg];exact Nat.ne_of_lt (blk_lt (g:=gb198) (o:=.cells #[.int .i64 a0_0,.bool a0_1] 28 (0,0)) (by (with_reducible repeat (first|apply blk_drewN|apply blk_drew|apply blk_alloc));exact BK198.out)) : gb198 ≠ gb200));have n6_:=Aside0.mk ((by rw [hg];exact Nat.ne_of_gt (blk_lt (g:=gb198) (o:=.cells #[.int .i64 a0_0,.bool a0_1] 28 (0,0)) (by (with_reducible repeat (first|apply blk_drewN|apply blk_drew|apply blk_alloc));exact BK198.out)) : gb200 ≠ gb198));clear BK198;clear HB;have BK198:=n0_;have HB:=n1_;have BK200:=n2_;have GW200:=n3_;have GE200:=n4_;have NB198_200:=n5_;have NB200_198:=n6_;clear n0_ n1_ n2_ n3_ n4_ n5_ n6_;clear hb hbox hg;have hnb14:=NB200_198.out;have hnc14:=NB198_200.out;have hcz15_0 : w13.cell? ⟨gb200,0,none⟩ = some (.int .i64 0):=(blk_cell BK200.out 0).trans rfl;have hcz15_1 : w13.cell? ⟨gb200,1,none⟩ = some (.int .i64 0):=(blk_cell BK200.out 1).trans rfl;have hcz15_2 : w13.cell? ⟨gb200,2,none⟩ = some (.int .i64 0):=(blk_cell BK200.out 2).trans rfl;have hfz15_0:=blk_frozen BK200.out 0;have hfz15_1:=blk_frozen BK200.out 1;have hfz15_2:=blk_frozen BK200.out 2;have hcz16_0 : w13.cell? ⟨gb198,0,none⟩ = some (.int .i64 a0_0):=(blk_cell BK198.out 0).trans rfl;have hcz16_1 : w13.cell? ⟨gb198,1,none⟩ = some (.bool a0_1):=(blk_cell BK198.out 1).trans rfl;have hfz16_0:=blk_frozen BK198.out 0;have hfz16_1:=blk_frozen BK198.out 1)|((with_reducible refine gate_dst (N:=16) rfl ?_);refine R_lit (Kd.int .i64) _ 3 ?hg (N:=16) ?hd (xs:=([(rd_T63 l1 x9_1).f0] : List Int)) (inner:=[.int .i64 ((rd_T63 l1 x9_1).f0)]) (ok:=fun _=>True) (okp:=fun _=>True) ?hr ?hp (fun _ hk=>hk) trivial (Below.refl _ _) (Nat.le_refl _) (by simp) ?_;(case hd=>rfl);(case hg=>rfl);(case hr=>first|(go_simp;done)|(go_simp;rfl));(case hp=>exact (Reps.one (show Kd.M (Kd.int .i64) _ _ _ ((rd_T63 l1 x9_1).f0) [.int .i64 ((rd_T63 l1 x9_1).f0)] from rfl) (Reps.none _ _)));intro v202 w17 ho18 hb hg_ hnew_;clear hg_ hnew_;(first|rw [← Ny201.out] at ho18|(simp only [Int.reduceToNat] at ho18;rw [← Ny201.out] at ho18));have n0_:=Aside0.mk (R_lower ho18 (below_size (by repeat (first|(with_reducible first|exact HB.out|apply below_alloc|apply pw_below_drewN|apply below_drew1|refine below_set ?_ GE198.out|refine below_set ?_ GE200.out)|exact HB.out))));have n1_:=Aside0.mk (blk_below (g:=gb198) (o:=.cells #[.int .i64 a0_0,.bool a0_1] 28 (0,0)) (by (with_reducible repeat (first|apply blk_drewN|apply blk_drew|apply blk_alloc));refine blk_far ?_ NB198_200.out _;(with_reducible repeat (first|apply blk_drewN|apply blk_drew|apply blk_alloc));refine blk_far ?_ NB198_200.out _;(with_reducible repeat (first|apply blk_drewN|apply blk_drew|apply blk_alloc));refine blk_far ?_ NB198_200.out _;(with_reducible repeat (first|apply blk_drewN|apply blk_drew|apply blk_alloc));exact BK198.out) hb);have n2_:=Aside0.mk (blk_below (g:=gb200) (o:=.cells #[.int .i64 ((rd_T63 l1 x9_1).f0),.int .i64 ((rd_T63 l1 x9_1).f1),.int .i64 ((rd_T63 l1 x9_1).f2)] 63 (0,0)) (by (with_reducible repeat (first|apply blk_drewN|apply blk_drew|apply blk_alloc));refine blk_put (cs:=#[.int .i64 ((rd_T63 l1 x9_1).f0),.int .i64 ((rd_T63 l1 x9_1).f1),.int .i64 0]) ?_ 2 _ rfl;(with_reducible repeat (first|apply blk_drewN|apply blk_drew|apply blk_alloc));refine blk_put (cs:=#[.int .i64 ((rd_T63 l1 x9_1).f0),.int .i64 0,.int .i64 0]) ?_ 1 _ rfl;(with_reducible repeat (first|apply blk_drewN|apply blk_drew|apply blk_alloc));refine blk_put (cs:=#[.int .i64 0,.int .i64 0,.int .i64 0]) ?_ 0 _ rfl;(with_reducible repeat (first|apply blk_drewN|apply blk_drew|apply blk_alloc));exact BK200.out) hb);have n3_:=Aside0.mk (below_step (by repeat (first|(with_reducible first|exact HB.out|apply below_alloc|apply pw_below_drewN|apply below_drew1|refine below_set ?_ GE198.out|refine below_set ?_ GE200.out)|exact HB.out)) hb);clear BK198;clear BK200;clear HB;have HO203:=n0_;have BK198:=n1_;have BK200:=n2_;have HB:=n3_;clear n0_ n1_ n2_ n3_;clear hb ho18;obtain ⟨Ao19,co19,eo19⟩:=R_slice HO203.out;subst eo19)|((with_reducible refine gate_callee (f:=88) rfl ?_);refine goesL_ (some 17) rfl rfl Try.func88 (by kernel_rfl) rfl #[.agg #[.int .i64 a0_0,.bool a0_1],.slice Ao19 y201.length co19] rfl (by (try simp only [List.map_toArray,List.map_cons,List.map_nil]);first|done|rfl|(simp only [List.length_drop,List.length_take];rfl)) ?_;(with_reducible refine (impl_Road_has.calls k1 a0_0 a0_1 _ _ y201 true _ ?side1 ?side2 A7.out).mono ?_);(case side1=>repeat (first|exact (R_reads' HO203.out).2.2|(with_reducible refine C_alloc ?_ _)|(with_reducible refine C_drewN ?_ _)|(with_reducible refine C_drew ?_)));(case side2=>exact (R_reads' HO203.out).2.1);rintro e w20 ⟨rfl,hb⟩;refine ⟨_,rfl,?_⟩;have n0_:=Aside0.mk (R_below (by (with_reducible repeat (first|apply R_alloc|apply R_drewN|apply R_drew));exact HO203.out) hb);have n1_:=Aside0.mk (blk_below (g:=gb198) (o:=.cells #[.int .i64 a0_0,.bool a0_1] 28 (0,0)) (by (with_reducible repeat (first|apply blk_drewN|apply blk_drew|apply blk_alloc));exact BK198.out) hb);have n2_:=Aside0.mk (blk_below (g:=gb200) (o:=.cells #[.int .i64 ((rd_T63 l1 x9_1).f0),.int .i64 ((rd_T63 l1 x9_1).f1),.int .i64 ((rd_T63 l1 x9_1).f2)] 63 (0,0)) (by (with_reducible repeat (first|apply blk_drewN|apply blk_drew|apply blk_alloc));exact BK200.out) hb);have n3_:=Aside0.mk (below_step (by repeat (first|(with_reducible first|exact HB.out|apply below_alloc|apply pw_below_drewN|apply below_drew1|refine below_set ?_ GE198.out|refine below_set ?_ GE200.out)|exact HB.out)) hb);clear HO203;clear BK198;clear BK200;clear HB;have HO203:=n0_;have BK198:=n1_;have BK200:=n2_;have HB:=n3_;clear n0_ n1_ n2_ n3_;(try clear hb);(try clear hb2);(try clear hk);(try clear hi);have hcz21_0 : w20.cell? ⟨gb200,0,none⟩ = some (.int .i64 ((rd_T63 l1 x9_1).f0)):=(blk_cell BK200.out 0).trans rfl;have hcz21_1 : w20.cell? ⟨gb200,1,none⟩ = some (.int .i64 ((rd_T63 l1 x9_1).f1)):=(blk_cell BK200.out 1).trans rfl;have hcz21_2 : w20.cell? ⟨gb200,2,none⟩ = some (.int .i64 ((rd_T63 l1 x9_1).f2)):=(blk_cell BK200.out 2).trans rfl;have hfz21_0:=blk_frozen BK200.out 0;have hfz21_1:=blk_frozen BK200.out 1;have hfz21_2:=blk_frozen BK200.out 2)|(go_at_call 105;(with_reducible refine (impl_within.calls ((rd_T63 l1 x9_1).f1) 0 48 true _ A9.out).mono ?_);rintro e w' ⟨rfl,⟨nd,rfl⟩⟩)|(go_at_call 105;(with_reducible refine (impl_within.calls ((rd_T63 l1 x9_1).f2) 0 20 true _ A11.out).mono ?_);rintro e w' ⟨rfl,⟨nd,rfl⟩⟩))
  go_roundg k1
  case measure=>have:=HK1.out;omega
  case rel=>exact ⟨(wrap64 (x9_1 + 1)),(by first|rfl|(simp;done)|(simp [*];done)),H',⟨by have:=HK1.out;omega⟩,⟨by (with_reducible repeat (first|apply blk_drewN|apply blk_drew|apply blk_alloc));exact BK198.out⟩,⟨by repeat (first|(with_reducible first|exact HB.out|apply below_alloc|apply pw_below_drewN|apply below_drew1|refine below_set ?_ GE198.out|refine below_set ?_ GE200.out)|exact HB.out)⟩⟩

/-! ### cmp_isNaN_int: function 116 -/
def cmp_isNaN_int.f (a0 : Int) : Option (Bool):=some (a0 != a0)
set_option maxHeartbeats 8000000 in
set_option maxRecDepth 100000 in
theorem cmp_isNaN_int.calls (a0 : Int) (r : Bool) (w : World) (h : cmp_isNaN_int.f a0 = some r) :
  Calls Try.prog 116 #[.int .i64 a0] w fun e w'=>e = .returned (.bool r) ∧ Drawn0 w w':=by
 have H : (some (a0 != a0)) = some r:=h
 clear h
 obtain rfl:=Option.some.inj H
 go_enter Try.func116,Try.ntmps116
 go_wp2
 go_ret
 exact ⟨by first|rfl|(simp;done)|(simp [*];done),by repeat (first|exact Drawn0.refl _|apply Drawn0.step)⟩

/-! ### cmp_Less_int: function 114 -/
def cmp_Less_int.f (a0 : Int) (a1 : Int) : Option (Bool):=(cmp_isNaN_int.f a0).bind fun t207=>(if t207 = true then ((cmp_isNaN_int.f a1).bind fun t208=>(if t208 = true then (some (decide (a0 < a1))) else (some true))) else (some (decide (a0 < a1))))
set_option maxHeartbeats 8000000 in
set_option maxRecDepth 100000 in
theorem cmp_Less_int.calls (a0 : Int) (a1 : Int) (r : Bool) (w : World) (h : cmp_Less_int.f a0 a1 = some r) :
  Calls Try.prog 114 #[.int .i64 a0,.int .i64 a1] w fun e w'=>e = .returned (.bool r) ∧ Drawn0 w w':=by
 have H : ((cmp_isNaN_int.f a0).bind fun t207=>(if t207 = true then ((cmp_isNaN_int.f a1).bind fun t208=>(if t208 = true then (some (decide (a0 < a1))) else (some true))) else (some (decide (a0 < a1))))) = some r:=h
 clear h
 replace H:=Option.bind_eq_some_iff.mp H
 obtain ⟨t207,A30,H⟩:=H
 replace H : (if t207 = true then ((cmp_isNaN_int.f a1).bind fun t208=>(if t208 = true then (some (decide (a0 < a1))) else (some true))) else (some (decide (a0 < a1)))) = some r:=H
 have A3:=Aside0.mk A30
 clear A30
 by_cases c4 : t207 = true
 rotate_left
 ·replace c4:=Bool.eq_false_iff.mpr c4
  subst c4
  have H1 : (some (decide (a0 < a1))) = some r:=by rw [if_neg (show ¬ (false = true) by decide)] at H;exact H
  clear H
  have H:=H1
  clear H1
  obtain rfl:=Option.some.inj H
  go_enter Try.func114,Try.ntmps114
  go_wp2_with (first|((with_reducible refine gate_callee (f:=116) rfl ?_);refine goesL_ (some 6) rfl rfl Try.func116 (by kernel_rfl) rfl #[.int .i64 a0] rfl (by (try simp only [List.map_toArray,List.map_cons,List.map_nil]);first|done|rfl|(simp only [List.length_drop,List.length_take];rfl)) ?_;(with_reducible refine (cmp_isNaN_int.calls a0 false _ A3.out).mono ?_);rintro e w' ⟨rfl,⟨nd,rfl⟩⟩;refine ⟨_,rfl,?_⟩))
  go_ret
  exact ⟨by first|rfl|(simp;done)|(simp [*];done),by repeat (first|exact Drawn0.refl _|apply Drawn0.step)⟩
 subst c4
 have H1 : ((cmp_isNaN_int.f a1).bind fun t208=>(if t208 = true then (some (decide (a0 < a1))) else (some true))) = some r:=by rw [if_pos rfl] at H;exact H
 clear H
 have H:=H1
 clear H1
 replace H:=Option.bind_eq_some_iff.mp H
 obtain ⟨t208,A50,H⟩:=H
 replace H : (if t208 = true then (some (decide (a0 < a1))) else (some true)) = some r:=H
 have A5:=Aside0.mk A50
 clear A50
 by_cases c6 : t208 = true
 ·subst c6
  have H1 : (some (decide (a0 < a1))) = some r:=by rw [if_pos rfl] at H;exact H
  clear H
  have H:=H1
  clear H1
  obtain rfl:=Option.some.inj H
  go_enter Try.func114,Try.ntmps114
  go_wp2_with (first|((with_reducible refine gate_callee (f:=116) rfl ?_);refine goesL_ (some 6) rfl rfl Try.func116 (by kernel_rfl) rfl #[.int .i64 a0] rfl (by (try simp only [List.map_toArray,List.map_cons,List.map_nil]);first|done|rfl|(simp only [List.length_drop,List.length_take];rfl)) ?_;(with_reducible refine (cmp_isNaN_int.calls a0 true _ A3.out).mono ?_);rintro e w' ⟨rfl,⟨nd,rfl⟩⟩;refine ⟨_,rfl,?_⟩)|(go_at_call 116;(with_reducible refine (cmp_isNaN_int.calls a1 true _ A5.out).mono ?_);rintro e w' ⟨rfl,⟨nd,rfl⟩⟩))
  go_ret
  exact ⟨by first|rfl|(simp;done)|(simp [*];done),by repeat (first|exact Drawn0.refl _|apply Drawn0.step)⟩
 replace c6:=Bool.eq_false_iff.mpr c6
 subst c6
 have H1 : (some true) = some r:=by rw [if_neg (show ¬ (false = true) by decide)] at H;exact H
 clear H
 have H:=H1
 clear H1
 obtain rfl:=Option.some.inj H
 go_enter Try.func114,Try.ntmps114
 go_wp2_with (first|((with_reducible refine gate_callee (f:=116) rfl ?_);refine goesL_ (some 6) rfl rfl Try.func116 (by kernel_rfl) rfl #[.int .i64 a0] rfl (by (try simp only [List.map_toArray,List.map_cons,List.map_nil]);first|done|rfl|(simp only [List.length_drop,List.length_take];rfl)) ?_;(with_reducible refine (cmp_isNaN_int.calls a0 true _ A3.out).mono ?_);rintro e w' ⟨rfl,⟨nd,rfl⟩⟩;refine ⟨_,rfl,?_⟩)|(go_at_call 116;(with_reducible refine (cmp_isNaN_int.calls a1 false _ A5.out).mono ?_);rintro e w' ⟨rfl,⟨nd,rfl⟩⟩))
 go_ret
 exact ⟨by first|rfl|(simp;done)|(simp [*];done),by repeat (first|exact Drawn0.refl _|apply Drawn0.step)⟩

/-! ### slices_IsSorted_int_int: function 104 -/
def slices_IsSorted_int_int.l0 : Nat → List Int → Int → Option (Bool)
 | 0,_,_=>none
 | k + 1,x0,x3=>if x3 > 0 then (if 0 ≤ x3 then (if x3 < (x0.length : Int) then (if 0 ≤ (wrap64 (x3 - 1)) then (if (wrap64 (x3 - 1)) < (x0.length : Int) then ((cmp_Less_int.f (rd x0 x3) (rd x0 (wrap64 (x3 - 1)))).bind fun t211=>(if t211 = true then (some false) else (slices_IsSorted_int_int.l0 k x0 (wrap64 (x3 - 1))))) else (none)) else (none)) else (none)) else (none)) else (some true)
def slices_IsSorted_int_int.f (k : Nat) (l0 : List Int) : Option (Bool):=slices_IsSorted_int_int.l0 k l0 (wrap64 ((l0.length : Int) - 1))
theorem slices_IsSorted_int_int.mono_l : ∀ k,(∀ y0 y1,LeO (slices_IsSorted_int_int.l0 k y0 y1) (slices_IsSorted_int_int.l0 (k + 1) y0 y1))
 | 0=>fun _ _ r h=>by simp [slices_IsSorted_int_int.l0] at h
 | k + 1=>by
  have ih0:=slices_IsSorted_int_int.mono_l k
  ·intro y0 y1
   unfold slices_IsSorted_int_int.l0
   repeat' first
   | (with_reducible exact ih0 _ _)
   | (with_reducible exact LeO.refl _)
   | (with_reducible exact LeO.none _)
   | (with_reducible refine LeO.ite ?_ ?_)
   | (with_reducible refine LeO.bind ?_ (fun _=>?_))
   | exact ih0 _ _
   | exact LeO.none _
   | refine LeO.ite ?_ ?_
   | refine LeO.bind ?_ (fun _=>?_)
theorem slices_IsSorted_int_int.mono : ∀ a0 k,LeO (slices_IsSorted_int_int.f k a0) (slices_IsSorted_int_int.f (k + 1) a0):=by
 intro a0 k
 have ih0:=slices_IsSorted_int_int.mono_l k
 unfold slices_IsSorted_int_int.f
 repeat' first
   | (with_reducible exact ih0 _ _)
   | (with_reducible exact LeO.refl _)
   | (with_reducible exact LeO.none _)
   | (with_reducible refine LeO.ite ?_ ?_)
   | (with_reducible refine LeO.bind ?_ (fun _=>?_))
   | exact ih0 _ _
   | exact LeO.none _
   | refine LeO.ite ?_ ?_
   | refine LeO.bind ?_ (fun _=>?_)
set_option maxHeartbeats 8000000 in
set_option maxRecDepth 100000 in
theorem slices_IsSorted_int_int.calls (k : Nat) (A0 : Option Addr) (c0 : Nat) (l0 : List Int) (r : Bool) (w : World) (hr0 : Kd.C (Kd.int .i64) w A0 l0.length l0) (hc0 : l0.length ≤ c0) (h : slices_IsSorted_int_int.f k l0 = some r) :
  Calls Try.prog 104 #[.slice A0 l0.length c0] w fun e w'=>e = .returned (.bool r) ∧ Drawn0 w w':=by
 have HR0:=Aside0.mk hr0
 have HC0:=Aside0.mk hc0
 clear hr0 hc0
 have H : (slices_IsSorted_int_int.l0 k l0 (wrap64 ((l0.length : Int) - 1))) = some r:=h
 clear h
 have H':=Aside0.mk H
 clear H
 go_enter Try.func104,Try.ntmps104
 go_wp2
 repeat (go_quiet (fail);try go_wp2)
 go_loopg [3] k (fun kq v3 w'=>∃ (x3_1 : Int),v3 = .int .i64 x3_1 ∧ Aside0 (slices_IsSorted_int_int.l0 kq l0 x3_1 = some r) ∧ Aside0 (kq ≤ k) ∧ Drawn0 w w')
 case atStart=>exact ⟨(wrap64 ((l0.length : Int) - 1)),(by first|rfl|(simp;done)|(simp [*];done)),H',⟨Nat.le_refl _⟩,by repeat (first|exact Drawn0.refl _|apply Drawn0.step)⟩
 clear H'
 try clear c1
 obtain ⟨x3_1,rfl,HA,HK1,⟨m1,rfl⟩⟩:=hrel
 cases gk with
 | zero=>exact absurd HA.out (by simp [slices_IsSorted_int_int.l0])
 | succ k1 =>
  have H:=HA.out
  clear HA
  simp only [slices_IsSorted_int_int.l0] at H
  by_cases c2 : x3_1 > 0
  rotate_left
  ·rw [if_neg c2] at H
   have c2b0 : decide (0 < x3_1) = false:=decide_eq_false c2
   clear c2
   obtain rfl:=Option.some.inj H
   go_wp2
   repeat (go_quiet (fail);try go_wp2)
   go_ret
   exact ⟨by first|rfl|(simp;done)|(simp [*];done),by repeat (first|exact Drawn0.refl _|apply Drawn0.step)⟩
  rw [if_pos c2] at H
  have c2b0 : decide (0 < x3_1) = true:=decide_eq_true c2
  clear c2
  by_cases c3 : 0 ≤ x3_1
  rotate_left
  ·rw [if_neg c3] at H
   exact absurd H (by simp)
  rw [if_pos c3] at H
  have c3b0 : decide (0 ≤ x3_1) = true:=decide_eq_true c3
  clear c3
  by_cases c4 : x3_1 < (l0.length : Int)
  rotate_left
  ·rw [if_neg c4] at H
   exact absurd H (by simp)
  rw [if_pos c4] at H
  have c4b0 : decide (x3_1 < (l0.length : Int)) = true:=decide_eq_true c4
  clear c4
  obtain ⟨ji5,hji5⟩ : ∃ j_ : Int,(wrap64 (x3_1 - 1)) = j_:=⟨_,rfl⟩
  replace H : (if 0 ≤ (ji5) then (if (ji5) < (l0.length : Int) then ((cmp_Less_int.f (rd l0 x3_1) (rd l0 (ji5))).bind fun t211=>(if t211 = true then (some false) else (slices_IsSorted_int_int.l0 k1 l0 ji5))) else (none)) else (none)) = some r:=by first|(rw [hji5] at H;exact H)|(simp only [hji5] at H ⊢;exact H)
  have hji5w : (IntKind.i64.wrap (x3_1 - 1)) = ji5:=(i64_w _).trans hji5
  by_cases c6 : 0 ≤ (ji5)
  rotate_left
  ·rw [if_neg c6] at H
   exact absurd H (by simp)
  rw [if_pos c6] at H
  have c6b0 : decide (0 ≤ (ji5)) = true:=decide_eq_true c6
  clear c6
  by_cases c7 : (ji5) < (l0.length : Int)
  rotate_left
  ·rw [if_neg c7] at H
   exact absurd H (by simp)
  rw [if_pos c7] at H
  have c7b0 : decide ((ji5) < (l0.length : Int)) = true:=decide_eq_true c7
  clear c7
  replace H:=Option.bind_eq_some_iff.mp H
  obtain ⟨t211,A80,H⟩:=H
  replace H : (if t211 = true then (some false) else (slices_IsSorted_int_int.l0 k1 l0 ji5)) = some r:=H
  have A8:=Aside0.mk A80
  clear A80
  by_cases c9 : t211 = true
  ·subst c9
   have H1 : (some false) = some r:=by rw [if_pos rfl] at H;exact H
   clear H
   have H:=H1
   clear H1
   obtain rfl:=Option.some.inj H
   have p209 : 0 ≤ (x3_1 : Int):=of_decide_eq_true (by first|(with_reducible assumption)|assumption)
   have q209 : x3_1 < (l0.length : Int):=of_decide_eq_true (by first|(with_reducible assumption)|assumption)
   obtain ⟨ad209,e209,hx209_0⟩:=Kd.at_int HR0.out x3_1 p209 q209
   cases e209
   replace p209:=eq_true p209
   replace q209:=eq_true q209
   have p210 : 0 ≤ ((ji5) : Int):=of_decide_eq_true (by first|(with_reducible assumption)|assumption)
   have q210 : (ji5) < (l0.length : Int):=of_decide_eq_true (by first|(with_reducible assumption)|assumption)
   obtain ⟨ad210,e210,hx210_0⟩:=Kd.at_int HR0.out (ji5) p210 q210
   obtain rfl : ad209 = ad210:=(by injection e210)
   replace p210:=eq_true p210
   replace q210:=eq_true q210
   go_wp2_with (first|(go_at_call 114;(with_reducible refine (cmp_Less_int.calls (rd l0 x3_1) (rd l0 (ji5)) true _ A8.out).mono ?_);rintro e w' ⟨rfl,⟨nd,rfl⟩⟩;(try first|exact ⟨rfl,_,World.drewN_drewN _ _ _⟩|exact ⟨rfl,_,Eq.trans (World.drewN_drewN _ _ _) (congrArg (World.drewN _) (Nat.add_assoc _ _ _))⟩)))
   repeat (go_quiet (first|(go_at_call 114;(with_reducible refine (cmp_Less_int.calls (rd l0 x3_1) (rd l0 (ji5)) true _ A8.out).mono ?_);rintro e w' ⟨rfl,⟨nd,rfl⟩⟩;(try first|exact ⟨rfl,_,World.drewN_drewN _ _ _⟩|exact ⟨rfl,_,Eq.trans (World.drewN_drewN _ _ _) (congrArg (World.drewN _) (Nat.add_assoc _ _ _))⟩)));try go_wp2_with (first|(go_at_call 114;(with_reducible refine (cmp_Less_int.calls (rd l0 x3_1) (rd l0 (ji5)) true _ A8.out).mono ?_);rintro e w' ⟨rfl,⟨nd,rfl⟩⟩;(try first|exact ⟨rfl,_,World.drewN_drewN _ _ _⟩|exact ⟨rfl,_,Eq.trans (World.drewN_drewN _ _ _) (congrArg (World.drewN _) (Nat.add_assoc _ _ _))⟩))))
   go_ret
   exact ⟨by first|rfl|(simp;done)|(simp only [← hji5] <;> (first|rfl|simp))|(simp [*];done),by repeat (first|exact Drawn0.refl _|apply Drawn0.step)⟩
  replace c9:=Bool.eq_false_iff.mpr c9
  subst c9
  have H1 : (slices_IsSorted_int_int.l0 k1 l0 ji5) = some r:=by rw [if_neg (show ¬ (false = true) by decide)] at H;exact H
  clear H
  have H:=H1
  clear H1
  have H':=Aside0.mk H
  clear H
  have p209 : 0 ≤ (x3_1 : Int):=of_decide_eq_true (by first|(with_reducible assumption)|assumption)
  have q209 : x3_1 < (l0.length : Int):=of_decide_eq_true (by first|(with_reducible assumption)|assumption)
  obtain ⟨ad209,e209,hx209_0⟩:=Kd.at_int HR0.out x3_1 p209 q209
  cases e209
  replace p209:=eq_true p209
  replace q209:=eq_true q209
  have p210 : 0 ≤ ((ji5) : Int):=of_decide_eq_true (by first|(with_reducible assumption)|assumption)
  have q210 : (ji5) < (l0.length : Int):=of_decide_eq_true (by first|(with_reducible assumption)|assumption)
  obtain ⟨ad210,e210,hx210_0⟩:=Kd.at_int HR0.out (ji5) p210 q210
  obtain rfl : ad209 = ad210:=(by injection e210)
  replace p210:=eq_true p210
  replace q210:=eq_true q210
  go_wp2_with (first|(go_at_call 114;(with_reducible refine (cmp_Less_int.calls (rd l0 x3_1) (rd l0 (ji5)) false _ A8.out).mono ?_);rintro e w' ⟨rfl,⟨nd,rfl⟩⟩;(try first|exact ⟨rfl,_,World.drewN_drewN _ _ _⟩|exact ⟨rfl,_,Eq.trans (World.drewN_drewN _ _ _) (congrArg (World.drewN _) (Nat.add_assoc _ _ _))⟩)))
  repeat (go_quiet (first|(go_at_call 114;(with_reducible refine (cmp_Less_int.calls (rd l0 x3_1) (rd l0 (ji5)) false _ A8.out).mono ?_);rintro e w' ⟨rfl,⟨nd,rfl⟩⟩;(try first|exact ⟨rfl,_,World.drewN_drewN _ _ _⟩|exact ⟨rfl,_,Eq.trans (World.drewN_drewN _ _ _) (congrArg (World.drewN _) (Nat.add_assoc _ _ _))⟩)));try go_wp2_with (first|(go_at_call 114;(with_reducible refine (cmp_Less_int.calls (rd l0 x3_1) (rd l0 (ji5)) false _ A8.out).mono ?_);rintro e w' ⟨rfl,⟨nd,rfl⟩⟩;(try first|exact ⟨rfl,_,World.drewN_drewN _ _ _⟩|exact ⟨rfl,_,Eq.trans (World.drewN_drewN _ _ _) (congrArg (World.drewN _) (Nat.add_assoc _ _ _))⟩))))
  go_roundg k1
  case measure=>have:=HK1.out;omega
  case rel=>exact ⟨(ji5),(by first|rfl|(simp;done)|(simp only [← hji5] <;> (first|rfl|simp))|(simp [*];done)),H',⟨by have:=HK1.out;omega⟩,by repeat (first|exact Drawn0.refl _|apply Drawn0.step)⟩

/-! ### impl_isCarried: function 63 -/
def impl_isCarried.f (k : Nat) (a0_0 : Int) (a0_1 : Bool) (l1 : List (S63)) (l2 : List Int) : Option (Bool):=(impl_isLine.f a0_0 a0_1).bind fun t213=>(if t213 = true then ((impl_Road_areCarriers.f k a0_0 a0_1 l1).bind fun t214=>(if t214 = true then ((impl_Road_has.f k a0_0 a0_1 l2).bind fun t215=>(if t215 = true then ((slices_IsSorted_int_int.f k l2).bind fun t216=>(some t216)) else (some false))) else (some false))) else (some false))
theorem impl_isCarried.mono : ∀ a0 a1 a2 a3 k,LeO (impl_isCarried.f k a0 a1 a2 a3) (impl_isCarried.f (k + 1) a0 a1 a2 a3):=by
 intro a0 a1 a2 a3 k
 unfold impl_isCarried.f
 repeat' first
   | (with_reducible exact impl_Road_areCarriers.mono _ _ _ _)
   | (with_reducible exact impl_Road_has.mono _ _ _ _)
   | (with_reducible exact slices_IsSorted_int_int.mono _ _)
   | (with_reducible exact LeO.refl _)
   | (with_reducible exact LeO.none _)
   | (with_reducible refine LeO.ite ?_ ?_)
   | (with_reducible refine LeO.bind ?_ (fun _=>?_))
   | exact impl_Road_areCarriers.mono _ _ _ _
   | exact impl_Road_has.mono _ _ _ _
   | exact slices_IsSorted_int_int.mono _ _
   | exact LeO.none _
   | refine LeO.ite ?_ ?_
   | refine LeO.bind ?_ (fun _=>?_)
set_option maxHeartbeats 8000000 in
set_option maxRecDepth 100000 in
theorem impl_isCarried.calls (k : Nat) (a0_0 : Int) (a0_1 : Bool) (A1 : Option Addr) (c1 : Nat) (l1 : List (S63)) (A2 : Option Addr) (c2 : Nat) (l2 : List Int) (r : Bool) (w : World) (hr1 : Kd.C k63 w A1 l1.length l1) (hc1 : l1.length ≤ c1) (hr2 : Kd.C (Kd.int .i64) w A2 l2.length l2) (hc2 : l2.length ≤ c2) (h : impl_isCarried.f k a0_0 a0_1 l1 l2 = some r) :
  Calls Try.prog 63 #[.agg #[.int .i64 a0_0,.bool a0_1],.slice A1 l1.length c1,.slice A2 l2.length c2] w fun e w'=>e = .returned (.bool r) ∧ Below w.heap.size w w':=by
 have hu28:=Try.underlying28
 have HR1:=Aside0.mk hr1
 have HC1:=Aside0.mk hc1
 clear hr1 hc1
 have HR2:=Aside0.mk hr2
 have HC2:=Aside0.mk hc2
 clear hr2 hc2
 have HB:=Aside0.mk (Below.refl w.heap.size w)
 have H : ((impl_isLine.f a0_0 a0_1).bind fun t213=>(if t213 = true then ((impl_Road_areCarriers.f k a0_0 a0_1 l1).bind fun t214=>(if t214 = true then ((impl_Road_has.f k a0_0 a0_1 l2).bind fun t215=>(if t215 = true then ((slices_IsSorted_int_int.f k l2).bind fun t216=>(some t216)) else (some false))) else (some false))) else (some false))) = some r:=h
 clear h
 replace H:=Option.bind_eq_some_iff.mp H
 obtain ⟨t213,A40,H⟩:=H
 replace H : (if t213 = true then ((impl_Road_areCarriers.f k a0_0 a0_1 l1).bind fun t214=>(if t214 = true then ((impl_Road_has.f k a0_0 a0_1 l2).bind fun t215=>(if t215 = true then ((slices_IsSorted_int_int.f k l2).bind fun t216=>(some t216)) else (some false))) else (some false))) else (some false)) = some r:=H
 have A4:=Aside0.mk A40
 clear A40
 by_cases c5 : t213 = true
 rotate_left
 ·replace c5:=Bool.eq_false_iff.mpr c5
  subst c5
  have H1 : (some false) = some r:=by rw [if_neg (show ¬ (false = true) by decide)] at H;exact H
  clear H
  have H:=H1
  clear H1
  obtain rfl:=Option.some.inj H
  go_enter Try.func63,Try.ntmps63
  go_wp2_with (first|((with_reducible refine gate_dst (N:=3) rfl ?_);refine box_event ?hg (N:=3) ?hd (cs:=#[.int .i64 a0_0,.bool a0_1]) (t:=28) ?hr ?_;(case hd=>rfl);(case hg=>rfl);(case hr=>first|(go_simp;done)|(go_simp;rfl));intro gb212 hg w30 hbox hb;have n0_:=Aside0.mk (below_step (by repeat (first|(with_reducible first|exact HB.out|apply below_alloc|apply pw_below_drewN|apply below_drew1)|exact HB.out)) hb);have n1_:=Aside0.mk (hbox);have n2_:=Aside0.mk ((by rw [hg];exact (below_size (by repeat (first|(with_reducible first|exact HB.out|apply below_alloc|apply pw_below_drewN|apply below_drew1)|exact HB.out))) : w.heap.size ≤ gb212));have n3_:=Aside0.mk ((by rw [hg];exact (below_size (by repeat (first|(with_reducible first|exact HB.out|apply below_alloc|apply pw_below_drewN|apply below_drew1)|exact HB.out))) : w.heap.size ≤ gb212));clear HB;have HB:=n0_;have BK212:=n1_;have GW212:=n2_;have GE212:=n3_;clear n0_ n1_ n2_ n3_;clear hb hbox hg;have hcz31_0 : w30.cell? ⟨gb212,0,none⟩ = some (.int .i64 a0_0):=(blk_cell BK212.out 0).trans rfl;have hcz31_1 : w30.cell? ⟨gb212,1,none⟩ = some (.bool a0_1):=(blk_cell BK212.out 1).trans rfl;have hfz31_0:=blk_frozen BK212.out 0;have hfz31_1:=blk_frozen BK212.out 1)|((with_reducible refine gate_callee (f:=94) rfl ?_);refine goesL_ (some 8) rfl rfl Try.func94 (by kernel_rfl) rfl #[.agg #[.int .i64 a0_0,.bool a0_1]] rfl (by (try simp only [List.map_toArray,List.map_cons,List.map_nil]);first|done|rfl|(simp only [List.length_drop,List.length_take];rfl)) ?_;(with_reducible refine (impl_isLine.calls a0_0 a0_1 false _ A4.out).mono ?_);rintro e w32 ⟨rfl,hb⟩;refine ⟨_,rfl,?_⟩;have n0_:=Aside0.mk (blk_below (g:=gb212) (o:=.cells #[.int .i64 a0_0,.bool a0_1] 28 (0,0)) (by (with_reducible repeat (first|apply blk_drewN|apply blk_drew|apply blk_alloc));exact BK212.out) hb);have n1_:=Aside0.mk (below_step (by repeat (first|(with_reducible first|exact HB.out|apply below_alloc|apply pw_below_drewN|apply below_drew1|refine below_set ?_ GE212.out)|exact HB.out)) hb);clear BK212;clear HB;have BK212:=n0_;have HB:=n1_;clear n0_ n1_;(try clear hb);(try clear hb2);(try clear hk);(try clear hi)))
  go_ret
  exact ⟨by first|rfl|(simp [errW_none,errW_some] <;> rfl)|(simp [*,errW_none,errW_some] <;> rfl),by repeat (first|(with_reducible first|exact HB.out|apply below_alloc|apply pw_below_drewN|apply below_drew1|refine below_set ?_ GE212.out)|exact HB.out)⟩
 subst c5
 have H1 : ((impl_Road_areCarriers.f k a0_0 a0_1 l1).bind fun t214=>(if t214 = true then ((impl_Road_has.f k a0_0 a0_1 l2).bind fun t215=>(if t215 = true then ((slices_IsSorted_int_int.f k l2).bind fun t216=>(some t216)) else (some false))) else (some false))) = some r:=by rw [if_pos rfl] at H;exact H
 clear H
 have H:=H1
 clear H1
 replace H:=Option.bind_eq_some_iff.mp H
 obtain ⟨t214,A60,H⟩:=H
 replace H : (if t214 = true then ((impl_Road_has.f k a0_0 a0_1 l2).bind fun t215=>(if t215 = true then ((slices_IsSorted_int_int.f k l2).bind fun t216=>(some t216)) else (some false))) else (some false)) = some r:=H
 have A6:=Aside0.mk A60
 clear A60
 by_cases c7 : t214 = true
 rotate_left
 ·replace c7:=Bool.eq_false_iff.mpr c7
  subst c7
  have H1 : (some false) = some r:=by rw [if_neg (show ¬ (false = true) by decide)] at H;exact H
  clear H
  have H:=H1
  clear H1
  obtain rfl:=Option.some.inj H
  go_enter Try.func63,Try.ntmps63
  go_wp2_with (first|((with_reducible refine gate_dst (N:=3) rfl ?_);refine box_event ?hg (N:=3) ?hd (cs:=#[.int .i64 a0_0,.bool a0_1]) (t:=28) ?hr ?_;(case hd=>rfl);(case hg=>rfl);(case hr=>first|(go_simp;done)|(go_simp;rfl));intro gb212 hg w25 hbox hb;have n0_:=Aside0.mk (below_step (by repeat (first|(with_reducible first|exact HB.out|apply below_alloc|apply pw_below_drewN|apply below_drew1)|exact HB.out)) hb);have n1_:=Aside0.mk (hbox);have n2_:=Aside0.mk ((by rw [hg];exact (below_size (by repeat (first|(with_reducible first|exact HB.out|apply below_alloc|apply pw_below_drewN|apply below_drew1)|exact HB.out))) : w.heap.size ≤ gb212));have n3_:=Aside0.mk ((by rw [hg];exact (below_size (by repeat (first|(with_reducible first|exact HB.out|apply below_alloc|apply pw_below_drewN|apply below_drew1)|exact HB.out))) : w.heap.size ≤ gb212));clear HB;have HB:=n0_;have BK212:=n1_;have GW212:=n2_;have GE212:=n3_;clear n0_ n1_ n2_ n3_;clear hb hbox hg;have hcz26_0 : w25.cell? ⟨gb212,0,none⟩ = some (.int .i64 a0_0):=(blk_cell BK212.out 0).trans rfl;have hcz26_1 : w25.cell? ⟨gb212,1,none⟩ = some (.bool a0_1):=(blk_cell BK212.out 1).trans rfl;have hfz26_0:=blk_frozen BK212.out 0;have hfz26_1:=blk_frozen BK212.out 1)|((with_reducible refine gate_callee (f:=94) rfl ?_);refine goesL_ (some 8) rfl rfl Try.func94 (by kernel_rfl) rfl #[.agg #[.int .i64 a0_0,.bool a0_1]] rfl (by (try simp only [List.map_toArray,List.map_cons,List.map_nil]);first|done|rfl|(simp only [List.length_drop,List.length_take];rfl)) ?_;(with_reducible refine (impl_isLine.calls a0_0 a0_1 true _ A4.out).mono ?_);rintro e w27 ⟨rfl,hb⟩;refine ⟨_,rfl,?_⟩;have n0_:=Aside0.mk (blk_below (g:=gb212) (o:=.cells #[.int .i64 a0_0,.bool a0_1] 28 (0,0)) (by (with_reducible repeat (first|apply blk_drewN|apply blk_drew|apply blk_alloc));exact BK212.out) hb);have n1_:=Aside0.mk (below_step (by repeat (first|(with_reducible first|exact HB.out|apply below_alloc|apply pw_below_drewN|apply below_drew1|refine below_set ?_ GE212.out)|exact HB.out)) hb);clear BK212;clear HB;have BK212:=n0_;have HB:=n1_;clear n0_ n1_;(try clear hb);(try clear hb2);(try clear hk);(try clear hi);have hcz28_0 : w27.cell? ⟨gb212,0,none⟩ = some (.int .i64 a0_0):=(blk_cell BK212.out 0).trans rfl;have hcz28_1 : w27.cell? ⟨gb212,1,none⟩ = some (.bool a0_1):=(blk_cell BK212.out 1).trans rfl;have hfz28_0:=blk_frozen BK212.out 0;have hfz28_1:=blk_frozen BK212.out 1)|(go_at_call 95;(with_reducible refine (impl_Road_areCarriers.calls k a0_0 a0_1 _ _ l1 false _ ?side1 ?side2 A6.out).mono ?_);(case side1=>repeat (first|exact (C_below HR1.out HB.out)|(with_reducible refine C_alloc ?_ _)|(with_reducible refine C_drewN ?_ _)|(with_reducible refine C_drew ?_)));(case side2=>exact HC1.out);rintro e w29 ⟨rfl,hb⟩;have n0_:=Aside0.mk (blk_below (g:=gb212) (o:=.cells #[.int .i64 a0_0,.bool a0_1] 28 (0,0)) (by (with_reducible repeat (first|apply blk_drewN|apply blk_drew|apply blk_alloc));exact BK212.out) hb);have n1_:=Aside0.mk (below_step (by repeat (first|(with_reducible first|exact HB.out|apply below_alloc|apply pw_below_drewN|apply below_drew1|refine below_set ?_ GE212.out)|exact HB.out)) hb);clear BK212;clear HB;have BK212:=n0_;have HB:=n1_;clear n0_ n1_;(try clear hb);(try clear hb2);(try clear hk);(try clear hi)))
  go_ret
  exact ⟨by first|rfl|(simp [errW_none,errW_some] <;> rfl)|(simp [*,errW_none,errW_some] <;> rfl),by repeat (first|(with_reducible first|exact HB.out|apply below_alloc|apply pw_below_drewN|apply below_drew1|refine below_set ?_ GE212.out)|exact HB.out)⟩
 subst c7
 have H1 : ((impl_Road_has.f k a0_0 a0_1 l2).bind fun t215=>(if t215 = true then ((slices_IsSorted_int_int.f k l2).bind fun t216=>(some t216)) else (some false))) = some r:=by rw [if_pos rfl] at H;exact H
 clear H
 have H:=H1
 clear H1
 replace H:=Option.bind_eq_some_iff.mp H
 obtain ⟨t215,A80,H⟩:=H
 replace H : (if t215 = true then ((slices_IsSorted_int_int.f k l2).bind fun t216=>(some t216)) else (some false)) = some r:=H
 have A8:=Aside0.mk A80
 clear A80
 by_cases c9 : t215 = true
 rotate_left
 ·replace c9:=Bool.eq_false_iff.mpr c9
  subst c9
  have H1 : (some false) = some r:=by rw [if_neg (show ¬ (false = true) by decide)] at H;exact H
  clear H
  have H:=H1
  clear H1
  obtain rfl:=Option.some.inj H
  go_enter Try.func63,Try.ntmps63
  go_wp2_with (first|((with_reducible refine gate_dst (N:=3) rfl ?_);refine box_event ?hg (N:=3) ?hd (cs:=#[.int .i64 a0_0,.bool a0_1]) (t:=28) ?hr ?_;(case hd=>rfl);(case hg=>rfl);(case hr=>first|(go_simp;done)|(go_simp;rfl));intro gb212 hg w18 hbox hb;have n0_:=Aside0.mk (below_step (by repeat (first|(with_reducible first|exact HB.out|apply below_alloc|apply pw_below_drewN|apply below_drew1)|exact HB.out)) hb);have n1_:=Aside0.mk (hbox);have n2_:=Aside0.mk ((by rw [hg];exact (below_size (by repeat (first|(with_reducible first|exact HB.out|apply below_alloc|apply pw_below_drewN|apply below_drew1)|exact HB.out))) : w.heap.size ≤ gb212));have n3_:=Aside0.mk ((by rw [hg];exact (below_size (by repeat (first|(with_reducible first|exact HB.out|apply below_alloc|apply pw_below_drewN|apply below_drew1)|exact HB.out))) : w.heap.size ≤ gb212));clear HB;have HB:=n0_;have BK212:=n1_;have GW212:=n2_;have GE212:=n3_;clear n0_ n1_ n2_ n3_;clear hb hbox hg;have hcz19_0 : w18.cell? ⟨gb212,0,none⟩ = some (.int .i64 a0_0):=(blk_cell BK212.out 0).trans rfl;have hcz19_1 : w18.cell? ⟨gb212,1,none⟩ = some (.bool a0_1):=(blk_cell BK212.out 1).trans rfl;have hfz19_0:=blk_frozen BK212.out 0;have hfz19_1:=blk_frozen BK212.out 1)|((with_reducible refine gate_callee (f:=94) rfl ?_);refine goesL_ (some 8) rfl rfl Try.func94 (by kernel_rfl) rfl #[.agg #[.int .i64 a0_0,.bool a0_1]] rfl (by (try simp only [List.map_toArray,List.map_cons,List.map_nil]);first|done|rfl|(simp only [List.length_drop,List.length_take];rfl)) ?_;(with_reducible refine (impl_isLine.calls a0_0 a0_1 true _ A4.out).mono ?_);rintro e w20 ⟨rfl,hb⟩;refine ⟨_,rfl,?_⟩;have n0_:=Aside0.mk (blk_below (g:=gb212) (o:=.cells #[.int .i64 a0_0,.bool a0_1] 28 (0,0)) (by (with_reducible repeat (first|apply blk_drewN|apply blk_drew|apply blk_alloc));exact BK212.out) hb);have n1_:=Aside0.mk (below_step (by repeat (first|(with_reducible first|exact HB.out|apply below_alloc|apply pw_below_drewN|apply below_drew1|refine below_set ?_ GE212.out)|exact HB.out)) hb);clear BK212;clear HB;have BK212:=n0_;have HB:=n1_;clear n0_ n1_;(try clear hb);(try clear hb2);(try clear hk);(try clear hi);have hcz21_0 : w20.cell? ⟨gb212,0,none⟩ = some (.int .i64 a0_0):=(blk_cell BK212.out 0).trans rfl;have hcz21_1 : w20.cell? ⟨gb212,1,none⟩ = some (.bool a0_1):=(blk_cell BK212.out 1).trans rfl;have hfz21_0:=blk_frozen BK212.out 0;have hfz21_1:=blk_frozen BK212.out 1)|(go_at_call 95;(with_reducible refine (impl_Road_areCarriers.calls k a0_0 a0_1 _ _ l1 true _ ?side1 ?side2 A6.out).mono ?_);(case side1=>repeat (first|exact (C_below HR1.out HB.out)|(with_reducible refine C_alloc ?_ _)|(with_reducible refine C_drewN ?_ _)|(with_reducible refine C_drew ?_)));(case side2=>exact HC1.out);rintro e w22 ⟨rfl,hb⟩;have n0_:=Aside0.mk (blk_below (g:=gb212) (o:=.cells #[.int .i64 a0_0,.bool a0_1] 28 (0,0)) (by (with_reducible repeat (first|apply blk_drewN|apply blk_drew|apply blk_alloc));exact BK212.out) hb);have n1_:=Aside0.mk (below_step (by repeat (first|(with_reducible first|exact HB.out|apply below_alloc|apply pw_below_drewN|apply below_drew1|refine below_set ?_ GE212.out)|exact HB.out)) hb);clear BK212;clear HB;have BK212:=n0_;have HB:=n1_;clear n0_ n1_;(try clear hb);(try clear hb2);(try clear hk);(try clear hi);have hcz23_0 : w22.cell? ⟨gb212,0,none⟩ = some (.int .i64 a0_0):=(blk_cell BK212.out 0).trans rfl;have hcz23_1 : w22.cell? ⟨gb212,1,none⟩ = some (.bool a0_1):=(blk_cell BK212.out 1).trans rfl;have hfz23_0:=blk_frozen BK212.out 0;have hfz23_1:=blk_frozen BK212.out 1)|(go_at_call 88;(with_reducible refine (impl_Road_has.calls k a0_0 a0_1 _ _ l2 false _ ?side1 ?side2 A8.out).mono ?_);(case side1=>repeat (first|exact (C_below HR2.out HB.out)|(with_reducible refine C_alloc ?_ _)|(with_reducible refine C_drewN ?_ _)|(with_reducible refine C_drew ?_)));(case side2=>exact HC2.out);rintro e w24 ⟨rfl,hb⟩;have n0_:=Aside0.mk (blk_below (g:=gb212) (o:=.cells #[.int .i64 a0_0,.bool a0_1] 28 (0,0)) (by (with_reducible repeat (first|apply blk_drewN|apply blk_drew|apply blk_alloc));exact BK212.out) hb);have n1_:=Aside0.mk (below_step (by repeat (first|(with_reducible first|exact HB.out|apply below_alloc|apply pw_below_drewN|apply below_drew1|refine below_set ?_ GE212.out)|exact HB.out)) hb);clear BK212;clear HB;have BK212:=n0_;have HB:=n1_;clear n0_ n1_;(try clear hb);(try clear hb2);(try clear hk);(try clear hi)))
  go_ret
  exact ⟨by first|rfl|(simp [errW_none,errW_some] <;> rfl)|(simp [*,errW_none,errW_some] <;> rfl),by repeat (first|(with_reducible first|exact HB.out|apply below_alloc|apply pw_below_drewN|apply below_drew1|refine below_set ?_ GE212.out)|exact HB.out)⟩
 subst c9
 have H1 : ((slices_IsSorted_int_int.f k l2).bind fun t216=>(some t216)) = some r:=by rw [if_pos rfl] at H;exact H
 clear H
 have H:=H1
 clear H1
 replace H:=Option.bind_eq_some_iff.mp H
 obtain ⟨t216,A100,H⟩:=H
 replace H : (some t216) = some r:=H
 have A10:=Aside0.mk A100
 clear A100
 obtain rfl:=Option.some.inj H
 go_enter Try.func63,Try.ntmps63
 go_wp2_with (first|((with_reducible refine gate_dst (N:=3) rfl ?_);refine box_event ?hg (N:=3) ?hd (cs:=#[.int .i64 a0_0,.bool a0_1]) (t:=28) ?hr ?_;(case hd=>rfl);(case hg=>rfl);(case hr=>first|(go_simp;done)|(go_simp;rfl));intro gb212 hg w11 hbox hb;have n0_:=Aside0.mk (below_step (by repeat (first|(with_reducible first|exact HB.out|apply below_alloc|apply pw_below_drewN|apply below_drew1)|exact HB.out)) hb);have n1_:=Aside0.mk (hbox);have n2_:=Aside0.mk ((by rw [hg];exact (below_size (by repeat (first|(with_reducible first|exact HB.out|apply below_alloc|apply pw_below_drewN|apply below_drew1)|exact HB.out))) : w.heap.size ≤ gb212));have n3_:=Aside0.mk ((by rw [hg];exact (below_size (by repeat (first|(with_reducible first|exact HB.out|apply below_alloc|apply pw_below_drewN|apply below_drew1)|exact HB.out))) : w.heap.size ≤ gb212));clear HB;have HB:=n0_;have BK212:=n1_;have GW212:=n2_;have GE212:=n3_;clear n0_ n1_ n2_ n3_;clear hb hbox hg;have hcz12_0 : w11.cell? ⟨gb212,0,none⟩ = some (.int .i64 a0_0):=(blk_cell BK212.out 0).trans rfl;have hcz12_1 : w11.cell? ⟨gb212,1,none⟩ = some (.bool a0_1):=(blk_cell BK212.out 1).trans rfl;have hfz12_0:=blk_frozen BK212.out 0;have hfz12_1:=blk_frozen BK212.out 1)|((with_reducible refine gate_callee (f:=94) rfl ?_);refine goesL_ (some 8) rfl rfl Try.func94 (by kernel_rfl) rfl #[.agg #[.int .i64 a0_0,.bool a0_1]] rfl (by (try simp only [List.map_toArray,List.map_cons,List.map_nil]);first|done|rfl|(simp only [List.length_drop,List.length_take];rfl)) ?_;(with_reducible refine (impl_isLine.calls a0_0 a0_1 true _ A4.out).mono ?_);rintro e w13 ⟨rfl,hb⟩;refine ⟨_,rfl,?_⟩;have n0_:=Aside0.mk (blk_below (g:=gb212) (o:=.cells #[.int .i64 a0_0,.bool a0_1] 28 (0,0)) (by (with_reducible repeat (first|apply blk_drewN|apply blk_drew|apply blk_alloc));exact BK212.out) hb);have n1_:=Aside0.mk (below_step (by repeat (first|(with_reducible first|exact HB.out|apply below_alloc|apply pw_below_drewN|apply below_drew1|refine below_set ?_ GE212.out)|exact HB.out)) hb);clear BK212;clear HB;have BK212:=n0_;have HB:=n1_;clear n0_ n1_;(try clear hb);(try clear hb2);(try clear hk);(try clear hi);have hcz14_0 : w13.cell? ⟨gb212,0,none⟩ = some (.int .i64 a0_0):=(blk_cell BK212.out 0).trans rfl;have hcz14_1 : w13.cell? ⟨gb212,1,none⟩ = some (.bool a0_1):=(blk_cell BK212.out 1).trans rfl;have hfz14_0:=blk_frozen BK212.out 0;have hfz14_1:=blk_frozen BK212.out 1)|(go_at_call 95;(with_reducible refine (impl_Road_areCarriers.calls k a0_0 a0_1 _ _ l1 true _ ?side1 ?side2 A6.out).mono ?_);(case side1=>repeat (first|exact (C_below HR1.out HB.out)|(with_reducible refine C_alloc ?_ _)|(with_reducible refine C_drewN ?_ _)|(with_reducible refine C_drew ?_)));(case side2=>exact HC1.out);rintro e w15 ⟨rfl,hb⟩;have n0_:=Aside0.mk (blk_below (g:=gb212) (o:=.cells #[.int .i64 a0_0,.bool a0_1] 28 (0,0)) (by (with_reducible repeat (first|apply blk_drewN|apply blk_drew|apply blk_alloc));exact BK212.out) hb);have n1_:=Aside0.mk (below_step (by repeat (first|(with_reducible first|exact HB.out|apply below_alloc|apply pw_below_drewN|apply below_drew1|refine below_set ?_ GE212.out)|exact HB.out)) hb);clear BK212;clear HB;have BK212:=n0_;have HB:=n1_;clear n0_ n1_;(try clear hb);(try clear hb2);(try clear hk);(try clear hi);have hcz16_0 : w15.cell? ⟨gb212,0,none⟩ = some (.int .i64 a0_0):=(blk_cell BK212.out 0).trans rfl;have hcz16_1 : w15.cell? ⟨gb212,1,none⟩ = some (.bool a0_1):=(blk_cell BK212.out 1).trans rfl;have hfz16_0:=blk_frozen BK212.out 0;have hfz16_1:=blk_frozen BK212.out 1)|(go_at_call 88;(with_reducible refine (impl_Road_has.calls k a0_0 a0_1 _ _ l2 true _ ?side1 ?side2 A8.out).mono ?_);(case side1=>repeat (first|exact (C_below HR2.out HB.out)|(with_reducible refine C_alloc ?_ _)|(with_reducible refine C_drewN ?_ _)|(with_reducible refine C_drew ?_)));(case side2=>exact HC2.out);rintro e w17 ⟨rfl,hb⟩;have n0_:=Aside0.mk (blk_below (g:=gb212) (o:=.cells #[.int .i64 a0_0,.bool a0_1] 28 (0,0)) (by (with_reducible repeat (first|apply blk_drewN|apply blk_drew|apply blk_alloc));exact BK212.out) hb);have n1_:=Aside0.mk (below_step (by repeat (first|(with_reducible first|exact HB.out|apply below_alloc|apply pw_below_drewN|apply below_drew1|refine below_set ?_ GE212.out)|exact HB.out)) hb);clear BK212;clear HB;have BK212:=n0_;have HB:=n1_;clear n0_ n1_;(try clear hb);(try clear hb2);(try clear hk);(try clear hi))|(go_at_call 104;(with_reducible refine (slices_IsSorted_int_int.calls k _ _ l2 t216 _ ?side1 ?side2 A10.out).mono ?_);(case side1=>repeat (first|exact (C_below HR2.out HB.out)|(with_reducible refine C_alloc ?_ _)|(with_reducible refine C_drewN ?_ _)|(with_reducible refine C_drew ?_)));(case side2=>exact HC2.out);rintro e w' ⟨rfl,⟨nd,rfl⟩⟩))
 go_ret
 exact ⟨by first|rfl|(simp [errW_none,errW_some] <;> rfl)|(simp [*,errW_none,errW_some] <;> rfl),by repeat (first|(with_reducible first|exact HB.out|apply below_alloc|apply pw_below_drewN|apply below_drew1|refine below_set ?_ GE212.out)|exact HB.out)⟩

/-! ### impl_Road_gap: function 89 -/
def impl_Road_gap.f (a0_0 : Int) (a0_1 : Bool) (a1 : Int) (a2 : Int) : Option (Int):=if a0_1 = true then (some (mn (mx (wrap64 (a1 - a2)) (wrap64 (a2 - a1))) (wrap64 (a0_0 - (mx (wrap64 (a1 - a2)) (wrap64 (a2 - a1))))))) else (some (mx (wrap64 (a1 - a2)) (wrap64 (a2 - a1))))
set_option maxHeartbeats 8000000 in
set_option maxRecDepth 100000 in
theorem impl_Road_gap.calls (a0_0 : Int) (a0_1 : Bool) (a1 : Int) (a2 : Int) (r : Int) (w : World) (h : impl_Road_gap.f a0_0 a0_1 a1 a2 = some r) :
  Calls Try.prog 89 #[.agg #[.int .i64 a0_0,.bool a0_1],.int .i64 a1,.int .i64 a2] w fun e w'=>e = .returned (.int .i64 r) ∧ Below w.heap.size w w':=by
 have hu28:=Try.underlying28
 have HB:=Aside0.mk (Below.refl w.heap.size w)
 have H : (if a0_1 = true then (some (mn (mx (wrap64 (a1 - a2)) (wrap64 (a2 - a1))) (wrap64 (a0_0 - (mx (wrap64 (a1 - a2)) (wrap64 (a2 - a1))))))) else (some (mx (wrap64 (a1 - a2)) (wrap64 (a2 - a1))))) = some r:=h
 clear h
 obtain ⟨ji4,hji4⟩ : ∃ j_ : Int,(mx (wrap64 (a1 - a2)) (wrap64 (a2 - a1))) = j_:=⟨_,rfl⟩
 replace H : (if a0_1 = true then (some (mn (ji4) (wrap64 (a0_0 - (ji4))))) else (some ji4)) = some r:=by first|(rw [hji4] at H;exact H)|(simp only [hji4] at H ⊢;exact H)
 have hji4_ : (if (wrap64 (a1 - a2)) < (wrap64 (a2 - a1)) then (wrap64 (a2 - a1)) else (wrap64 (a1 - a2))) = ji4:=hji4
 by_cases c5 : a0_1 = true
 rotate_left
 ·replace c5:=Bool.eq_false_iff.mpr c5
  subst c5
  have H1 : (some ji4) = some r:=by rw [if_neg (show ¬ (false = true) by decide)] at H;exact H
  clear H
  have H:=H1
  clear H1
  obtain rfl:=Option.some.inj H
  go_enter Try.func89,Try.ntmps89
  go_wp2_with (first|((with_reducible refine gate_dst (N:=3) rfl ?_);refine box_event ?hg (N:=3) ?hd (cs:=#[.int .i64 a0_0,.bool false]) (t:=28) ?hr ?_;(case hd=>rfl);(case hg=>rfl);(case hr=>first|(go_simp;done)|(go_simp;rfl));intro gb217 hg w9 hbox hb;have n0_:=Aside0.mk (below_step (by repeat (first|(with_reducible first|exact HB.out|apply below_alloc|apply pw_below_drewN|apply below_drew1)|exact HB.out)) hb);have n1_:=Aside0.mk (hbox);have n2_:=Aside0.mk ((by rw [hg];exact (below_size (by repeat (first|(with_reducible first|exact HB.out|apply below_alloc|apply pw_below_drewN|apply below_drew1)|exact HB.out))) : w.heap.size ≤ gb217));have n3_:=Aside0.mk ((by rw [hg];exact (below_size (by repeat (first|(with_reducible first|exact HB.out|apply below_alloc|apply pw_below_drewN|apply below_drew1)|exact HB.out))) : w.heap.size ≤ gb217));clear HB;have HB:=n0_;have BK217:=n1_;have GW217:=n2_;have GE217:=n3_;clear n0_ n1_ n2_ n3_;clear hb hbox hg;have hcz10_0 : w9.cell? ⟨gb217,0,none⟩ = some (.int .i64 a0_0):=(blk_cell BK217.out 0).trans rfl;have hcz10_1 : w9.cell? ⟨gb217,1,none⟩ = some (.bool false):=(blk_cell BK217.out 1).trans rfl;have hfz10_0:=blk_frozen BK217.out 0;have hfz10_1:=blk_frozen BK217.out 1))
  go_ret
  exact ⟨by first|rfl|(simp [errW_none,errW_some] <;> rfl)|(simp only [← hji4];first|rfl|(simp [errW_none,errW_some] <;> rfl))|(simp [*,errW_none,errW_some] <;> rfl),by repeat (first|(with_reducible first|exact HB.out|apply below_alloc|apply pw_below_drewN|apply below_drew1|refine below_set ?_ GE217.out)|exact HB.out)⟩
 subst c5
 have H1 : (some (mn (ji4) (wrap64 (a0_0 - (ji4))))) = some r:=by rw [if_pos rfl] at H;exact H
 clear H
 have H:=H1
 clear H1
 obtain ⟨ji6,hji6⟩ : ∃ j_ : Int,(mn (ji4) (wrap64 (a0_0 - (ji4)))) = j_:=⟨_,rfl⟩
 replace H : (some ji6) = some r:=by first|(rw [hji6] at H;exact H)|(simp only [hji6] at H ⊢;exact H)
 have hji6_ : (if (wrap64 (a0_0 - (ji4))) < (ji4) then (wrap64 (a0_0 - (ji4))) else (ji4)) = ji6:=hji6
 obtain rfl:=Option.some.inj H
 go_enter Try.func89,Try.ntmps89
 go_wp2_with (first|((with_reducible refine gate_dst (N:=3) rfl ?_);refine box_event ?hg (N:=3) ?hd (cs:=#[.int .i64 a0_0,.bool true]) (t:=28) ?hr ?_;(case hd=>rfl);(case hg=>rfl);(case hr=>first|(go_simp;done)|(go_simp;rfl));intro gb217 hg w7 hbox hb;have n0_:=Aside0.mk (below_step (by repeat (first|(with_reducible first|exact HB.out|apply below_alloc|apply pw_below_drewN|apply below_drew1)|exact HB.out)) hb);have n1_:=Aside0.mk (hbox);have n2_:=Aside0.mk ((by rw [hg];exact (below_size (by repeat (first|(with_reducible first|exact HB.out|apply below_alloc|apply pw_below_drewN|apply below_drew1)|exact HB.out))) : w.heap.size ≤ gb217));have n3_:=Aside0.mk ((by rw [hg];exact (below_size (by repeat (first|(with_reducible first|exact HB.out|apply below_alloc|apply pw_below_drewN|apply below_drew1)|exact HB.out))) : w.heap.size ≤ gb217));clear HB;have HB:=n0_;have BK217:=n1_;have GW217:=n2_;have GE217:=n3_;clear n0_ n1_ n2_ n3_;clear hb hbox hg;have hcz8_0 : w7.cell? ⟨gb217,0,none⟩ = some (.int .i64 a0_0):=(blk_cell BK217.out 0).trans rfl;have hcz8_1 : w7.cell? ⟨gb217,1,none⟩ = some (.bool true):=(blk_cell BK217.out 1).trans rfl;have hfz8_0:=blk_frozen BK217.out 0;have hfz8_1:=blk_frozen BK217.out 1))
 go_ret
 exact ⟨by first|rfl|(simp [errW_none,errW_some] <;> rfl)|(simp only [← hji4,← hji6];first|rfl|(simp [errW_none,errW_some] <;> rfl))|(simp [*,errW_none,errW_some] <;> rfl),by repeat (first|(with_reducible first|exact HB.out|apply below_alloc|apply pw_below_drewN|apply below_drew1|refine below_set ?_ GE217.out)|exact HB.out)⟩

/-! ### impl_Road_steps: function 65 -/
def impl_Road_steps.f (a0_0 : Int) (a0_1 : Bool) (a1_0 : Int) (a1_1 : Int) (a1_2 : Int) (a2 : Int) (a3 : Int) : Option (Int):=(impl_Road_gap.f a0_0 a0_1 a1_0 a2).bind fun t220=>((impl_Road_gap.f a0_0 a0_1 a2 a3).bind fun t221=>(some (wrap64 (t220 + t221))))
def impl_Road_steps.T1 : Bool × List (List Nat × List Nat):=(true,[([],[]),([],[]),([1],[1]),([],[]),([0,2,3],[0,2,3]),([],[]),([],[]),([],[]),([5,6,7,4],[5,6,7]),([4,8],[4,8]),([9,8,0,1,2,3,4,5,6,7,8,9],[9])])
def impl_Road_steps.B1 : List Nat:=[0,0,2,0,15,0,0,0,255,511,1023]
theorem impl_Road_steps.tab1 : rtab .any (opsOf Try.f65 1) = impl_Road_steps.T1:=by kernel_rfl
theorem impl_Road_steps.bits1 : waitsOk impl_Road_steps.T1.2 impl_Road_steps.B1 = true:=by kernel_rfl
set_option maxHeartbeats 8000000 in
set_option maxRecDepth 100000 in
theorem impl_Road_steps.calls (a0_0 : Int) (a0_1 : Bool) (a1_0 : Int) (a1_1 : Int) (a1_2 : Int) (a2 : Int) (a3 : Int) (r : Int) (w : World) (h : impl_Road_steps.f a0_0 a0_1 a1_0 a1_1 a1_2 a2 a3 = some r) :
  Calls Try.prog 65 #[.agg #[.int .i64 a0_0,.bool a0_1],.agg #[.int .i64 a1_0,.int .i64 a1_1,.int .i64 a1_2],.int .i64 a2,.int .i64 a3] w fun e w'=>e = .returned (.int .i64 r) ∧ Below w.heap.size w w':=by
 have hu28:=Try.underlying28
 have hu63:=Try.underlying63
 have HB:=Aside0.mk (Below.refl w.heap.size w)
 have H : ((impl_Road_gap.f a0_0 a0_1 a1_0 a2).bind fun t220=>((impl_Road_gap.f a0_0 a0_1 a2 a3).bind fun t221=>(some (wrap64 (t220 + t221))))) = some r:=h
 clear h
 replace H:=Option.bind_eq_some_iff.mp H
 obtain ⟨t220,A50,H⟩:=H
 replace H : ((impl_Road_gap.f a0_0 a0_1 a2 a3).bind fun t221=>(some (wrap64 (t220 + t221)))) = some r:=H
 have A5:=Aside0.mk A50
 clear A50
 replace H:=Option.bind_eq_some_iff.mp H
 obtain ⟨t221,A60,H⟩:=H
 replace H : (some (wrap64 (t220 + t221))) = some r:=H
 have A6:=Aside0.mk A60
 clear A60
 obtain rfl:=Option.some.inj H
 go_enter Try.func65,Try.ntmps65
 try go_wp2_with (first|((with_reducible refine gate_dst (N:=4) rfl ?_);refine box_event ?hg (N:=4) ?hd (cs:=#[.int .i64 a0_0,.bool a0_1]) (t:=28) ?hr ?_;(case hd=>rfl);(case hg=>rfl);(case hr=>first|(go_simp;done)|(go_simp;rfl));intro gb218 hg w7 hbox hb;have n0_:=Aside0.mk (below_step (by repeat (first|(with_reducible first|exact HB.out|apply below_alloc|apply pw_below_drewN|apply below_drew1)|exact HB.out)) hb);have n1_:=Aside0.mk (hbox);have n2_:=Aside0.mk ((by rw [hg];exact (below_size (by repeat (first|(with_reducible first|exact HB.out|apply below_alloc|apply pw_below_drewN|apply below_drew1)|exact HB.out))) : w.heap.size ≤ gb218));have n3_:=Aside0.mk ((by rw [hg];exact (below_size (by repeat (first|(with_reducible first|exact HB.out|apply below_alloc|apply pw_below_drewN|apply below_drew1)|exact HB.out))) : w.heap.size ≤ gb218));clear HB;have HB:=n0_;have BK218:=n1_;have GW218:=n2_;have GE218:=n3_;clear n0_ n1_ n2_ n3_;clear hb hbox hg)|((with_reducible refine gate_dst (N:=5) rfl ?_);refine box_event ?hg (N:=5) ?hd (cs:=#[.int .i64 a1_0,.int .i64 a1_1,.int .i64 a1_2]) (t:=63) ?hr ?_;(case hd=>rfl);(case hg=>rfl);(case hr=>first|(go_simp;done)|(go_simp;rfl));intro gb219 hg w8 hbox hb;have n0_:=Aside0.mk (blk_below (g:=gb218) (o:=.cells #[.int .i64 a0_0,.bool a0_1] 28 (0,0)) (by (with_reducible repeat (first|apply blk_drewN|apply blk_drew|apply blk_alloc));exact BK218.out) hb);have n1_:=Aside0.mk (below_step (by repeat (first|(with_reducible first|exact HB.out|apply below_alloc|apply pw_below_drewN|apply below_drew1|refine below_set ?_ GE218.out)|exact HB.out)) hb);have n2_:=Aside0.mk (hbox);have n3_:=Aside0.mk ((by rw [hg];exact (below_size (by repeat (first|(with_reducible first|exact HB.out|apply below_alloc|apply pw_below_drewN|apply below_drew1|refine below_set ?_ GE218.out)|exact HB.out))) : w.heap.size ≤ gb219));have n4_:=Aside0.mk ((by rw [hg];exact (below_size (by repeat (first|(with_reducible first|exact HB.out|apply below_alloc|apply pw_below_drewN|apply below_drew1|refine below_set ?_ GE218.out)|exact HB.out))) : w.heap.size ≤ gb219));have n5_:=Aside0.mk ((by rw [hg];exact Nat.ne_of_lt (blk_lt (g:=gb218) (o:=.cells #[.int .i64 a0_0,.bool a0_1] 28 (0,0)) (by (with_reducible repeat (first|apply blk_drewN|apply blk_drew|apply blk_alloc));exact BK218.out)) : gb218 ≠ gb219));have n6_:=Aside0.mk ((by rw [hg];exact Nat.ne_of_gt (blk_lt (g:=gb218) (o:=.cells #[.int .i64 a0_0,.bool a0_1] 28 (0,0)) (by (with_reducible repeat (first|apply blk_drewN|apply blk_drew|apply blk_alloc));exact BK218.out)) : gb219 ≠ gb218));clear BK218;clear HB;have BK218:=n0_;have HB:=n1_;have BK219:=n2_;have GW219:=n3_;have GE219:=n4_;have NB218_219:=n5_;have NB219_218:=n6_;clear n0_ n1_ n2_ n3_ n4_ n5_ n6_;clear hb hbox hg))
 have n0_:=Aside0.mk (blk_drew BK218.out)
 have n1_:=Aside0.mk (blk_drew BK219.out)
 have n2_:=Aside0.mk (below_drew1 HB.out)
 clear BK218
 clear BK219
 clear HB
 have BK218:=n0_
 have BK219:=n1_
 have HB:=n2_
 clear n0_ n1_ n2_
 refine start_ (n:=11) (S:=fun w'=>w'.cell? ⟨gb218,0,none⟩ = some (.int .i64 a0_0) ∧ w'.cell? ⟨gb218,1,none⟩ = some (.bool a0_1) ∧ w'.cell? ⟨gb219,0,none⟩ = some (.int .i64 a1_0) ∧ w'.cell? ⟨gb219,1,none⟩ = some (.int .i64 a1_1) ∧ w'.cell? ⟨gb219,2,none⟩ = some (.int .i64 a1_2)) (ds:=[]) #[false,false,false,false,false,false,false,false,false,false,false] (by kernel_rfl) rfl rfl ⟨(blk_cell BK218.out 0).trans rfl,(blk_cell BK218.out 1).trans rfl,(blk_cell BK219.out 0).trans rfl,(blk_cell BK219.out 1).trans rfl,(blk_cell BK219.out 2).trans rfl⟩ (fun hHeld=>?_);refine with_tabW impl_Road_steps.tab1 impl_Road_steps.bits1 (fun HT_ HW_=>?_)
 generalize w8.drew = w9 at BK218 BK219 HB hHeld ⊢
 refine pure_ (i:=1) (N:=some 10) (v:=?_) (a':=?_) #[false,true,false,false,false,false,false,false,false,false,false] rfl rfl (any_of HT_.out (by kernel_rfl)) (fun _ _ _ h=>h) (Or.inl ⟨by rfl,?_⟩) ?_ ?_
 rotate_left
 ·intro w'
  go_simp
  with_reducible rfl
 rotate_left
 ·simp only [Act.put,List.setIfInBounds_toArray,List.set_cons_zero,List.set_cons_succ,i64_w,i32_w]
  rfl
 refine pure_ (i:=3) (N:=some 12) (v:=?_) (a':=?_) #[false,true,false,true,false,false,false,false,false,false,false] rfl rfl (any_of HT_.out (by kernel_rfl)) (fun _ _ _ h=>h) (Or.inl ⟨by rfl,?_⟩) ?_ ?_
 rotate_left
 ·intro w'
  go_simp
  with_reducible rfl
 rotate_left
 ·simp only [Act.put,List.setIfInBounds_toArray,List.set_cons_zero,List.set_cons_succ,i64_w,i32_w]
  rfl
 refine pure_ (i:=6) (N:=some 15) (v:=?_) (a':=?_) #[false,true,false,true,false,false,true,false,false,false,false] rfl rfl (any_of HT_.out (by kernel_rfl)) (fun _ _ _ h=>h) (Or.inl ⟨by rfl,?_⟩) ?_ ?_
 rotate_left
 ·intro w'
  go_simp
  with_reducible rfl
 rotate_left
 ·simp only [Act.put,List.setIfInBounds_toArray,List.set_cons_zero,List.set_cons_succ,i64_w,i32_w]
  rfl
 refine pure_ (i:=7) (N:=some 16) (v:=?_) (a':=?_) #[false,true,false,true,false,false,true,true,false,false,false] rfl rfl (any_of HT_.out (by kernel_rfl)) (fun _ _ _ h=>h) (Or.inl ⟨by rfl,?_⟩) ?_ ?_
 rotate_left
 ·intro w'
  go_simp
  with_reducible rfl
 rotate_left
 ·simp only [Act.put,List.setIfInBounds_toArray,List.set_cons_zero,List.set_cons_succ,i64_w,i32_w]
  rfl
 refine take_ (i:=0) (N:=some 9) (v:=?_) (a':=?_) #[true,true,false,true,false,false,true,true,false,false,false] rfl rfl (take_ofW HT_.out HW_.out (by kernel_rfl)) (fun _ _ _ h=>h) (Or.inl ⟨by rfl,?_⟩) hHeld ?_ ?_
 rotate_left
 ·rintro w' ⟨s0,s1,s2,s3,s4⟩
  go_simp
  with_reducible rfl
 rotate_left
 ·simp only [Act.put,List.setIfInBounds_toArray,List.set_cons_zero,List.set_cons_succ,i64_w,i32_w]
  rfl
 refine take_ (i:=2) (N:=some 11) (v:=?_) (a':=?_) #[true,true,true,true,false,false,true,true,false,false,false] rfl rfl (take_ofW HT_.out HW_.out (by kernel_rfl)) (fun _ _ _ h=>h) (Or.inl ⟨by rfl,?_⟩) hHeld ?_ ?_
 rotate_left
 ·rintro w' ⟨s0,s1,s2,s3,s4⟩
  go_simp
  with_reducible rfl
 rotate_left
 ·simp only [Act.put,List.setIfInBounds_toArray,List.set_cons_zero,List.set_cons_succ,i64_w,i32_w]
  rfl
 refine take_ (i:=5) (N:=some 14) (v:=?_) (a':=?_) #[true,true,true,true,false,true,true,true,false,false,false] rfl rfl (take_ofW HT_.out HW_.out (by kernel_rfl)) (fun _ _ _ h=>h) (Or.inl ⟨by rfl,?_⟩) hHeld ?_ ?_
 rotate_left
 ·rintro w' ⟨s0,s1,s2,s3,s4⟩
  go_simp
  with_reducible rfl
 rotate_left
 ·simp only [Act.put,List.setIfInBounds_toArray,List.set_cons_zero,List.set_cons_succ,i64_w,i32_w]
  rfl
 refine one_ (i:=4) (N:=some 13) #[true,true,true,true,true,true,true,true,false,false,false] rfl rfl (one_of HT_.out (by kernel_rfl)) (by decide) (fun K hK=>?_)
 refine goes_ Try.func89 (by kernel_rfl) rfl #[.agg #[.int .i64 a0_0,.bool a0_1],.int .i64 a1_0,.int .i64 a2] (by rfl) rfl rfl (by (try simp only [List.map_toArray,List.map_cons,List.map_nil]);first|done|rfl|(simp only [List.length_drop,List.length_take];rfl)) ?_
 with_reducible refine (impl_Road_gap.calls a0_0 a0_1 a1_0 a2 t220 _ A5.out).mono ?_
 rintro e w10 ⟨rfl,hb⟩
 refine ⟨_,rfl,?_⟩
 have n0_:=Aside0.mk (blk_below (g:=gb218) (o:=.cells #[.int .i64 a0_0,.bool a0_1] 28 (0,0)) (by (with_reducible repeat (first|apply blk_drewN|apply blk_drew|apply blk_alloc));exact BK218.out) hb)
 have n1_:=Aside0.mk (blk_below (g:=gb219) (o:=.cells #[.int .i64 a1_0,.int .i64 a1_1,.int .i64 a1_2] 63 (0,0)) (by (with_reducible repeat (first|apply blk_drewN|apply blk_drew|apply blk_alloc));exact BK219.out) hb)
 have n2_:=Aside0.mk (below_step (by repeat (first|(with_reducible first|exact HB.out|apply below_alloc|apply pw_below_drewN|apply below_drew1|refine below_set ?_ GE218.out|refine below_set ?_ GE219.out)|exact HB.out)) hb)
 clear BK218
 clear BK219
 clear HB
 have BK218:=n0_
 have BK219:=n1_
 have HB:=n2_
 clear n0_ n1_ n2_
 (try clear hb)
 (try clear hb2)
 (try clear hk)
 (try clear hi)
 refine hK.out _ _ ⟨(blk_cell BK218.out 0).trans rfl,(blk_cell BK218.out 1).trans rfl,(blk_cell BK219.out 0).trans rfl,(blk_cell BK219.out 1).trans rfl,(blk_cell BK219.out 2).trans rfl⟩ (fun hHeld=>?_)
 clear hK K
 refine norm_ (a':=?_) ?_ ?_
 rotate_left
 ·show Act.put _ (some 13) _ = _
  simp only [Act.put,List.setIfInBounds_toArray,List.set_cons_zero,List.set_cons_succ,i64_w,i32_w]
  rfl
 refine one_ (i:=8) (N:=some 17) #[true,true,true,true,true,true,true,true,true,false,false] rfl rfl (one_of HT_.out (by kernel_rfl)) (by decide) (fun K hK=>?_)
 refine goes_ Try.func89 (by kernel_rfl) rfl #[.agg #[.int .i64 a0_0,.bool a0_1],.int .i64 a2,.int .i64 a3] (by rfl) rfl rfl (by (try simp only [List.map_toArray,List.map_cons,List.map_nil]);first|done|rfl|(simp only [List.length_drop,List.length_take];rfl)) ?_
 with_reducible refine (impl_Road_gap.calls a0_0 a0_1 a2 a3 t221 _ A6.out).mono ?_
 rintro e w11 ⟨rfl,hb⟩
 refine ⟨_,rfl,?_⟩
 have n0_:=Aside0.mk (blk_below (g:=gb218) (o:=.cells #[.int .i64 a0_0,.bool a0_1] 28 (0,0)) (by (with_reducible repeat (first|apply blk_drewN|apply blk_drew|apply blk_alloc));exact BK218.out) hb)
 have n1_:=Aside0.mk (blk_below (g:=gb219) (o:=.cells #[.int .i64 a1_0,.int .i64 a1_1,.int .i64 a1_2] 63 (0,0)) (by (with_reducible repeat (first|apply blk_drewN|apply blk_drew|apply blk_alloc));exact BK219.out) hb)
 have n2_:=Aside0.mk (below_step (by repeat (first|(with_reducible first|exact HB.out|apply below_alloc|apply pw_below_drewN|apply below_drew1|refine below_set ?_ GE218.out|refine below_set ?_ GE219.out)|exact HB.out)) hb)
 clear BK218
 clear BK219
 clear HB
 have BK218:=n0_
 have BK219:=n1_
 have HB:=n2_
 clear n0_ n1_ n2_
 (try clear hb)
 (try clear hb2)
 (try clear hk)
 (try clear hi)
 refine hK.out _ _ ⟨(blk_cell BK218.out 0).trans rfl,(blk_cell BK218.out 1).trans rfl,(blk_cell BK219.out 0).trans rfl,(blk_cell BK219.out 1).trans rfl,(blk_cell BK219.out 2).trans rfl⟩ (fun hHeld=>?_)
 clear hK K
 refine norm_ (a':=?_) ?_ ?_
 rotate_left
 ·show Act.put _ (some 17) _ = _
  simp only [Act.put,List.setIfInBounds_toArray,List.set_cons_zero,List.set_cons_succ,i64_w,i32_w]
  rfl
 refine pure_ (i:=9) (N:=some 18) (v:=?_) (a':=?_) #[true,true,true,true,true,true,true,true,true,true,false] rfl rfl (any_of HT_.out (by kernel_rfl)) (fun _ _ _ h=>h) (Or.inl ⟨by rfl,?_⟩) ?_ ?_
 rotate_left
 ·intro w'
  go_simp
  with_reducible rfl
 rotate_left
 ·simp only [Act.put,List.setIfInBounds_toArray,List.set_cons_zero,List.set_cons_succ,i64_w,i32_w]
  rfl
 refine pure_ (i:=10) (N:=some 8) (v:=?_) (a':=?_) #[true,true,true,true,true,true,true,true,true,true,true] rfl rfl (any_of HT_.out (by kernel_rfl)) (fun _ _ _ h=>h) (Or.inl ⟨by rfl,?_⟩) ?_ ?_
 rotate_left
 ·intro w'
  go_simp
  with_reducible rfl
 rotate_left
 ·simp only [Act.put,List.setIfInBounds_toArray,List.set_cons_zero,List.set_cons_succ,i64_w,i32_w]
  rfl
 refine done_ (done_of HT_.out (by kernel_rfl)) ?_
 try go_wp2
 go_ret
 exact ⟨by first|rfl|(simp [errW_none,errW_some] <;> rfl)|(simp [*,errW_none,errW_some] <;> rfl),by repeat (first|(with_reducible first|exact HB.out|apply below_alloc|apply pw_below_drewN|apply below_drew1|refine below_set ?_ GE218.out|refine below_set ?_ GE219.out)|exact HB.out)⟩


end
end Go.Proofs.Ythagkpoinjpmfaa.QFnExactRelayArrival
