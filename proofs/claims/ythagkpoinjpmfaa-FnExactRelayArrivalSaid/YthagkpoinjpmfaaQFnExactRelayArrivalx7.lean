/- Functions that the law FnExactRelayArrival comes to, as Lean functions, with the proof that the Go code does what they say: written by a program of this session over the kit's print. No condition but those named. -/
import Derived.Test.YthagkpoinjpmfaaQFnExactRelayArrivalx0
import Derived.Test.YthagkpoinjpmfaaQFnExactRelayArrivalx5
import Derived.Test.YthagkpoinjpmfaaQFnExactRelayArrivalx6
namespace Go.Proofs.Ythagkpoinjpmfaa.QFnExactRelayArrival
open Go.RowKit Go.Proofs.YthagkpoinjpmfaaW.PrintWords Go.Proofs.YthagkpoinjpmfaaW.PrintLast Go.Proofs.YthagkpoinjpmfaaW.PrintMore
attribute [local go_sem] max2_int min2_int max_two min_two max_three min_three max_four min_four   -- for this text's walks alone
set_option linter.unusedVariables false
set_option linter.unusedSimpArgs false

/-! ### impl_Road_isRelay: function 64 -/
section
open Kd
mutual
def impl_Road_isRelay.l0 : Nat → List (S63) → Int → Int → Int → List (S70) → Int → Int → Int → Bool → Option (Bool)
 | 0,_,_,_,_,_,_,_,_,_=>none
 | k + 1,x1,x2,x3,x11,x15,x16,x17,x223000,x223001=>if x17 < x16 then (if 0 ≤ x17 then (if x17 < (x15.length : Int) then ((impl_within.f ((rd_T70 x15 x17).f0) 0 (wrap64 ((x1.length : Int) - 1))).bind fun t225=>(if t225 = true then (if 0 ≤ ((rd_T70 x15 x17).f0) then (if (Go.bits .and .i64 (shr .i64 x11 ((rd_T70 x15 x17).f0)) 1) = 1 then (impl_Road_isRelay.j1 k x1 x2 x3 x11 x15 x16 x17 true x223000 x223001 ((rd_T70 x15 x17).f0) ((rd_T70 x15 x17).f1) ((rd_T70 x15 x17).f2)) else (if ((rd_T70 x15 x17).f1) = x2 then (if ((rd_T70 x15 x17).f2) ≤ x2 then (impl_Road_isRelay.j1 k x1 x2 x3 x11 x15 x16 x17 true x223000 x223001 ((rd_T70 x15 x17).f0) ((rd_T70 x15 x17).f1) ((rd_T70 x15 x17).f2)) else ((impl_Road_has.f k x223000 x223001 (([(rd_T70 x15 x17).f2] : List Int))).bind fun t229=>(impl_Road_isRelay.j1 k x1 x2 x3 x11 x15 x16 x17 (!t229) x223000 x223001 ((rd_T70 x15 x17).f0) ((rd_T70 x15 x17).f1) ((rd_T70 x15 x17).f2)))) else (impl_Road_isRelay.j1 k x1 x2 x3 x11 x15 x16 x17 true x223000 x223001 ((rd_T70 x15 x17).f0) ((rd_T70 x15 x17).f1) ((rd_T70 x15 x17).f2)))) else (none)) else (impl_Road_isRelay.j1 k x1 x2 x3 x11 x15 x16 x17 true x223000 x223001 ((rd_T70 x15 x17).f0) ((rd_T70 x15 x17).f1) ((rd_T70 x15 x17).f2)))) else (none)) else (none)) else (some (x2 == x3))
def impl_Road_isRelay.j1 : Nat → List (S63) → Int → Int → Int → List (S70) → Int → Int → Bool → Int → Bool → Int → Int → Int → Option (Bool)
 | 0,_,_,_,_,_,_,_,_,_,_,_,_,_=>none
 | k + 1,x1,x2,x3,x11,x15,x16,x17,x55,x223000,x223001,x225000,x225001,x225002=>if x55 = true then (some false) else (if 0 ≤ x225000 then (if x225000 < (x1.length : Int) then ((impl_Road_steps.f x223000 x223001 ((rd_T63 x1 x225000).f0) ((rd_T63 x1 x225000).f1) ((rd_T63 x1 x225000).f2) x2 x225002).bind fun t232=>(if t232 > ((rd_T63 x1 x225000).f1) then (some false) else (impl_Road_isRelay.l0 k x1 x225002 x3 (Go.bits .or .i64 x11 (shl .i64 1 x225000)) x15 x16 (wrap64 (x17 + 1)) x223000 x223001))) else (none)) else (none))
end
def impl_Road_isRelay.f (k : Nat) (a0_0 : Int) (a0_1 : Bool) (l1 : List (S63)) (a2 : Int) (a3 : Int) (l4 : List (S70)) : Option (Bool):=impl_Road_isRelay.l0 k l1 a2 a3 0 l4 (l4.length : Int) 0 a0_0 a0_1
theorem impl_Road_isRelay.mono_l : ∀ k,(∀ y0 y1 y2 y3 y4 y5 y6 y7 y8,LeO (impl_Road_isRelay.l0 k y0 y1 y2 y3 y4 y5 y6 y7 y8) (impl_Road_isRelay.l0 (k + 1) y0 y1 y2 y3 y4 y5 y6 y7 y8)) ∧ (∀ y0 y1 y2 y3 y4 y5 y6 y7 y8 y9 y10 y11 y12,LeO (impl_Road_isRelay.j1 k y0 y1 y2 y3 y4 y5 y6 y7 y8 y9 y10 y11 y12) (impl_Road_isRelay.j1 (k + 1) y0 y1 y2 y3 y4 y5 y6 y7 y8 y9 y10 y11 y12))
 | 0=>⟨fun _ _ _ _ _ _ _ _ _ r h=>by simp [impl_Road_isRelay.l0] at h,fun _ _ _ _ _ _ _ _ _ _ _ _ _ r h=>by simp [impl_Road_isRelay.j1] at h⟩
 | k + 1=>by
  obtain ⟨ih0,ih1⟩:=impl_Road_isRelay.mono_l k
  refine ⟨?_,?_⟩
  ·intro y0 y1 y2 y3 y4 y5 y6 y7 y8
   unfold impl_Road_isRelay.l0
   repeat' first
   | (with_reducible exact ih0 _ _ _ _ _ _ _ _ _)
   | (with_reducible exact ih1 _ _ _ _ _ _ _ _ _ _ _ _ _)
   | (with_reducible exact impl_Road_has.mono _ _ _ _)
   | (with_reducible exact LeO.refl _)
   | (with_reducible exact LeO.none _)
   | (with_reducible refine LeO.ite ?_ ?_)
   | (with_reducible refine LeO.bind ?_ (fun _=>?_))
   | exact ih0 _ _ _ _ _ _ _ _ _
   | exact ih1 _ _ _ _ _ _ _ _ _ _ _ _ _
   | exact impl_Road_has.mono _ _ _ _
   | exact LeO.none _
   | refine LeO.ite ?_ ?_
   | refine LeO.bind ?_ (fun _=>?_)
  ·intro y0 y1 y2 y3 y4 y5 y6 y7 y8 y9 y10 y11 y12
   unfold impl_Road_isRelay.j1
   repeat' first
   | (with_reducible exact ih0 _ _ _ _ _ _ _ _ _)
   | (with_reducible exact ih1 _ _ _ _ _ _ _ _ _ _ _ _ _)
   | (with_reducible exact impl_Road_has.mono _ _ _ _)
   | (with_reducible exact LeO.refl _)
   | (with_reducible exact LeO.none _)
   | (with_reducible refine LeO.ite ?_ ?_)
   | (with_reducible refine LeO.bind ?_ (fun _=>?_))
   | exact ih0 _ _ _ _ _ _ _ _ _
   | exact ih1 _ _ _ _ _ _ _ _ _ _ _ _ _
   | exact impl_Road_has.mono _ _ _ _
   | exact LeO.none _
   | refine LeO.ite ?_ ?_
   | refine LeO.bind ?_ (fun _=>?_)
theorem impl_Road_isRelay.mono : ∀ a0 a1 a2 a3 a4 a5 k,LeO (impl_Road_isRelay.f k a0 a1 a2 a3 a4 a5) (impl_Road_isRelay.f (k + 1) a0 a1 a2 a3 a4 a5):=by
 intro a0 a1 a2 a3 a4 a5 k
 obtain ⟨ih0,ih1⟩:=impl_Road_isRelay.mono_l k
 unfold impl_Road_isRelay.f
 repeat' first
   | (with_reducible exact ih0 _ _ _ _ _ _ _ _ _)
   | (with_reducible exact ih1 _ _ _ _ _ _ _ _ _ _ _ _ _)
   | (with_reducible exact impl_Road_has.mono _ _ _ _)
   | (with_reducible exact LeO.refl _)
   | (with_reducible exact LeO.none _)
   | (with_reducible refine LeO.ite ?_ ?_)
   | (with_reducible refine LeO.bind ?_ (fun _=>?_))
   | exact ih0 _ _ _ _ _ _ _ _ _
   | exact ih1 _ _ _ _ _ _ _ _ _ _ _ _ _
   | exact impl_Road_has.mono _ _ _ _
   | exact LeO.none _
   | refine LeO.ite ?_ ?_
   | refine LeO.bind ?_ (fun _=>?_)
def impl_Road_isRelay.T8 : Bool × List (List Nat × List Nat):=(true,[([],[]),([],[]),([],[]),([],[]),([3],[3]),([0,1,2,4],[0,1,2,4]),([],[]),([6],[6]),([5,7],[5,7])])
def impl_Road_isRelay.B8 : List Nat:=[0,0,0,0,8,31,0,64,255]
theorem impl_Road_isRelay.tab8 : rtab .any (opsOf Try.f64 8) = impl_Road_isRelay.T8:=by kernel_rfl
theorem impl_Road_isRelay.bits8 : waitsOk impl_Road_isRelay.T8.2 impl_Road_isRelay.B8 = true:=by kernel_rfl
set_option maxHeartbeats 8000000 in
set_option maxRecDepth 100000 in
theorem impl_Road_isRelay.calls (k : Nat) (a0_0 : Int) (a0_1 : Bool) (A1 : Option Addr) (c1 : Nat) (l1 : List (S63)) (a2 : Int) (a3 : Int) (A4 : Option Addr) (c4 : Nat) (l4 : List (S70)) (r : Bool) (w : World) (hr1 : Kd.C k63 w A1 l1.length l1) (hc1 : l1.length ≤ c1) (hr4 : Kd.C k70 w A4 l4.length l4) (hc4 : l4.length ≤ c4) (h : impl_Road_isRelay.f k a0_0 a0_1 l1 a2 a3 l4 = some r) :
  Calls Try.prog 64 #[.agg #[.int .i64 a0_0,.bool a0_1],.slice A1 l1.length c1,.int .i64 a2,.int .i64 a3,.slice A4 l4.length c4] w fun e w'=>e = .returned (.bool r) ∧ Below w.heap.size w w':=by
 have hu28:=Try.underlying28
 have hu70:=Try.underlying70
 have hu63:=Try.underlying63
 have HR1:=Aside0.mk hr1
 have HC1:=Aside0.mk hc1
 clear hr1 hc1
 have HR4:=Aside0.mk hr4
 have HC4:=Aside0.mk hc4
 clear hr4 hc4
 have HB:=Aside0.mk (Below.refl w.heap.size w)
 have H : (impl_Road_isRelay.l0 k l1 a2 a3 0 l4 (l4.length : Int) 0 a0_0 a0_1) = some r:=h
 clear h
 have H':=Aside0.mk H
 clear H
 go_enter Try.func64,Try.ntmps64
 go_wp2_with (first|((with_reducible refine gate_dst (N:=5) rfl ?_);(try (refine gate_guard (by rfl) ?_;dsimp only));refine box_event ?hg (N:=5) ?hd (cs:=#[.int .i64 a0_0,.bool a0_1]) (t:=28) ?hr ?_;(case hd=>rfl);(case hg=>rfl);(case hr=>first|(go_simp;done)|(go_simp;rfl));intro gb222 hg w6 hbox hb;have n0_:=Aside0.mk (below_step (by repeat (first|(with_reducible first|exact HB.out|apply below_alloc|apply pw_below_drewN|apply below_drew1)|exact HB.out)) hb);have n1_:=Aside0.mk (hbox);have n2_:=Aside0.mk ((by rw [hg];exact (below_size (by repeat (first|(with_reducible first|exact HB.out|apply below_alloc|apply pw_below_drewN|apply below_drew1)|exact HB.out))) : w.heap.size ≤ gb222));have n3_:=Aside0.mk ((by rw [hg];exact (below_size (by repeat (first|(with_reducible first|exact HB.out|apply below_alloc|apply pw_below_drewN|apply below_drew1)|exact HB.out))) : w.heap.size ≤ gb222));clear HB;have HB:=n0_;have BK222:=n1_;have GW222:=n2_;have GE222:=n3_;clear n0_ n1_ n2_ n3_;clear hb hbox hg))
 go_loopg [2,11,17] k (fun kq v2 v11 v17 w'=>∃ (x2_1 : Int) (x11_1 : Int) (x17_1 : Int),v2 = .int .i64 x2_1 ∧ v11 = .int .i64 x11_1 ∧ v17 = .int .i64 x17_1 ∧ Aside0 (impl_Road_isRelay.l0 kq l1 x2_1 a3 x11_1 l4 (l4.length : Int) x17_1 a0_0 a0_1 = some r) ∧ Aside0 (kq ≤ k) ∧ Aside0 (w'.heap[gb222]? = some (.cells #[.int .i64 a0_0,.bool a0_1] 28 (0,0))) ∧ Aside0 (Below w.heap.size w w'))
 case atStart=>exact ⟨(a2),(0),(0),(by first|rfl|(simp;done)|(simp [*];done)),(by first|rfl|(simp;done)|(simp [*];done)),(by first|rfl|(simp;done)|(simp [*];done)),H',⟨Nat.le_refl _⟩,⟨by (with_reducible repeat (first|apply blk_drewN|apply blk_drew|apply blk_alloc));exact BK222.out⟩,⟨by repeat (first|(with_reducible first|exact HB.out|apply below_alloc|apply pw_below_drewN|apply below_drew1|refine below_set ?_ GE222.out)|exact HB.out)⟩⟩
 clear H'
 try clear c1
 try clear p2
 try clear c4
 try clear c6
 obtain ⟨x2_1,x11_1,x17_1,rfl,rfl,rfl,HA,HK1,BK222,HB⟩:=hrel
 cases gk with
 | zero=>exact absurd HA.out (by simp [impl_Road_isRelay.l0])
 | succ k1 =>
  have H:=HA.out
  clear HA
  simp only [impl_Road_isRelay.l0] at H
  by_cases c7 : x17_1 < (l4.length : Int)
  rotate_left
  ·rw [if_neg c7] at H
   have c7b0 : decide (x17_1 < (l4.length : Int)) = false:=decide_eq_false c7
   clear c7
   obtain rfl:=Option.some.inj H
   go_wp2
   go_ret
   exact ⟨by first|rfl|(simp [errW_none,errW_some] <;> rfl)|(simp [*,errW_none,errW_some] <;> rfl),by repeat (first|(with_reducible first|exact HB.out|apply below_alloc|apply pw_below_drewN|apply below_drew1|refine below_set ?_ GE222.out)|exact HB.out)⟩
  rw [if_pos c7] at H
  have c7b0 : decide (x17_1 < (l4.length : Int)) = true:=decide_eq_true c7
  clear c7
  by_cases c8 : 0 ≤ x17_1
  rotate_left
  ·rw [if_neg c8] at H
   exact absurd H (by simp)
  rw [if_pos c8] at H
  have c8b0 : decide (0 ≤ x17_1) = true:=decide_eq_true c8
  clear c8
  by_cases c9 : x17_1 < (l4.length : Int)
  rotate_left
  ·rw [if_neg c9] at H
   exact absurd H (by simp)
  rw [if_pos c9] at H
  have c9b0 : decide (x17_1 < (l4.length : Int)) = true:=decide_eq_true c9
  clear c9
  have HC10:=Aside0.mk H
  clear H
  have p223 : 0 ≤ (x17_1 : Int):=of_decide_eq_true (by first|(with_reducible assumption)|assumption)
  have q223 : x17_1 < (l4.length : Int):=of_decide_eq_true (by first|(with_reducible assumption)|assumption)
  obtain ⟨ad223,e223,hx223_0,hx223_1,hx223_2⟩:=at_T70 HR4.out x17_1 p223 q223
  cases e223
  replace hx223_0:=(HB.out.cell (World.block_lt_of_cell? w _ hx223_0)).trans hx223_0
  replace hx223_1:=(HB.out.cell (World.block_lt_of_cell? w _ hx223_1)).trans hx223_1
  replace hx223_2:=(HB.out.cell (World.block_lt_of_cell? w _ hx223_2)).trans hx223_2
  replace p223:=eq_true p223
  replace q223:=eq_true q223
  go_upto_region 5 with (first|((with_reducible refine gate_dst (N:=13) rfl ?_);(try (refine gate_guard (by rfl) ?_;dsimp only));refine box_event ?hg (N:=13) ?hd (cs:=#[.int .i64 0,.int .i64 0,.int .i64 0]) (t:=70) ?hr ?_;(case hd=>rfl);(case hg=>rfl);(case hr=>first|(go_simp;done)|(go_simp;rfl));intro gb224 hg w11 hbox hb;have n0_:=Aside0.mk (blk_below (g:=gb222) (o:=.cells #[.int .i64 a0_0,.bool a0_1] 28 (0,0)) (by (with_reducible repeat (first|apply blk_drewN|apply blk_drew|apply blk_alloc));exact BK222.out) hb);have n1_:=Aside0.mk (below_step (by repeat (first|(with_reducible first|exact HB.out|apply below_alloc|apply pw_below_drewN|apply below_drew1|refine below_set ?_ GE222.out)|exact HB.out)) hb);have n2_:=Aside0.mk (hbox);have n3_:=Aside0.mk ((by rw [hg];exact (below_size (by repeat (first|(with_reducible first|exact HB.out|apply below_alloc|apply pw_below_drewN|apply below_drew1|refine below_set ?_ GE222.out)|exact HB.out))) : w.heap.size ≤ gb224));have n4_:=Aside0.mk ((by rw [hg];exact (below_size (by repeat (first|(with_reducible first|exact HB.out|apply below_alloc|apply pw_below_drewN|apply below_drew1|refine below_set ?_ GE222.out)|exact HB.out))) : w.heap.size ≤ gb224));have n5_:=Aside0.mk ((by rw [hg];exact Nat.ne_of_lt (blk_lt (g:=gb222) (o:=.cells #[.int .i64 a0_0,.bool a0_1] 28 (0,0)) (by (with_reducible repeat (first|apply blk_drewN|apply blk_drew|apply blk_alloc));exact BK222.out)) : gb222 ≠ gb224));have n6_:=Aside0.mk ((by rw [hg];exact Nat.ne_of_gt (blk_lt (g:=gb222) (o:=.cells #[.int .i64 a0_0,.bool a0_1] 28 (0,0)) (by (with_reducible repeat (first|apply blk_drewN|apply blk_drew|apply blk_alloc));exact BK222.out)) : gb224 ≠ gb222));clear BK222;clear HB;have BK222:=n0_;have HB:=n1_;have BK224:=n2_;have GW224:=n3_;have GE224:=n4_;have NB222_224:=n5_;have NB224_222:=n6_;clear n0_ n1_ n2_ n3_ n4_ n5_ n6_;clear hb hbox hg;have hnb12:=NB224_222.out;have hnc12:=NB222_224.out;have hcz13_0 : w11.cell? ⟨gb224,0,none⟩ = some (.int .i64 0):=(blk_cell BK224.out 0).trans rfl;have hcz13_1 : w11.cell? ⟨gb224,1,none⟩ = some (.int .i64 0):=(blk_cell BK224.out 1).trans rfl;have hcz13_2 : w11.cell? ⟨gb224,2,none⟩ = some (.int .i64 0):=(blk_cell BK224.out 2).trans rfl;have hfz13_0:=blk_frozen BK224.out 0;have hfz13_1:=blk_frozen BK224.out 1;have hfz13_2:=blk_frozen BK224.out 2))
  (try simp only [Act.put,List.setIfInBounds_toArray,List.set_cons_zero,List.set_cons_succ])
  go_cut [55] (fun v55 wc=>∃ (kq : Nat) (x55_9 : Bool),v55 = .bool x55_9 ∧ Aside0 (impl_Road_isRelay.j1 kq l1 x2_1 a3 x11_1 l4 (l4.length : Int) x17_1 x55_9 a0_0 a0_1 ((rd_T70 l4 x17_1).f0) ((rd_T70 l4 x17_1).f1) ((rd_T70 l4 x17_1).f2) = some r) ∧ Aside0 (kq ≤ k1) ∧ Aside0 (wc.heap[gb222]? = some (.cells #[.int .i64 a0_0,.bool a0_1] 28 (0,0))) ∧ Aside0 (wc.heap[gb224]? = some (.cells #[.int .i64 ((rd_T70 l4 x17_1).f0),.int .i64 ((rd_T70 l4 x17_1).f1),.int .i64 ((rd_T70 l4 x17_1).f2)] 70 (0,0))) ∧ Aside0 (Below w.heap.size w wc))
  case first =>
   have H:=HC10.out
   clear HC10
   replace H:=Option.bind_eq_some_iff.mp H
   obtain ⟨t225,A140,H⟩:=H
   replace H : (if t225 = true then (if 0 ≤ ((rd_T70 l4 x17_1).f0) then (if (Go.bits .and .i64 (shr .i64 x11_1 ((rd_T70 l4 x17_1).f0)) 1) = 1 then (impl_Road_isRelay.j1 k1 l1 x2_1 a3 x11_1 l4 (l4.length : Int) x17_1 true a0_0 a0_1 ((rd_T70 l4 x17_1).f0) ((rd_T70 l4 x17_1).f1) ((rd_T70 l4 x17_1).f2)) else (if ((rd_T70 l4 x17_1).f1) = x2_1 then (if ((rd_T70 l4 x17_1).f2) ≤ x2_1 then (impl_Road_isRelay.j1 k1 l1 x2_1 a3 x11_1 l4 (l4.length : Int) x17_1 true a0_0 a0_1 ((rd_T70 l4 x17_1).f0) ((rd_T70 l4 x17_1).f1) ((rd_T70 l4 x17_1).f2)) else ((impl_Road_has.f k1 a0_0 a0_1 (([(rd_T70 l4 x17_1).f2] : List Int))).bind fun t229=>(impl_Road_isRelay.j1 k1 l1 x2_1 a3 x11_1 l4 (l4.length : Int) x17_1 (!t229) a0_0 a0_1 ((rd_T70 l4 x17_1).f0) ((rd_T70 l4 x17_1).f1) ((rd_T70 l4 x17_1).f2)))) else (impl_Road_isRelay.j1 k1 l1 x2_1 a3 x11_1 l4 (l4.length : Int) x17_1 true a0_0 a0_1 ((rd_T70 l4 x17_1).f0) ((rd_T70 l4 x17_1).f1) ((rd_T70 l4 x17_1).f2)))) else (none)) else (impl_Road_isRelay.j1 k1 l1 x2_1 a3 x11_1 l4 (l4.length : Int) x17_1 true a0_0 a0_1 ((rd_T70 l4 x17_1).f0) ((rd_T70 l4 x17_1).f1) ((rd_T70 l4 x17_1).f2))) = some r:=H
   have A14:=Aside0.mk A140
   clear A140
   by_cases c15 : t225 = true
   rotate_left
   ·replace c15:=Bool.eq_false_iff.mpr c15
    subst c15
    have H1 : (impl_Road_isRelay.j1 k1 l1 x2_1 a3 x11_1 l4 (l4.length : Int) x17_1 true a0_0 a0_1 ((rd_T70 l4 x17_1).f0) ((rd_T70 l4 x17_1).f1) ((rd_T70 l4 x17_1).f2)) = some r:=by rw [if_neg (show ¬ (false = true) by decide)] at H;exact H
    clear H
    have H:=H1
    clear H1
    have H':=Aside0.mk H
    clear H
    have hnb35:=NB224_222.out
    have hnc35:=NB222_224.out
    have hcz36_0 : w11.cell? ⟨gb224,0,none⟩ = some (.int .i64 0):=(blk_cell BK224.out 0).trans rfl
    have hcz36_1 : w11.cell? ⟨gb224,1,none⟩ = some (.int .i64 0):=(blk_cell BK224.out 1).trans rfl
    have hcz36_2 : w11.cell? ⟨gb224,2,none⟩ = some (.int .i64 0):=(blk_cell BK224.out 2).trans rfl
    have hfz36_0:=blk_frozen BK224.out 0
    have hfz36_1:=blk_frozen BK224.out 1
    have hfz36_2:=blk_frozen BK224.out 2
    go_wp2_with (first|((with_reducible refine gate_callee (f:=105) rfl ?_);refine goesL_ (some 26) rfl rfl Try.func105 (by kernel_rfl) rfl #[.int .i64 ((rd_T70 l4 x17_1).f0),.int .i64 0,.int .i64 (wrap64 ((l1.length : Int) - 1))] rfl (by (try simp only [List.map_toArray,List.map_cons,List.map_nil]);first|done|rfl|(simp only [List.length_drop,List.length_take];rfl)) ?_;(with_reducible refine (impl_within.calls ((rd_T70 l4 x17_1).f0) 0 (wrap64 ((l1.length : Int) - 1)) false _ A14.out).mono ?_);rintro e w' ⟨rfl,⟨nd,rfl⟩⟩;refine ⟨_,rfl,?_⟩))
    go_meet
    case rel=>exact ⟨_,(true),(by first|rfl|(simp;done)|(simp [*];done)),H',⟨by have:=HK1.out;first|omega|exact Nat.le_refl _⟩,⟨by (with_reducible repeat (first|apply blk_drewN|apply blk_drew|apply blk_alloc));refine blk_far ?_ NB222_224.out _;(with_reducible repeat (first|apply blk_drewN|apply blk_drew|apply blk_alloc));refine blk_far ?_ NB222_224.out _;(with_reducible repeat (first|apply blk_drewN|apply blk_drew|apply blk_alloc));refine blk_far ?_ NB222_224.out _;(with_reducible repeat (first|apply blk_drewN|apply blk_drew|apply blk_alloc));exact BK222.out⟩,⟨by (with_reducible repeat (first|apply blk_drewN|apply blk_drew|apply blk_alloc));refine blk_put (cs:=#[.int .i64 ((rd_T70 l4 x17_1).f0),.int .i64 ((rd_T70 l4 x17_1).f1),.int .i64 0]) ?_ 2 _ rfl;(with_reducible repeat (first|apply blk_drewN|apply blk_drew|apply blk_alloc));refine blk_put (cs:=#[.int .i64 ((rd_T70 l4 x17_1).f0),.int .i64 0,.int .i64 0]) ?_ 1 _ rfl;(with_reducible repeat (first|apply blk_drewN|apply blk_drew|apply blk_alloc));refine blk_put (cs:=#[.int .i64 0,.int .i64 0,.int .i64 0]) ?_ 0 _ rfl;(with_reducible repeat (first|apply blk_drewN|apply blk_drew|apply blk_alloc));exact BK224.out⟩,⟨by repeat (first|(with_reducible first|exact HB.out|apply below_alloc|apply pw_below_drewN|apply below_drew1|refine below_set ?_ GE222.out|refine below_set ?_ GE224.out)|exact HB.out)⟩⟩
   subst c15
   have H1 : (if 0 ≤ ((rd_T70 l4 x17_1).f0) then (if (Go.bits .and .i64 (shr .i64 x11_1 ((rd_T70 l4 x17_1).f0)) 1) = 1 then (impl_Road_isRelay.j1 k1 l1 x2_1 a3 x11_1 l4 (l4.length : Int) x17_1 true a0_0 a0_1 ((rd_T70 l4 x17_1).f0) ((rd_T70 l4 x17_1).f1) ((rd_T70 l4 x17_1).f2)) else (if ((rd_T70 l4 x17_1).f1) = x2_1 then (if ((rd_T70 l4 x17_1).f2) ≤ x2_1 then (impl_Road_isRelay.j1 k1 l1 x2_1 a3 x11_1 l4 (l4.length : Int) x17_1 true a0_0 a0_1 ((rd_T70 l4 x17_1).f0) ((rd_T70 l4 x17_1).f1) ((rd_T70 l4 x17_1).f2)) else ((impl_Road_has.f k1 a0_0 a0_1 (([(rd_T70 l4 x17_1).f2] : List Int))).bind fun t229=>(impl_Road_isRelay.j1 k1 l1 x2_1 a3 x11_1 l4 (l4.length : Int) x17_1 (!t229) a0_0 a0_1 ((rd_T70 l4 x17_1).f0) ((rd_T70 l4 x17_1).f1) ((rd_T70 l4 x17_1).f2)))) else (impl_Road_isRelay.j1 k1 l1 x2_1 a3 x11_1 l4 (l4.length : Int) x17_1 true a0_0 a0_1 ((rd_T70 l4 x17_1).f0) ((rd_T70 l4 x17_1).f1) ((rd_T70 l4 x17_1).f2)))) else (none)) = some r:=by rw [if_pos rfl] at H;exact H
   clear H
   have H:=H1
   clear H1
   by_cases c16 : 0 ≤ ((rd_T70 l4 x17_1).f0)
   rotate_left
   ·rw [if_neg c16] at H
    exact absurd H (by simp)
   rw [if_pos c16] at H
   have c16b0:=eq_true c16
   have c16b1 : decide (0 ≤ ((rd_T70 l4 x17_1).f0)) = true:=decide_eq_true c16
   clear c16
   obtain ⟨ji17,hji17⟩ : ∃ j_ : Int,(shr .i64 x11_1 ((rd_T70 l4 x17_1).f0)) = j_:=⟨_,rfl⟩
   replace H : (if (Go.bits .and .i64 (ji17) 1) = 1 then (impl_Road_isRelay.j1 k1 l1 x2_1 a3 x11_1 l4 (l4.length : Int) x17_1 true a0_0 a0_1 ((rd_T70 l4 x17_1).f0) ((rd_T70 l4 x17_1).f1) ((rd_T70 l4 x17_1).f2)) else (if ((rd_T70 l4 x17_1).f1) = x2_1 then (if ((rd_T70 l4 x17_1).f2) ≤ x2_1 then (impl_Road_isRelay.j1 k1 l1 x2_1 a3 x11_1 l4 (l4.length : Int) x17_1 true a0_0 a0_1 ((rd_T70 l4 x17_1).f0) ((rd_T70 l4 x17_1).f1) ((rd_T70 l4 x17_1).f2)) else ((impl_Road_has.f k1 a0_0 a0_1 (([(rd_T70 l4 x17_1).f2] : List Int))).bind fun t229=>(impl_Road_isRelay.j1 k1 l1 x2_1 a3 x11_1 l4 (l4.length : Int) x17_1 (!t229) a0_0 a0_1 ((rd_T70 l4 x17_1).f0) ((rd_T70 l4 x17_1).f1) ((rd_T70 l4 x17_1).f2)))) else (impl_Road_isRelay.j1 k1 l1 x2_1 a3 x11_1 l4 (l4.length : Int) x17_1 true a0_0 a0_1 ((rd_T70 l4 x17_1).f0) ((rd_T70 l4 x17_1).f1) ((rd_T70 l4 x17_1).f2)))) = some r:=by first|(rw [hji17] at H;exact H)|(simp only [hji17] at H ⊢;exact H)
   (try rw [hji17] at A14)
   have hji17_ : (x11_1 / 2 ^ min ((rd_T70 l4 x17_1).f0).toNat 64) = ji17:=hji17
   have hji17z : ((rd_T70 l4 x17_1).f0) ≤ 64 → (x11_1 / 2 ^ ((rd_T70 l4 x17_1).f0).toNat) = ji17:=shr_small hji17
   by_cases c18 : (Go.bits .and .i64 (ji17) 1) = 1
   ·rw [if_pos c18] at H
    have c18b0 : ((Go.bits .and .i64 (ji17) 1) == 1) = true:=beq_iff_eq.mpr c18
    have c18b1 : ((Go.bits .and .i64 (ji17) 1) != 1) = false:=bne_eq_false_iff_eq.mpr c18
    clear c18
    (first|rw [c18b0]|(simp only [i64_w,i32_w];rw [c18b0])|skip)
    have H':=Aside0.mk H
    clear H
    have hnb19:=NB224_222.out
    have hnc19:=NB222_224.out
    have hcz20_0 : w11.cell? ⟨gb224,0,none⟩ = some (.int .i64 0):=(blk_cell BK224.out 0).trans rfl
    have hcz20_1 : w11.cell? ⟨gb224,1,none⟩ = some (.int .i64 0):=(blk_cell BK224.out 1).trans rfl
    have hcz20_2 : w11.cell? ⟨gb224,2,none⟩ = some (.int .i64 0):=(blk_cell BK224.out 2).trans rfl
    have hfz20_0:=blk_frozen BK224.out 0
    have hfz20_1:=blk_frozen BK224.out 1
    have hfz20_2:=blk_frozen BK224.out 2
    go_wp2_with (first|((with_reducible refine gate_callee (f:=105) rfl ?_);refine goesL_ (some 26) rfl rfl Try.func105 (by kernel_rfl) rfl #[.int .i64 ((rd_T70 l4 x17_1).f0),.int .i64 0,.int .i64 (wrap64 ((l1.length : Int) - 1))] rfl (by (try simp only [List.map_toArray,List.map_cons,List.map_nil]);first|done|rfl|(simp only [List.length_drop,List.length_take];rfl)) ?_;(with_reducible refine (impl_within.calls ((rd_T70 l4 x17_1).f0) 0 (wrap64 ((l1.length : Int) - 1)) true _ A14.out).mono ?_);rintro e w' ⟨rfl,⟨nd,rfl⟩⟩;refine ⟨_,rfl,?_⟩))
    go_meet
    case rel=>exact ⟨_,(true),(by first|rfl|(simp;done)|(simp [*];done)),H',⟨by have:=HK1.out;first|omega|exact Nat.le_refl _⟩,⟨by (with_reducible repeat (first|apply blk_drewN|apply blk_drew|apply blk_alloc));refine blk_far ?_ NB222_224.out _;(with_reducible repeat (first|apply blk_drewN|apply blk_drew|apply blk_alloc));refine blk_far ?_ NB222_224.out _;(with_reducible repeat (first|apply blk_drewN|apply blk_drew|apply blk_alloc));refine blk_far ?_ NB222_224.out _;(with_reducible repeat (first|apply blk_drewN|apply blk_drew|apply blk_alloc));exact BK222.out⟩,⟨by (with_reducible repeat (first|apply blk_drewN|apply blk_drew|apply blk_alloc));refine blk_put (cs:=#[.int .i64 ((rd_T70 l4 x17_1).f0),.int .i64 ((rd_T70 l4 x17_1).f1),.int .i64 0]) ?_ 2 _ rfl;(with_reducible repeat (first|apply blk_drewN|apply blk_drew|apply blk_alloc));refine blk_put (cs:=#[.int .i64 ((rd_T70 l4 x17_1).f0),.int .i64 0,.int .i64 0]) ?_ 1 _ rfl;(with_reducible repeat (first|apply blk_drewN|apply blk_drew|apply blk_alloc));refine blk_put (cs:=#[.int .i64 0,.int .i64 0,.int .i64 0]) ?_ 0 _ rfl;(with_reducible repeat (first|apply blk_drewN|apply blk_drew|apply blk_alloc));exact BK224.out⟩,⟨by repeat (first|(with_reducible first|exact HB.out|apply below_alloc|apply pw_below_drewN|apply below_drew1|refine below_set ?_ GE222.out|refine below_set ?_ GE224.out)|exact HB.out)⟩⟩
   rw [if_neg c18] at H
   have c18b0 : ((Go.bits .and .i64 (ji17) 1) == 1) = false:=beq_eq_false_iff_ne.mpr c18
   have c18b1 : ((Go.bits .and .i64 (ji17) 1) != 1) = true:=bne_iff_ne.mpr c18
   (first|rw [c18b0]|(simp only [i64_w,i32_w];rw [c18b0])|skip)
   by_cases c21 : ((rd_T70 l4 x17_1).f1) = x2_1
   rotate_left
   ·rw [if_neg c21] at H
    have c21b0 : (((rd_T70 l4 x17_1).f1) == x2_1) = false:=beq_eq_false_iff_ne.mpr c21
    have c21b1 : (((rd_T70 l4 x17_1).f1) != x2_1) = true:=bne_iff_ne.mpr c21
    have H':=Aside0.mk H
    clear H
    have hnb33:=NB224_222.out
    have hnc33:=NB222_224.out
    have hcz34_0 : w11.cell? ⟨gb224,0,none⟩ = some (.int .i64 0):=(blk_cell BK224.out 0).trans rfl
    have hcz34_1 : w11.cell? ⟨gb224,1,none⟩ = some (.int .i64 0):=(blk_cell BK224.out 1).trans rfl
    have hcz34_2 : w11.cell? ⟨gb224,2,none⟩ = some (.int .i64 0):=(blk_cell BK224.out 2).trans rfl
    have hfz34_0:=blk_frozen BK224.out 0
    have hfz34_1:=blk_frozen BK224.out 1
    have hfz34_2:=blk_frozen BK224.out 2
    go_wp2_with (first|((with_reducible refine gate_callee (f:=105) rfl ?_);refine goesL_ (some 26) rfl rfl Try.func105 (by kernel_rfl) rfl #[.int .i64 ((rd_T70 l4 x17_1).f0),.int .i64 0,.int .i64 (wrap64 ((l1.length : Int) - 1))] rfl (by (try simp only [List.map_toArray,List.map_cons,List.map_nil]);first|done|rfl|(simp only [List.length_drop,List.length_take];rfl)) ?_;(with_reducible refine (impl_within.calls ((rd_T70 l4 x17_1).f0) 0 (wrap64 ((l1.length : Int) - 1)) true _ A14.out).mono ?_);rintro e w' ⟨rfl,⟨nd,rfl⟩⟩;refine ⟨_,rfl,?_⟩))
    go_meet
    case rel=>exact ⟨_,(true),(by first|rfl|(simp;done)|(simp [*];done)),H',⟨by have:=HK1.out;first|omega|exact Nat.le_refl _⟩,⟨by (with_reducible repeat (first|apply blk_drewN|apply blk_drew|apply blk_alloc));refine blk_far ?_ NB222_224.out _;(with_reducible repeat (first|apply blk_drewN|apply blk_drew|apply blk_alloc));refine blk_far ?_ NB222_224.out _;(with_reducible repeat (first|apply blk_drewN|apply blk_drew|apply blk_alloc));refine blk_far ?_ NB222_224.out _;(with_reducible repeat (first|apply blk_drewN|apply blk_drew|apply blk_alloc));exact BK222.out⟩,⟨by (with_reducible repeat (first|apply blk_drewN|apply blk_drew|apply blk_alloc));refine blk_put (cs:=#[.int .i64 ((rd_T70 l4 x17_1).f0),.int .i64 ((rd_T70 l4 x17_1).f1),.int .i64 0]) ?_ 2 _ rfl;(with_reducible repeat (first|apply blk_drewN|apply blk_drew|apply blk_alloc));refine blk_put (cs:=#[.int .i64 ((rd_T70 l4 x17_1).f0),.int .i64 0,.int .i64 0]) ?_ 1 _ rfl;(with_reducible repeat (first|apply blk_drewN|apply blk_drew|apply blk_alloc));refine blk_put (cs:=#[.int .i64 0,.int .i64 0,.int .i64 0]) ?_ 0 _ rfl;(with_reducible repeat (first|apply blk_drewN|apply blk_drew|apply blk_alloc));exact BK224.out⟩,⟨by repeat (first|(with_reducible first|exact HB.out|apply below_alloc|apply pw_below_drewN|apply below_drew1|refine below_set ?_ GE222.out|refine below_set ?_ GE224.out)|exact HB.out)⟩⟩
   rw [if_pos c21] at H
   have c21b0 : (((rd_T70 l4 x17_1).f1) == x2_1) = true:=beq_iff_eq.mpr c21
   have c21b1 : (((rd_T70 l4 x17_1).f1) != x2_1) = false:=bne_eq_false_iff_eq.mpr c21
   clear c21
   by_cases c22 : ((rd_T70 l4 x17_1).f2) ≤ x2_1
   ·rw [if_pos c22] at H
    have c22b0 : decide (((rd_T70 l4 x17_1).f2) ≤ x2_1) = true:=decide_eq_true c22
    clear c22
    have H':=Aside0.mk H
    clear H
    have hnb23:=NB224_222.out
    have hnc23:=NB222_224.out
    have hcz24_0 : w11.cell? ⟨gb224,0,none⟩ = some (.int .i64 0):=(blk_cell BK224.out 0).trans rfl
    have hcz24_1 : w11.cell? ⟨gb224,1,none⟩ = some (.int .i64 0):=(blk_cell BK224.out 1).trans rfl
    have hcz24_2 : w11.cell? ⟨gb224,2,none⟩ = some (.int .i64 0):=(blk_cell BK224.out 2).trans rfl
    have hfz24_0:=blk_frozen BK224.out 0
    have hfz24_1:=blk_frozen BK224.out 1
    have hfz24_2:=blk_frozen BK224.out 2
    go_wp2_with (first|((with_reducible refine gate_callee (f:=105) rfl ?_);refine goesL_ (some 26) rfl rfl Try.func105 (by kernel_rfl) rfl #[.int .i64 ((rd_T70 l4 x17_1).f0),.int .i64 0,.int .i64 (wrap64 ((l1.length : Int) - 1))] rfl (by (try simp only [List.map_toArray,List.map_cons,List.map_nil]);first|done|rfl|(simp only [List.length_drop,List.length_take];rfl)) ?_;(with_reducible refine (impl_within.calls ((rd_T70 l4 x17_1).f0) 0 (wrap64 ((l1.length : Int) - 1)) true _ A14.out).mono ?_);rintro e w' ⟨rfl,⟨nd,rfl⟩⟩;refine ⟨_,rfl,?_⟩))
    go_meet
    case rel=>exact ⟨_,(true),(by first|rfl|(simp;done)|(simp [*];done)),H',⟨by have:=HK1.out;first|omega|exact Nat.le_refl _⟩,⟨by (with_reducible repeat (first|apply blk_drewN|apply blk_drew|apply blk_alloc));refine blk_far ?_ NB222_224.out _;(with_reducible repeat (first|apply blk_drewN|apply blk_drew|apply blk_alloc));refine blk_far ?_ NB222_224.out _;(with_reducible repeat (first|apply blk_drewN|apply blk_drew|apply blk_alloc));refine blk_far ?_ NB222_224.out _;(with_reducible repeat (first|apply blk_drewN|apply blk_drew|apply blk_alloc));exact BK222.out⟩,⟨by (with_reducible repeat (first|apply blk_drewN|apply blk_drew|apply blk_alloc));refine blk_put (cs:=#[.int .i64 ((rd_T70 l4 x17_1).f0),.int .i64 ((rd_T70 l4 x17_1).f1),.int .i64 0]) ?_ 2 _ rfl;(with_reducible repeat (first|apply blk_drewN|apply blk_drew|apply blk_alloc));refine blk_put (cs:=#[.int .i64 ((rd_T70 l4 x17_1).f0),.int .i64 0,.int .i64 0]) ?_ 1 _ rfl;(with_reducible repeat (first|apply blk_drewN|apply blk_drew|apply blk_alloc));refine blk_put (cs:=#[.int .i64 0,.int .i64 0,.int .i64 0]) ?_ 0 _ rfl;(with_reducible repeat (first|apply blk_drewN|apply blk_drew|apply blk_alloc));exact BK224.out⟩,⟨by repeat (first|(with_reducible first|exact HB.out|apply below_alloc|apply pw_below_drewN|apply below_drew1|refine below_set ?_ GE222.out|refine below_set ?_ GE224.out)|exact HB.out)⟩⟩
   rw [if_neg c22] at H
   have c22b0 : decide (((rd_T70 l4 x17_1).f2) ≤ x2_1) = false:=decide_eq_false c22
   clear c22
   obtain ⟨y226,hy226⟩ : ∃ y_ : List Int,y_ = (([(rd_T70 l4 x17_1).f2] : List Int)):=⟨_,rfl⟩
   replace H : ((impl_Road_has.f k1 a0_0 a0_1 y226).bind fun t229=>(impl_Road_isRelay.j1 k1 l1 x2_1 a3 x11_1 l4 (l4.length : Int) x17_1 (!t229) a0_0 a0_1 ((rd_T70 l4 x17_1).f0) ((rd_T70 l4 x17_1).f1) ((rd_T70 l4 x17_1).f2))) = some r:=by first|(rw [hy226];with_reducible exact H)|(have H2_:=(Option.bind_some _ _).symm.trans H;rw [hy226];with_reducible exact H2_)|(have H2_:=(Option.bind_some _ _).symm.trans H;with_reducible exact H2_)|with_reducible exact H|(rw [hy226];exact H)|exact H
   have Ny226:=Aside0.mk hy226
   clear hy226
   replace H:=Option.bind_eq_some_iff.mp H
   obtain ⟨t229,A250,H⟩:=H
   replace H : (impl_Road_isRelay.j1 k1 l1 x2_1 a3 x11_1 l4 (l4.length : Int) x17_1 (!t229) a0_0 a0_1 ((rd_T70 l4 x17_1).f0) ((rd_T70 l4 x17_1).f1) ((rd_T70 l4 x17_1).f2)) = some r:=H
   have A25:=Aside0.mk A250
   clear A250
   have H':=Aside0.mk H
   clear H
   have hnb26:=NB224_222.out
   have hnc26:=NB222_224.out
   have hcz27_0 : w11.cell? ⟨gb224,0,none⟩ = some (.int .i64 0):=(blk_cell BK224.out 0).trans rfl
   have hcz27_1 : w11.cell? ⟨gb224,1,none⟩ = some (.int .i64 0):=(blk_cell BK224.out 1).trans rfl
   have hcz27_2 : w11.cell? ⟨gb224,2,none⟩ = some (.int .i64 0):=(blk_cell BK224.out 2).trans rfl
   have hfz27_0:=blk_frozen BK224.out 0
   have hfz27_1:=blk_frozen BK224.out 1
   have hfz27_2:=blk_frozen BK224.out 2
   go_wp2_with (first|((with_reducible refine gate_callee (f:=105) rfl ?_);refine goesL_ (some 26) rfl rfl Try.func105 (by kernel_rfl) rfl #[.int .i64 ((rd_T70 l4 x17_1).f0),.int .i64 0,.int .i64 (wrap64 ((l1.length : Int) - 1))] rfl (by (try simp only [List.map_toArray,List.map_cons,List.map_nil]);first|done|rfl|(simp only [List.length_drop,List.length_take];rfl)) ?_;(with_reducible refine (impl_within.calls ((rd_T70 l4 x17_1).f0) 0 (wrap64 ((l1.length : Int) - 1)) true _ A14.out).mono ?_);rintro e w' ⟨rfl,⟨nd,rfl⟩⟩;refine ⟨_,rfl,?_⟩;have hcz28_0 : w11.cell? ⟨gb222,0,none⟩ = some (.int .i64 a0_0):=(blk_cell BK222.out 0).trans rfl;have hcz28_1 : w11.cell? ⟨gb222,1,none⟩ = some (.bool a0_1):=(blk_cell BK222.out 1).trans rfl;have hfz28_0:=blk_frozen BK222.out 0;have hfz28_1:=blk_frozen BK222.out 1)|((with_reducible refine gate_dst (N:=52) rfl ?_);(try (refine gate_guard (by rfl) ?_;dsimp only));refine R_lit (Kd.int .i64) _ 3 ?hg (N:=52) ?hd (xs:=([(rd_T70 l4 x17_1).f2] : List Int)) (inner:=[.int .i64 ((rd_T70 l4 x17_1).f2)]) (ok:=fun _=>True) (okp:=fun _=>True) ?hr ?hp (fun _ hk=>hk) trivial (Below.refl _ _) (Nat.le_refl _) (by simp) ?_;(case hd=>rfl);(case hg=>rfl);(case hr=>first|(go_simp;done)|(go_simp;rfl));(case hp=>exact (Reps.one (show Kd.M (Kd.int .i64) _ _ _ ((rd_T70 l4 x17_1).f2) [.int .i64 ((rd_T70 l4 x17_1).f2)] from rfl) (Reps.none _ _)));intro v227 w29 ho30 hb hg_ hnew_;clear hg_ hnew_;(first|rw [← Ny226.out] at ho30|(simp only [Int.reduceToNat] at ho30;rw [← Ny226.out] at ho30));have n0_:=Aside0.mk (R_lower ho30 (below_size (by repeat (first|(with_reducible first|exact HB.out|apply below_alloc|apply pw_below_drewN|apply below_drew1|refine below_set ?_ GE222.out|refine below_set ?_ GE224.out)|exact HB.out))));have n1_:=Aside0.mk (blk_below (g:=gb222) (o:=.cells #[.int .i64 a0_0,.bool a0_1] 28 (0,0)) (by (with_reducible repeat (first|apply blk_drewN|apply blk_drew|apply blk_alloc));refine blk_far ?_ NB222_224.out _;(with_reducible repeat (first|apply blk_drewN|apply blk_drew|apply blk_alloc));refine blk_far ?_ NB222_224.out _;(with_reducible repeat (first|apply blk_drewN|apply blk_drew|apply blk_alloc));refine blk_far ?_ NB222_224.out _;(with_reducible repeat (first|apply blk_drewN|apply blk_drew|apply blk_alloc));exact BK222.out) hb);have n2_:=Aside0.mk (blk_below (g:=gb224) (o:=.cells #[.int .i64 ((rd_T70 l4 x17_1).f0),.int .i64 ((rd_T70 l4 x17_1).f1),.int .i64 ((rd_T70 l4 x17_1).f2)] 70 (0,0)) (by (with_reducible repeat (first|apply blk_drewN|apply blk_drew|apply blk_alloc));refine blk_put (cs:=#[.int .i64 ((rd_T70 l4 x17_1).f0),.int .i64 ((rd_T70 l4 x17_1).f1),.int .i64 0]) ?_ 2 _ rfl;(with_reducible repeat (first|apply blk_drewN|apply blk_drew|apply blk_alloc));refine blk_put (cs:=#[.int .i64 ((rd_T70 l4 x17_1).f0),.int .i64 0,.int .i64 0]) ?_ 1 _ rfl;(with_reducible repeat (first|apply blk_drewN|apply blk_drew|apply blk_alloc));refine blk_put (cs:=#[.int .i64 0,.int .i64 0,.int .i64 0]) ?_ 0 _ rfl;(with_reducible repeat (first|apply blk_drewN|apply blk_drew|apply blk_alloc));exact BK224.out) hb);have n3_:=Aside0.mk (below_step (by repeat (first|(with_reducible first|exact HB.out|apply below_alloc|apply pw_below_drewN|apply below_drew1|refine below_set ?_ GE222.out|refine below_set ?_ GE224.out)|exact HB.out)) hb);clear BK222;clear BK224;clear HB;have HO228:=n0_;have BK222:=n1_;have BK224:=n2_;have HB:=n3_;clear n0_ n1_ n2_ n3_;clear hb ho30;obtain ⟨Ao31,co31,eo31⟩:=R_slice HO228.out;subst eo31)|(go_at_call 88;(with_reducible refine (impl_Road_has.calls k1 a0_0 a0_1 _ _ y226 t229 _ ?side1 ?side2 A25.out).mono ?_);(case side1=>repeat (first|exact (R_reads' HO228.out).2.2|(with_reducible refine C_alloc ?_ _)|(with_reducible refine C_drewN ?_ _)|(with_reducible refine C_drew ?_)));(case side2=>exact (R_reads' HO228.out).2.1);rintro e w32 ⟨rfl,hb⟩;have n0_:=Aside0.mk (R_below (by (with_reducible repeat (first|apply R_alloc|apply R_drewN|apply R_drew));exact HO228.out) hb);have n1_:=Aside0.mk (blk_below (g:=gb222) (o:=.cells #[.int .i64 a0_0,.bool a0_1] 28 (0,0)) (by (with_reducible repeat (first|apply blk_drewN|apply blk_drew|apply blk_alloc));exact BK222.out) hb);have n2_:=Aside0.mk (blk_below (g:=gb224) (o:=.cells #[.int .i64 ((rd_T70 l4 x17_1).f0),.int .i64 ((rd_T70 l4 x17_1).f1),.int .i64 ((rd_T70 l4 x17_1).f2)] 70 (0,0)) (by (with_reducible repeat (first|apply blk_drewN|apply blk_drew|apply blk_alloc));exact BK224.out) hb);have n3_:=Aside0.mk (below_step (by repeat (first|(with_reducible first|exact HB.out|apply below_alloc|apply pw_below_drewN|apply below_drew1|refine below_set ?_ GE222.out|refine below_set ?_ GE224.out)|exact HB.out)) hb);clear HO228;clear BK222;clear BK224;clear HB;have HO228:=n0_;have BK222:=n1_;have BK224:=n2_;have HB:=n3_;clear n0_ n1_ n2_ n3_;(try clear hb);(try clear hb2);(try clear hk);(try clear hi)))
   go_meet
   case rel=>exact ⟨_,(!t229),(by first|rfl|(simp;done)|(simp [*];done)),H',⟨by have:=HK1.out;first|omega|exact Nat.le_refl _⟩,⟨by (with_reducible repeat (first|apply blk_drewN|apply blk_drew|apply blk_alloc));exact BK222.out⟩,⟨by (with_reducible repeat (first|apply blk_drewN|apply blk_drew|apply blk_alloc));exact BK224.out⟩,⟨by repeat (first|(with_reducible first|exact HB.out|apply below_alloc|apply pw_below_drewN|apply below_drew1|refine below_set ?_ GE222.out|refine below_set ?_ GE224.out)|exact HB.out)⟩⟩
  clear HC10
  try clear c1
  try clear c2
  try clear p2
  try clear q2
  try clear hx2
  try clear c3
  try clear c4
  try clear c6
  try clear p6
  try clear c7
  try clear c7b0
  try clear c8
  try clear c8b0
  try clear c9
  try clear c9b0
  try clear c10
  try clear c12
  try clear c15
  try clear c16
  try clear c16b0
  try clear c16b1
  try clear c18
  try clear c18b0
  try clear c18b1
  try clear c19
  try clear c21
  try clear c21b0
  try clear c21b1
  try clear c22
  try clear c22b0
  try clear p22
  try clear q22
  try clear hx22
  try clear c23
  try clear c26
  try clear c33
  try clear c35
  try clear hcz13_0
  try clear hcz13_1
  try clear hcz13_2
  try clear hcz20_0
  try clear hcz20_1
  try clear hcz20_2
  try clear hcz24_0
  try clear hcz24_1
  try clear hcz24_2
  try clear hcz27_0
  try clear hcz27_1
  try clear hcz27_2
  try clear hcz28_0
  try clear hcz28_1
  try clear hcz34_0
  try clear hcz34_1
  try clear hcz34_2
  try clear hcz36_0
  try clear hcz36_1
  try clear hcz36_2
  try clear hfz13_0
  try clear hfz13_1
  try clear hfz13_2
  try clear hfz20_0
  try clear hfz20_1
  try clear hfz20_2
  try clear hfz24_0
  try clear hfz24_1
  try clear hfz24_2
  try clear hfz27_0
  try clear hfz27_1
  try clear hfz27_2
  try clear hfz28_0
  try clear hfz28_1
  try clear hfz34_0
  try clear hfz34_1
  try clear hfz34_2
  try clear hfz36_0
  try clear hfz36_1
  try clear hfz36_2
  try clear hx223_0
  try clear hx223_1
  try clear hx223_2
  try clear p2
  try clear p223
  try clear q223
  obtain ⟨kq,x55_9,rfl,HA,HJ9,BK222,BK224,HB⟩:=hcut
  cases kq with
  | zero=>exact absurd HA.out (by simp [impl_Road_isRelay.j1])
  | succ kj9 =>
   have H:=HA.out
   clear HA
   simp only [impl_Road_isRelay.j1] at H
   by_cases c37 : x55_9 = true
   ·subst c37
    have H1 : (some false) = some r:=by rw [if_pos rfl] at H;exact H
    clear H
    have H:=H1
    clear H1
    obtain rfl:=Option.some.inj H
    go_wp2
    go_ret
    exact ⟨by first|rfl|(simp [errW_none,errW_some] <;> rfl)|(simp [*,errW_none,errW_some] <;> rfl),by repeat (first|(with_reducible first|exact HB.out|apply below_alloc|apply pw_below_drewN|apply below_drew1|refine below_set ?_ GE222.out|refine below_set ?_ GE224.out)|exact HB.out)⟩
   replace c37:=Bool.eq_false_iff.mpr c37
   subst c37
   have H1 : (if 0 ≤ ((rd_T70 l4 x17_1).f0) then (if ((rd_T70 l4 x17_1).f0) < (l1.length : Int) then ((impl_Road_steps.f a0_0 a0_1 ((rd_T63 l1 ((rd_T70 l4 x17_1).f0)).f0) ((rd_T63 l1 ((rd_T70 l4 x17_1).f0)).f1) ((rd_T63 l1 ((rd_T70 l4 x17_1).f0)).f2) x2_1 ((rd_T70 l4 x17_1).f2)).bind fun t232=>(if t232 > ((rd_T63 l1 ((rd_T70 l4 x17_1).f0)).f1) then (some false) else (impl_Road_isRelay.l0 kj9 l1 ((rd_T70 l4 x17_1).f2) a3 (Go.bits .or .i64 x11_1 (shl .i64 1 ((rd_T70 l4 x17_1).f0))) l4 (l4.length : Int) (wrap64 (x17_1 + 1)) a0_0 a0_1))) else (none)) else (none)) = some r:=by rw [if_neg (show ¬ (false = true) by decide)] at H;exact H
   clear H
   have H:=H1
   clear H1
   by_cases c38 : 0 ≤ ((rd_T70 l4 x17_1).f0)
   rotate_left
   ·rw [if_neg c38] at H
    exact absurd H (by simp)
   rw [if_pos c38] at H
   have c38b0 : decide (0 ≤ ((rd_T70 l4 x17_1).f0)) = true:=decide_eq_true c38
   clear c38
   by_cases c39 : ((rd_T70 l4 x17_1).f0) < (l1.length : Int)
   rotate_left
   ·rw [if_neg c39] at H
    exact absurd H (by simp)
   rw [if_pos c39] at H
   have c39b0 : decide (((rd_T70 l4 x17_1).f0) < (l1.length : Int)) = true:=decide_eq_true c39
   clear c39
   replace H:=Option.bind_eq_some_iff.mp H
   obtain ⟨t232,A400,H⟩:=H
   replace H : (if t232 > ((rd_T63 l1 ((rd_T70 l4 x17_1).f0)).f1) then (some false) else (impl_Road_isRelay.l0 kj9 l1 ((rd_T70 l4 x17_1).f2) a3 (Go.bits .or .i64 x11_1 (shl .i64 1 ((rd_T70 l4 x17_1).f0))) l4 (l4.length : Int) (wrap64 (x17_1 + 1)) a0_0 a0_1)) = some r:=H
   have A40:=Aside0.mk A400
   clear A400
   by_cases c41 : t232 > ((rd_T63 l1 ((rd_T70 l4 x17_1).f0)).f1)
   ·rw [if_pos c41] at H
    have c41b0 : decide (((rd_T63 l1 ((rd_T70 l4 x17_1).f0)).f1) < t232) = true:=decide_eq_true c41
    clear c41
    obtain rfl:=Option.some.inj H
    have hnb42:=NB224_222.out
    have hnc42:=NB222_224.out
    have hcz43_0 : wc.cell? ⟨gb224,0,none⟩ = some (.int .i64 ((rd_T70 l4 x17_1).f0)):=(blk_cell BK224.out 0).trans rfl
    have hcz43_1 : wc.cell? ⟨gb224,1,none⟩ = some (.int .i64 ((rd_T70 l4 x17_1).f1)):=(blk_cell BK224.out 1).trans rfl
    have hcz43_2 : wc.cell? ⟨gb224,2,none⟩ = some (.int .i64 ((rd_T70 l4 x17_1).f2)):=(blk_cell BK224.out 2).trans rfl
    have hfz43_0:=blk_frozen BK224.out 0
    have hfz43_1:=blk_frozen BK224.out 1
    have hfz43_2:=blk_frozen BK224.out 2
    have p230 : 0 ≤ (((rd_T70 l4 x17_1).f0) : Int):=of_decide_eq_true (by first|(with_reducible assumption)|assumption)
    have q230 : ((rd_T70 l4 x17_1).f0) < (l1.length : Int):=of_decide_eq_true (by first|(with_reducible assumption)|assumption)
    obtain ⟨ad230,e230,hx230_0,hx230_1,hx230_2⟩:=at_T63 HR1.out ((rd_T70 l4 x17_1).f0) p230 q230
    cases e230
    replace hx230_0:=(HB.out.cell (World.block_lt_of_cell? w _ hx230_0)).trans hx230_0
    replace hx230_1:=(HB.out.cell (World.block_lt_of_cell? w _ hx230_1)).trans hx230_1
    replace hx230_2:=(HB.out.cell (World.block_lt_of_cell? w _ hx230_2)).trans hx230_2
    replace p230:=eq_true p230
    replace q230:=eq_true q230
    try go_wp2_with (first|((with_reducible refine gate_dst (N:=14) rfl ?_);(try (refine gate_guard (by rfl) ?_;dsimp only));refine box_event ?hg (N:=14) ?hd (cs:=#[.int .i64 0,.int .i64 0,.int .i64 0]) (t:=63) ?hr ?_;(case hd=>rfl);(case hg=>rfl);(case hr=>first|(go_simp;done)|(go_simp;rfl));intro gb231 hg w44 hbox hb;have n0_:=Aside0.mk (blk_below (g:=gb222) (o:=.cells #[.int .i64 a0_0,.bool a0_1] 28 (0,0)) (by (with_reducible repeat (first|apply blk_drewN|apply blk_drew|apply blk_alloc));exact BK222.out) hb);have n1_:=Aside0.mk (blk_below (g:=gb224) (o:=.cells #[.int .i64 ((rd_T70 l4 x17_1).f0),.int .i64 ((rd_T70 l4 x17_1).f1),.int .i64 ((rd_T70 l4 x17_1).f2)] 70 (0,0)) (by (with_reducible repeat (first|apply blk_drewN|apply blk_drew|apply blk_alloc));exact BK224.out) hb);have n2_:=Aside0.mk (below_step (by repeat (first|(with_reducible first|exact HB.out|apply below_alloc|apply pw_below_drewN|apply below_drew1|refine below_set ?_ GE222.out|refine below_set ?_ GE224.out)|exact HB.out)) hb);have n3_:=Aside0.mk (hbox);have n4_:=Aside0.mk ((by rw [hg];exact (below_size (by repeat (first|(with_reducible first|exact HB.out|apply below_alloc|apply pw_below_drewN|apply below_drew1|refine below_set ?_ GE222.out|refine below_set ?_ GE224.out)|exact HB.out))) : w.heap.size ≤ gb231));have n5_:=Aside0.mk ((by rw [hg];exact (below_size (by repeat (first|(with_reducible first|exact HB.out|apply below_alloc|apply pw_below_drewN|apply below_drew1|refine below_set ?_ GE222.out|refine below_set ?_ GE224.out)|exact HB.out))) : w.heap.size ≤ gb231));have n6_:=Aside0.mk ((by rw [hg];exact Nat.ne_of_lt (blk_lt (g:=gb222) (o:=.cells #[.int .i64 a0_0,.bool a0_1] 28 (0,0)) (by (with_reducible repeat (first|apply blk_drewN|apply blk_drew|apply blk_alloc));exact BK222.out)) : gb222 ≠ gb231));have n7_:=Aside0.mk ((by rw [hg];exact Nat.ne_of_gt (blk_lt (g:=gb222) (o:=.cells #[.int .i64 a0_0,.bool a0_1] 28 (0,0)) (by (with_reducible repeat (first|apply blk_drewN|apply blk_drew|apply blk_alloc));exact BK222.out)) : gb231 ≠ gb222));have n8_:=Aside0.mk ((by rw [hg];exact Nat.ne_of_lt (blk_lt (g:=gb224) (o:=.cells #[.int .i64 ((rd_T70 l4 x17_1).f0),.int .i64 ((rd_T70 l4 x17_1).f1),.int .i64 ((rd_T70 l4 x17_1).f2)] 70 (0,0)) (by (with_reducible repeat (first|apply blk_drewN|apply blk_drew|apply blk_alloc));exact BK224.out)) : gb224 ≠ gb231));have n9_:=Aside0.mk ((by rw [hg];exact Nat.ne_of_gt (blk_lt (g:=gb224) (o:=.cells #[.int .i64 ((rd_T70 l4 x17_1).f0),.int .i64 ((rd_T70 l4 x17_1).f1),.int .i64 ((rd_T70 l4 x17_1).f2)] 70 (0,0)) (by (with_reducible repeat (first|apply blk_drewN|apply blk_drew|apply blk_alloc));exact BK224.out)) : gb231 ≠ gb224));clear BK222;clear BK224;clear HB;have BK222:=n0_;have BK224:=n1_;have HB:=n2_;have BK231:=n3_;have GW231:=n4_;have GE231:=n5_;have NB222_231:=n6_;have NB231_222:=n7_;have NB224_231:=n8_;have NB231_224:=n9_;clear n0_ n1_ n2_ n3_ n4_ n5_ n6_ n7_ n8_ n9_;clear hb hbox hg;have hnb45:=NB231_222.out;have hnc45:=NB222_231.out;have hnb46:=NB231_224.out;have hnc46:=NB224_231.out;have hcz47_0 : w44.cell? ⟨gb231,0,none⟩ = some (.int .i64 0):=(blk_cell BK231.out 0).trans rfl;have hcz47_1 : w44.cell? ⟨gb231,1,none⟩ = some (.int .i64 0):=(blk_cell BK231.out 1).trans rfl;have hcz47_2 : w44.cell? ⟨gb231,2,none⟩ = some (.int .i64 0):=(blk_cell BK231.out 2).trans rfl;have hfz47_0:=blk_frozen BK231.out 0;have hfz47_1:=blk_frozen BK231.out 1;have hfz47_2:=blk_frozen BK231.out 2))
    have n0_ : Aside0 ((((w44.setCell ⟨gb231,0,none⟩ (.int .i64 ((rd_T63 l1 ((rd_T70 l4 x17_1).f0)).f0))).setCell ⟨gb231,1,none⟩ (.int .i64 ((rd_T63 l1 ((rd_T70 l4 x17_1).f0)).f1))).setCell ⟨gb231,2,none⟩ (.int .i64 ((rd_T63 l1 ((rd_T70 l4 x17_1).f0)).f2))).heap[gb222]? = some (.cells #[.int .i64 a0_0,.bool a0_1] 28 (0,0))):=⟨by (with_reducible repeat (first|apply blk_drewN|apply blk_drew|apply blk_alloc));refine blk_far ?_ NB222_231.out _;(with_reducible repeat (first|apply blk_drewN|apply blk_drew|apply blk_alloc));refine blk_far ?_ NB222_231.out _;(with_reducible repeat (first|apply blk_drewN|apply blk_drew|apply blk_alloc));refine blk_far ?_ NB222_231.out _;(with_reducible repeat (first|apply blk_drewN|apply blk_drew|apply blk_alloc));exact BK222.out⟩
    have n1_ : Aside0 ((((w44.setCell ⟨gb231,0,none⟩ (.int .i64 ((rd_T63 l1 ((rd_T70 l4 x17_1).f0)).f0))).setCell ⟨gb231,1,none⟩ (.int .i64 ((rd_T63 l1 ((rd_T70 l4 x17_1).f0)).f1))).setCell ⟨gb231,2,none⟩ (.int .i64 ((rd_T63 l1 ((rd_T70 l4 x17_1).f0)).f2))).heap[gb224]? = some (.cells #[.int .i64 ((rd_T70 l4 x17_1).f0),.int .i64 ((rd_T70 l4 x17_1).f1),.int .i64 ((rd_T70 l4 x17_1).f2)] 70 (0,0))):=⟨by (with_reducible repeat (first|apply blk_drewN|apply blk_drew|apply blk_alloc));refine blk_far ?_ NB224_231.out _;(with_reducible repeat (first|apply blk_drewN|apply blk_drew|apply blk_alloc));refine blk_far ?_ NB224_231.out _;(with_reducible repeat (first|apply blk_drewN|apply blk_drew|apply blk_alloc));refine blk_far ?_ NB224_231.out _;(with_reducible repeat (first|apply blk_drewN|apply blk_drew|apply blk_alloc));exact BK224.out⟩
    have n2_ : Aside0 ((((w44.setCell ⟨gb231,0,none⟩ (.int .i64 ((rd_T63 l1 ((rd_T70 l4 x17_1).f0)).f0))).setCell ⟨gb231,1,none⟩ (.int .i64 ((rd_T63 l1 ((rd_T70 l4 x17_1).f0)).f1))).setCell ⟨gb231,2,none⟩ (.int .i64 ((rd_T63 l1 ((rd_T70 l4 x17_1).f0)).f2))).heap[gb231]? = some (.cells #[.int .i64 ((rd_T63 l1 ((rd_T70 l4 x17_1).f0)).f0),.int .i64 ((rd_T63 l1 ((rd_T70 l4 x17_1).f0)).f1),.int .i64 ((rd_T63 l1 ((rd_T70 l4 x17_1).f0)).f2)] 63 (0,0))):=⟨by (with_reducible repeat (first|apply blk_drewN|apply blk_drew|apply blk_alloc));refine blk_put (cs:=#[.int .i64 ((rd_T63 l1 ((rd_T70 l4 x17_1).f0)).f0),.int .i64 ((rd_T63 l1 ((rd_T70 l4 x17_1).f0)).f1),.int .i64 0]) ?_ 2 _ rfl;(with_reducible repeat (first|apply blk_drewN|apply blk_drew|apply blk_alloc));refine blk_put (cs:=#[.int .i64 ((rd_T63 l1 ((rd_T70 l4 x17_1).f0)).f0),.int .i64 0,.int .i64 0]) ?_ 1 _ rfl;(with_reducible repeat (first|apply blk_drewN|apply blk_drew|apply blk_alloc));refine blk_put (cs:=#[.int .i64 0,.int .i64 0,.int .i64 0]) ?_ 0 _ rfl;(with_reducible repeat (first|apply blk_drewN|apply blk_drew|apply blk_alloc));exact BK231.out⟩
    have n3_ : Aside0 (Below w.heap.size w (((w44.setCell ⟨gb231,0,none⟩ (.int .i64 ((rd_T63 l1 ((rd_T70 l4 x17_1).f0)).f0))).setCell ⟨gb231,1,none⟩ (.int .i64 ((rd_T63 l1 ((rd_T70 l4 x17_1).f0)).f1))).setCell ⟨gb231,2,none⟩ (.int .i64 ((rd_T63 l1 ((rd_T70 l4 x17_1).f0)).f2)))):=⟨by repeat (first|(with_reducible first|exact HB.out|apply below_alloc|apply pw_below_drewN|apply below_drew1|refine below_set ?_ GE222.out|refine below_set ?_ GE224.out|refine below_set ?_ GE231.out)|exact HB.out)⟩
    (try clear BK222)
    (try clear BK224)
    (try clear BK231)
    (try clear HB)
    generalize (((w44.setCell ⟨gb231,0,none⟩ (.int .i64 ((rd_T63 l1 ((rd_T70 l4 x17_1).f0)).f0))).setCell ⟨gb231,1,none⟩ (.int .i64 ((rd_T63 l1 ((rd_T70 l4 x17_1).f0)).f1))).setCell ⟨gb231,2,none⟩ (.int .i64 ((rd_T63 l1 ((rd_T70 l4 x17_1).f0)).f2))) = w48 at n0_ n1_ n2_ n3_ ⊢
    have BK222:=n0_
    have BK224:=n1_
    have BK231:=n2_
    have HB:=n3_
    clear n0_ n1_ n2_ n3_
    have n0_:=Aside0.mk (blk_drew BK222.out)
    have n1_:=Aside0.mk (blk_drew BK224.out)
    have n2_:=Aside0.mk (blk_drew BK231.out)
    have n3_:=Aside0.mk (below_drew1 HB.out)
    clear BK222
    clear BK224
    clear BK231
    clear HB
    have BK222:=n0_
    have BK224:=n1_
    have BK231:=n2_
    have HB:=n3_
    clear n0_ n1_ n2_ n3_
    refine start_ (n:=9) (S:=fun w'=>w'.cell? ⟨gb222,0,none⟩ = some (.int .i64 a0_0) ∧ w'.cell? ⟨gb222,1,none⟩ = some (.bool a0_1) ∧ w'.cell? ⟨gb231,0,none⟩ = some (.int .i64 ((rd_T63 l1 ((rd_T70 l4 x17_1).f0)).f0)) ∧ w'.cell? ⟨gb231,1,none⟩ = some (.int .i64 ((rd_T63 l1 ((rd_T70 l4 x17_1).f0)).f1)) ∧ w'.cell? ⟨gb231,2,none⟩ = some (.int .i64 ((rd_T63 l1 ((rd_T70 l4 x17_1).f0)).f2)) ∧ w'.cell? ⟨gb224,0,none⟩ = some (.int .i64 ((rd_T70 l4 x17_1).f0)) ∧ w'.cell? ⟨gb224,1,none⟩ = some (.int .i64 ((rd_T70 l4 x17_1).f1)) ∧ w'.cell? ⟨gb224,2,none⟩ = some (.int .i64 ((rd_T70 l4 x17_1).f2))) (ds:=[]) #[false,false,false,false,false,false,false,false,false] (by kernel_rfl) rfl rfl ⟨(blk_cell BK222.out 0).trans rfl,(blk_cell BK222.out 1).trans rfl,(blk_cell BK231.out 0).trans rfl,(blk_cell BK231.out 1).trans rfl,(blk_cell BK231.out 2).trans rfl,(blk_cell BK224.out 0).trans rfl,(blk_cell BK224.out 1).trans rfl,(blk_cell BK224.out 2).trans rfl⟩ (fun hHeld=>?_);refine with_tabW impl_Road_isRelay.tab8 impl_Road_isRelay.bits8 (fun HT_ HW_=>?_)
    generalize w48.drew = w49 at BK222 BK224 BK231 HB hHeld ⊢
    refine pure_ (i:=2) (N:=some 63) (v:=?_) (a':=?_) #[false,false,true,false,false,false,false,false,false] rfl rfl (any_of HT_.out (by kernel_rfl)) (fun _ _ _ h=>h) (Or.inl ⟨by rfl,?_⟩) ?_ ?_
    rotate_left
    ·intro w'
     go_simp
     with_reducible rfl
    rotate_left
    ·simp only [Act.put,List.setIfInBounds_toArray,List.set_cons_zero,List.set_cons_succ,i64_w,i32_w]
     rfl
    refine pure_ (i:=3) (N:=some 64) (v:=?_) (a':=?_) #[false,false,true,true,false,false,false,false,false] rfl rfl (any_of HT_.out (by kernel_rfl)) (fun _ _ _ h=>h) (Or.inl ⟨by rfl,?_⟩) ?_ ?_
    rotate_left
    ·intro w'
     go_simp
     with_reducible rfl
    rotate_left
    ·simp only [Act.put,List.setIfInBounds_toArray,List.set_cons_zero,List.set_cons_succ,i64_w,i32_w]
     rfl
    refine pure_ (i:=6) (N:=some 67) (v:=?_) (a':=?_) #[false,false,true,true,false,false,true,false,false] rfl rfl (any_of HT_.out (by kernel_rfl)) (fun _ _ _ h=>h) (Or.inl ⟨by rfl,?_⟩) ?_ ?_
    rotate_left
    ·intro w'
     go_simp
     with_reducible rfl
    rotate_left
    ·simp only [Act.put,List.setIfInBounds_toArray,List.set_cons_zero,List.set_cons_succ,i64_w,i32_w]
     rfl
    refine take_ (i:=0) (N:=some 61) (v:=?_) (a':=?_) #[true,false,true,true,false,false,true,false,false] rfl rfl (take_ofW HT_.out HW_.out (by kernel_rfl)) (fun _ _ _ h=>h) (Or.inl ⟨by rfl,?_⟩) hHeld ?_ ?_
    rotate_left
    ·rintro w' ⟨s0,s1,s2,s3,s4,s5,s6,s7⟩
     go_simp
     with_reducible rfl
    rotate_left
    ·simp only [Act.put,List.setIfInBounds_toArray,List.set_cons_zero,List.set_cons_succ,i64_w,i32_w]
     rfl
    refine take_ (i:=1) (N:=some 62) (v:=?_) (a':=?_) #[true,true,true,true,false,false,true,false,false] rfl rfl (take_ofW HT_.out HW_.out (by kernel_rfl)) (fun _ _ _ h=>h) (Or.inl ⟨by rfl,?_⟩) hHeld ?_ ?_
    rotate_left
    ·rintro w' ⟨s0,s1,s2,s3,s4,s5,s6,s7⟩
     go_simp
     with_reducible rfl
    rotate_left
    ·simp only [Act.put,List.setIfInBounds_toArray,List.set_cons_zero,List.set_cons_succ,i64_w,i32_w]
     rfl
    refine take_ (i:=4) (N:=some 65) (v:=?_) (a':=?_) #[true,true,true,true,true,false,true,false,false] rfl rfl (take_ofW HT_.out HW_.out (by kernel_rfl)) (fun _ _ _ h=>h) (Or.inl ⟨by rfl,?_⟩) hHeld ?_ ?_
    rotate_left
    ·rintro w' ⟨s0,s1,s2,s3,s4,s5,s6,s7⟩
     go_simp
     with_reducible rfl
    rotate_left
    ·simp only [Act.put,List.setIfInBounds_toArray,List.set_cons_zero,List.set_cons_succ,i64_w,i32_w]
     rfl
    refine take_ (i:=7) (N:=some 68) (v:=?_) (a':=?_) #[true,true,true,true,true,false,true,true,false] rfl rfl (take_ofW HT_.out HW_.out (by kernel_rfl)) (fun _ _ _ h=>h) (Or.inl ⟨by rfl,?_⟩) hHeld ?_ ?_
    rotate_left
    ·rintro w' ⟨s0,s1,s2,s3,s4,s5,s6,s7⟩
     go_simp
     with_reducible rfl
    rotate_left
    ·simp only [Act.put,List.setIfInBounds_toArray,List.set_cons_zero,List.set_cons_succ,i64_w,i32_w]
     rfl
    refine one_ (i:=5) (N:=some 66) #[true,true,true,true,true,true,true,true,false] rfl rfl (one_of HT_.out (by kernel_rfl)) (by decide) (fun K hK=>?_)
    refine goes_ Try.func65 (by kernel_rfl) rfl #[.agg #[.int .i64 a0_0,.bool a0_1],.agg #[.int .i64 ((rd_T63 l1 ((rd_T70 l4 x17_1).f0)).f0),.int .i64 ((rd_T63 l1 ((rd_T70 l4 x17_1).f0)).f1),.int .i64 ((rd_T63 l1 ((rd_T70 l4 x17_1).f0)).f2)],.int .i64 x2_1,.int .i64 ((rd_T70 l4 x17_1).f2)] (by rfl) rfl rfl (by (try simp only [List.map_toArray,List.map_cons,List.map_nil]);first|done|rfl|(simp only [List.length_drop,List.length_take];rfl)) ?_
    with_reducible refine (impl_Road_steps.calls a0_0 a0_1 ((rd_T63 l1 ((rd_T70 l4 x17_1).f0)).f0) ((rd_T63 l1 ((rd_T70 l4 x17_1).f0)).f1) ((rd_T63 l1 ((rd_T70 l4 x17_1).f0)).f2) x2_1 ((rd_T70 l4 x17_1).f2) t232 _ A40.out).mono ?_
    rintro e w50 ⟨rfl,hb⟩
    refine ⟨_,rfl,?_⟩
    have n0_:=Aside0.mk (blk_below (g:=gb222) (o:=.cells #[.int .i64 a0_0,.bool a0_1] 28 (0,0)) (by (with_reducible repeat (first|apply blk_drewN|apply blk_drew|apply blk_alloc));exact BK222.out) hb)
    have n1_:=Aside0.mk (blk_below (g:=gb224) (o:=.cells #[.int .i64 ((rd_T70 l4 x17_1).f0),.int .i64 ((rd_T70 l4 x17_1).f1),.int .i64 ((rd_T70 l4 x17_1).f2)] 70 (0,0)) (by (with_reducible repeat (first|apply blk_drewN|apply blk_drew|apply blk_alloc));exact BK224.out) hb)
    have n2_:=Aside0.mk (blk_below (g:=gb231) (o:=.cells #[.int .i64 ((rd_T63 l1 ((rd_T70 l4 x17_1).f0)).f0),.int .i64 ((rd_T63 l1 ((rd_T70 l4 x17_1).f0)).f1),.int .i64 ((rd_T63 l1 ((rd_T70 l4 x17_1).f0)).f2)] 63 (0,0)) (by (with_reducible repeat (first|apply blk_drewN|apply blk_drew|apply blk_alloc));exact BK231.out) hb)
    have n3_:=Aside0.mk (below_step (by repeat (first|(with_reducible first|exact HB.out|apply below_alloc|apply pw_below_drewN|apply below_drew1|refine below_set ?_ GE222.out|refine below_set ?_ GE224.out|refine below_set ?_ GE231.out)|exact HB.out)) hb)
    clear BK222
    clear BK224
    clear BK231
    clear HB
    have BK222:=n0_
    have BK224:=n1_
    have BK231:=n2_
    have HB:=n3_
    clear n0_ n1_ n2_ n3_
    (try clear hb)
    (try clear hb2)
    (try clear hk)
    (try clear hi)
    refine hK.out _ _ ⟨(blk_cell BK222.out 0).trans rfl,(blk_cell BK222.out 1).trans rfl,(blk_cell BK231.out 0).trans rfl,(blk_cell BK231.out 1).trans rfl,(blk_cell BK231.out 2).trans rfl,(blk_cell BK224.out 0).trans rfl,(blk_cell BK224.out 1).trans rfl,(blk_cell BK224.out 2).trans rfl⟩ (fun hHeld=>?_)
    clear hK K
    refine norm_ (a':=?_) ?_ ?_
    rotate_left
    ·show Act.put _ (some 66) _ = _
     simp only [Act.put,List.setIfInBounds_toArray,List.set_cons_zero,List.set_cons_succ,i64_w,i32_w]
     rfl
    refine pure_ (i:=8) (N:=some 69) (v:=?_) (a':=?_) #[true,true,true,true,true,true,true,true,true] rfl rfl (any_of HT_.out (by kernel_rfl)) (fun _ _ _ h=>h) (Or.inl ⟨by rfl,?_⟩) ?_ ?_
    rotate_left
    ·intro w'
     go_simp
     with_reducible rfl
    rotate_left
    ·simp only [Act.put,List.setIfInBounds_toArray,List.set_cons_zero,List.set_cons_succ,i64_w,i32_w]
     rfl
    refine done_ (done_of HT_.out (by kernel_rfl)) ?_
    try go_wp2
    go_ret
    exact ⟨by first|rfl|(simp [errW_none,errW_some] <;> rfl)|(simp [*,errW_none,errW_some] <;> rfl),by repeat (first|(with_reducible first|exact HB.out|apply below_alloc|apply pw_below_drewN|apply below_drew1|refine below_set ?_ GE222.out|refine below_set ?_ GE224.out|refine below_set ?_ GE231.out)|exact HB.out)⟩
   rw [if_neg c41] at H
   have c41b0 : decide (((rd_T63 l1 ((rd_T70 l4 x17_1).f0)).f1) < t232) = false:=decide_eq_false c41
   clear c41
   have c51b0:=eq_true (of_decide_eq_true (by first|(with_reducible assumption)|assumption) : 0 ≤ ((rd_T70 l4 x17_1).f0))
   obtain ⟨ji52,hji52⟩ : ∃ j_ : Int,(shl .i64 1 ((rd_T70 l4 x17_1).f0)) = j_:=⟨_,rfl⟩
   replace H : (impl_Road_isRelay.l0 kj9 l1 ((rd_T70 l4 x17_1).f2) a3 (Go.bits .or .i64 x11_1 (ji52)) l4 (l4.length : Int) (wrap64 (x17_1 + 1)) a0_0 a0_1) = some r:=by first|(rw [hji52] at H;exact H)|(simp only [hji52] at H ⊢;exact H)
   (try rw [hji52] at A40)
   have hji52_ : (IntKind.i64.wrap (1 * 2 ^ min ((rd_T70 l4 x17_1).f0).toNat 64)) = ji52:=hji52
   have hji52z : ((rd_T70 l4 x17_1).f0) ≤ 64 → (IntKind.i64.wrap (1 * 2 ^ ((rd_T70 l4 x17_1).f0).toNat)) = ji52:=shl_small hji52
   have hji52u : (IntKind.i64.wrap (2 ^ min ((rd_T70 l4 x17_1).f0).toNat 64)) = ji52:=by have h_:=hji52_;rw [Int.one_mul] at h_;exact h_
   have hji52v : ((rd_T70 l4 x17_1).f0) ≤ 64 → (IntKind.i64.wrap (2 ^ ((rd_T70 l4 x17_1).f0).toNat)) = ji52:=fun hle_=>by have h_:=hji52z hle_;rw [Int.one_mul] at h_;exact h_
   have hji52y : (wrap64 (1 * 2 ^ min ((rd_T70 l4 x17_1).f0).toNat 64)) = ji52:=(i64_w _).symm.trans hji52_
   have hji52x : ((rd_T70 l4 x17_1).f0) ≤ 64 → (wrap64 (1 * 2 ^ ((rd_T70 l4 x17_1).f0).toNat)) = ji52:=fun h_=>(i64_w _).symm.trans (hji52z h_)
   have H':=Aside0.mk H
   clear H
   have hnb53:=NB224_222.out
   have hnc53:=NB222_224.out
   have hcz54_0 : wc.cell? ⟨gb224,0,none⟩ = some (.int .i64 ((rd_T70 l4 x17_1).f0)):=(blk_cell BK224.out 0).trans rfl
   have hcz54_1 : wc.cell? ⟨gb224,1,none⟩ = some (.int .i64 ((rd_T70 l4 x17_1).f1)):=(blk_cell BK224.out 1).trans rfl
   have hcz54_2 : wc.cell? ⟨gb224,2,none⟩ = some (.int .i64 ((rd_T70 l4 x17_1).f2)):=(blk_cell BK224.out 2).trans rfl
   have hfz54_0:=blk_frozen BK224.out 0
   have hfz54_1:=blk_frozen BK224.out 1
   have hfz54_2:=blk_frozen BK224.out 2
   have p230 : 0 ≤ (((rd_T70 l4 x17_1).f0) : Int):=of_decide_eq_true (by first|(with_reducible assumption)|assumption)
   have q230 : ((rd_T70 l4 x17_1).f0) < (l1.length : Int):=of_decide_eq_true (by first|(with_reducible assumption)|assumption)
   obtain ⟨ad230,e230,hx230_0,hx230_1,hx230_2⟩:=at_T63 HR1.out ((rd_T70 l4 x17_1).f0) p230 q230
   cases e230
   replace hx230_0:=(HB.out.cell (World.block_lt_of_cell? w _ hx230_0)).trans hx230_0
   replace hx230_1:=(HB.out.cell (World.block_lt_of_cell? w _ hx230_1)).trans hx230_1
   replace hx230_2:=(HB.out.cell (World.block_lt_of_cell? w _ hx230_2)).trans hx230_2
   replace p230:=eq_true p230
   replace q230:=eq_true q230
   try go_wp2_with (first|((with_reducible refine gate_dst (N:=14) rfl ?_);(try (refine gate_guard (by rfl) ?_;dsimp only));refine box_event ?hg (N:=14) ?hd (cs:=#[.int .i64 0,.int .i64 0,.int .i64 0]) (t:=63) ?hr ?_;(case hd=>rfl);(case hg=>rfl);(case hr=>first|(go_simp;done)|(go_simp;rfl));intro gb231 hg w55 hbox hb;have n0_:=Aside0.mk (blk_below (g:=gb222) (o:=.cells #[.int .i64 a0_0,.bool a0_1] 28 (0,0)) (by (with_reducible repeat (first|apply blk_drewN|apply blk_drew|apply blk_alloc));exact BK222.out) hb);have n1_:=Aside0.mk (blk_below (g:=gb224) (o:=.cells #[.int .i64 ((rd_T70 l4 x17_1).f0),.int .i64 ((rd_T70 l4 x17_1).f1),.int .i64 ((rd_T70 l4 x17_1).f2)] 70 (0,0)) (by (with_reducible repeat (first|apply blk_drewN|apply blk_drew|apply blk_alloc));exact BK224.out) hb);have n2_:=Aside0.mk (below_step (by repeat (first|(with_reducible first|exact HB.out|apply below_alloc|apply pw_below_drewN|apply below_drew1|refine below_set ?_ GE222.out|refine below_set ?_ GE224.out)|exact HB.out)) hb);have n3_:=Aside0.mk (hbox);have n4_:=Aside0.mk ((by rw [hg];exact (below_size (by repeat (first|(with_reducible first|exact HB.out|apply below_alloc|apply pw_below_drewN|apply below_drew1|refine below_set ?_ GE222.out|refine below_set ?_ GE224.out)|exact HB.out))) : w.heap.size ≤ gb231));have n5_:=Aside0.mk ((by rw [hg];exact (below_size (by repeat (first|(with_reducible first|exact HB.out|apply below_alloc|apply pw_below_drewN|apply below_drew1|refine below_set ?_ GE222.out|refine below_set ?_ GE224.out)|exact HB.out))) : w.heap.size ≤ gb231));have n6_:=Aside0.mk ((by rw [hg];exact Nat.ne_of_lt (blk_lt (g:=gb222) (o:=.cells #[.int .i64 a0_0,.bool a0_1] 28 (0,0)) (by (with_reducible repeat (first|apply blk_drewN|apply blk_drew|apply blk_alloc));exact BK222.out)) : gb222 ≠ gb231));have n7_:=Aside0.mk ((by rw [hg];exact Nat.ne_of_gt (blk_lt (g:=gb222) (o:=.cells #[.int .i64 a0_0,.bool a0_1] 28 (0,0)) (by (with_reducible repeat (first|apply blk_drewN|apply blk_drew|apply blk_alloc));exact BK222.out)) : gb231 ≠ gb222));have n8_:=Aside0.mk ((by rw [hg];exact Nat.ne_of_lt (blk_lt (g:=gb224) (o:=.cells #[.int .i64 ((rd_T70 l4 x17_1).f0),.int .i64 ((rd_T70 l4 x17_1).f1),.int .i64 ((rd_T70 l4 x17_1).f2)] 70 (0,0)) (by (with_reducible repeat (first|apply blk_drewN|apply blk_drew|apply blk_alloc));exact BK224.out)) : gb224 ≠ gb231));have n9_:=Aside0.mk ((by rw [hg];exact Nat.ne_of_gt (blk_lt (g:=gb224) (o:=.cells #[.int .i64 ((rd_T70 l4 x17_1).f0),.int .i64 ((rd_T70 l4 x17_1).f1),.int .i64 ((rd_T70 l4 x17_1).f2)] 70 (0,0)) (by (with_reducible repeat (first|apply blk_drewN|apply blk_drew|apply blk_alloc));exact BK224.out)) : gb231 ≠ gb224));clear BK222;clear BK224;clear HB;have BK222:=n0_;have BK224:=n1_;have HB:=n2_;have BK231:=n3_;have GW231:=n4_;have GE231:=n5_;have NB222_231:=n6_;have NB231_222:=n7_;have NB224_231:=n8_;have NB231_224:=n9_;clear n0_ n1_ n2_ n3_ n4_ n5_ n6_ n7_ n8_ n9_;clear hb hbox hg;have hnb56:=NB231_222.out;have hnc56:=NB222_231.out;have hnb57:=NB231_224.out;have hnc57:=NB224_231.out;have hcz58_0 : w55.cell? ⟨gb231,0,none⟩ = some (.int .i64 0):=(blk_cell BK231.out 0).trans rfl;have hcz58_1 : w55.cell? ⟨gb231,1,none⟩ = some (.int .i64 0):=(blk_cell BK231.out 1).trans rfl;have hcz58_2 : w55.cell? ⟨gb231,2,none⟩ = some (.int .i64 0):=(blk_cell BK231.out 2).trans rfl;have hfz58_0:=blk_frozen BK231.out 0;have hfz58_1:=blk_frozen BK231.out 1;have hfz58_2:=blk_frozen BK231.out 2))
   have n0_ : Aside0 ((((w55.setCell ⟨gb231,0,none⟩ (.int .i64 ((rd_T63 l1 ((rd_T70 l4 x17_1).f0)).f0))).setCell ⟨gb231,1,none⟩ (.int .i64 ((rd_T63 l1 ((rd_T70 l4 x17_1).f0)).f1))).setCell ⟨gb231,2,none⟩ (.int .i64 ((rd_T63 l1 ((rd_T70 l4 x17_1).f0)).f2))).heap[gb222]? = some (.cells #[.int .i64 a0_0,.bool a0_1] 28 (0,0))):=⟨by (with_reducible repeat (first|apply blk_drewN|apply blk_drew|apply blk_alloc));refine blk_far ?_ NB222_231.out _;(with_reducible repeat (first|apply blk_drewN|apply blk_drew|apply blk_alloc));refine blk_far ?_ NB222_231.out _;(with_reducible repeat (first|apply blk_drewN|apply blk_drew|apply blk_alloc));refine blk_far ?_ NB222_231.out _;(with_reducible repeat (first|apply blk_drewN|apply blk_drew|apply blk_alloc));exact BK222.out⟩
   have n1_ : Aside0 ((((w55.setCell ⟨gb231,0,none⟩ (.int .i64 ((rd_T63 l1 ((rd_T70 l4 x17_1).f0)).f0))).setCell ⟨gb231,1,none⟩ (.int .i64 ((rd_T63 l1 ((rd_T70 l4 x17_1).f0)).f1))).setCell ⟨gb231,2,none⟩ (.int .i64 ((rd_T63 l1 ((rd_T70 l4 x17_1).f0)).f2))).heap[gb224]? = some (.cells #[.int .i64 ((rd_T70 l4 x17_1).f0),.int .i64 ((rd_T70 l4 x17_1).f1),.int .i64 ((rd_T70 l4 x17_1).f2)] 70 (0,0))):=⟨by (with_reducible repeat (first|apply blk_drewN|apply blk_drew|apply blk_alloc));refine blk_far ?_ NB224_231.out _;(with_reducible repeat (first|apply blk_drewN|apply blk_drew|apply blk_alloc));refine blk_far ?_ NB224_231.out _;(with_reducible repeat (first|apply blk_drewN|apply blk_drew|apply blk_alloc));refine blk_far ?_ NB224_231.out _;(with_reducible repeat (first|apply blk_drewN|apply blk_drew|apply blk_alloc));exact BK224.out⟩
   have n2_ : Aside0 ((((w55.setCell ⟨gb231,0,none⟩ (.int .i64 ((rd_T63 l1 ((rd_T70 l4 x17_1).f0)).f0))).setCell ⟨gb231,1,none⟩ (.int .i64 ((rd_T63 l1 ((rd_T70 l4 x17_1).f0)).f1))).setCell ⟨gb231,2,none⟩ (.int .i64 ((rd_T63 l1 ((rd_T70 l4 x17_1).f0)).f2))).heap[gb231]? = some (.cells #[.int .i64 ((rd_T63 l1 ((rd_T70 l4 x17_1).f0)).f0),.int .i64 ((rd_T63 l1 ((rd_T70 l4 x17_1).f0)).f1),.int .i64 ((rd_T63 l1 ((rd_T70 l4 x17_1).f0)).f2)] 63 (0,0))):=⟨by (with_reducible repeat (first|apply blk_drewN|apply blk_drew|apply blk_alloc));refine blk_put (cs:=#[.int .i64 ((rd_T63 l1 ((rd_T70 l4 x17_1).f0)).f0),.int .i64 ((rd_T63 l1 ((rd_T70 l4 x17_1).f0)).f1),.int .i64 0]) ?_ 2 _ rfl;(with_reducible repeat (first|apply blk_drewN|apply blk_drew|apply blk_alloc));refine blk_put (cs:=#[.int .i64 ((rd_T63 l1 ((rd_T70 l4 x17_1).f0)).f0),.int .i64 0,.int .i64 0]) ?_ 1 _ rfl;(with_reducible repeat (first|apply blk_drewN|apply blk_drew|apply blk_alloc));refine blk_put (cs:=#[.int .i64 0,.int .i64 0,.int .i64 0]) ?_ 0 _ rfl;(with_reducible repeat (first|apply blk_drewN|apply blk_drew|apply blk_alloc));exact BK231.out⟩
   have n3_ : Aside0 (Below w.heap.size w (((w55.setCell ⟨gb231,0,none⟩ (.int .i64 ((rd_T63 l1 ((rd_T70 l4 x17_1).f0)).f0))).setCell ⟨gb231,1,none⟩ (.int .i64 ((rd_T63 l1 ((rd_T70 l4 x17_1).f0)).f1))).setCell ⟨gb231,2,none⟩ (.int .i64 ((rd_T63 l1 ((rd_T70 l4 x17_1).f0)).f2)))):=⟨by repeat (first|(with_reducible first|exact HB.out|apply below_alloc|apply pw_below_drewN|apply below_drew1|refine below_set ?_ GE222.out|refine below_set ?_ GE224.out|refine below_set ?_ GE231.out)|exact HB.out)⟩
   (try clear BK222)
   (try clear BK224)
   (try clear BK231)
   (try clear HB)
   generalize (((w55.setCell ⟨gb231,0,none⟩ (.int .i64 ((rd_T63 l1 ((rd_T70 l4 x17_1).f0)).f0))).setCell ⟨gb231,1,none⟩ (.int .i64 ((rd_T63 l1 ((rd_T70 l4 x17_1).f0)).f1))).setCell ⟨gb231,2,none⟩ (.int .i64 ((rd_T63 l1 ((rd_T70 l4 x17_1).f0)).f2))) = w59 at n0_ n1_ n2_ n3_ ⊢
   have BK222:=n0_
   have BK224:=n1_
   have BK231:=n2_
   have HB:=n3_
   clear n0_ n1_ n2_ n3_
   have n0_:=Aside0.mk (blk_drew BK222.out)
   have n1_:=Aside0.mk (blk_drew BK224.out)
   have n2_:=Aside0.mk (blk_drew BK231.out)
   have n3_:=Aside0.mk (below_drew1 HB.out)
   clear BK222
   clear BK224
   clear BK231
   clear HB
   have BK222:=n0_
   have BK224:=n1_
   have BK231:=n2_
   have HB:=n3_
   clear n0_ n1_ n2_ n3_
   refine start_ (n:=9) (S:=fun w'=>w'.cell? ⟨gb222,0,none⟩ = some (.int .i64 a0_0) ∧ w'.cell? ⟨gb222,1,none⟩ = some (.bool a0_1) ∧ w'.cell? ⟨gb231,0,none⟩ = some (.int .i64 ((rd_T63 l1 ((rd_T70 l4 x17_1).f0)).f0)) ∧ w'.cell? ⟨gb231,1,none⟩ = some (.int .i64 ((rd_T63 l1 ((rd_T70 l4 x17_1).f0)).f1)) ∧ w'.cell? ⟨gb231,2,none⟩ = some (.int .i64 ((rd_T63 l1 ((rd_T70 l4 x17_1).f0)).f2)) ∧ w'.cell? ⟨gb224,0,none⟩ = some (.int .i64 ((rd_T70 l4 x17_1).f0)) ∧ w'.cell? ⟨gb224,1,none⟩ = some (.int .i64 ((rd_T70 l4 x17_1).f1)) ∧ w'.cell? ⟨gb224,2,none⟩ = some (.int .i64 ((rd_T70 l4 x17_1).f2))) (ds:=[]) #[false,false,false,false,false,false,false,false,false] (by kernel_rfl) rfl rfl ⟨(blk_cell BK222.out 0).trans rfl,(blk_cell BK222.out 1).trans rfl,(blk_cell BK231.out 0).trans rfl,(blk_cell BK231.out 1).trans rfl,(blk_cell BK231.out 2).trans rfl,(blk_cell BK224.out 0).trans rfl,(blk_cell BK224.out 1).trans rfl,(blk_cell BK224.out 2).trans rfl⟩ (fun hHeld=>?_);refine with_tabW impl_Road_isRelay.tab8 impl_Road_isRelay.bits8 (fun HT_ HW_=>?_)
   generalize w59.drew = w60 at BK222 BK224 BK231 HB hHeld ⊢
   refine pure_ (i:=2) (N:=some 63) (v:=?_) (a':=?_) #[false,false,true,false,false,false,false,false,false] rfl rfl (any_of HT_.out (by kernel_rfl)) (fun _ _ _ h=>h) (Or.inl ⟨by rfl,?_⟩) ?_ ?_
   rotate_left
   ·intro w'
    go_simp
    with_reducible rfl
   rotate_left
   ·simp only [Act.put,List.setIfInBounds_toArray,List.set_cons_zero,List.set_cons_succ,i64_w,i32_w]
    rfl
   refine pure_ (i:=3) (N:=some 64) (v:=?_) (a':=?_) #[false,false,true,true,false,false,false,false,false] rfl rfl (any_of HT_.out (by kernel_rfl)) (fun _ _ _ h=>h) (Or.inl ⟨by rfl,?_⟩) ?_ ?_
   rotate_left
   ·intro w'
    go_simp
    with_reducible rfl
   rotate_left
   ·simp only [Act.put,List.setIfInBounds_toArray,List.set_cons_zero,List.set_cons_succ,i64_w,i32_w]
    rfl
   refine pure_ (i:=6) (N:=some 67) (v:=?_) (a':=?_) #[false,false,true,true,false,false,true,false,false] rfl rfl (any_of HT_.out (by kernel_rfl)) (fun _ _ _ h=>h) (Or.inl ⟨by rfl,?_⟩) ?_ ?_
   rotate_left
   ·intro w'
    go_simp
    with_reducible rfl
   rotate_left
   ·simp only [Act.put,List.setIfInBounds_toArray,List.set_cons_zero,List.set_cons_succ,i64_w,i32_w]
    rfl
   refine take_ (i:=0) (N:=some 61) (v:=?_) (a':=?_) #[true,false,true,true,false,false,true,false,false] rfl rfl (take_ofW HT_.out HW_.out (by kernel_rfl)) (fun _ _ _ h=>h) (Or.inl ⟨by rfl,?_⟩) hHeld ?_ ?_
   rotate_left
   ·rintro w' ⟨s0,s1,s2,s3,s4,s5,s6,s7⟩
    go_simp
    with_reducible rfl
   rotate_left
   ·simp only [Act.put,List.setIfInBounds_toArray,List.set_cons_zero,List.set_cons_succ,i64_w,i32_w]
    rfl
   refine take_ (i:=1) (N:=some 62) (v:=?_) (a':=?_) #[true,true,true,true,false,false,true,false,false] rfl rfl (take_ofW HT_.out HW_.out (by kernel_rfl)) (fun _ _ _ h=>h) (Or.inl ⟨by rfl,?_⟩) hHeld ?_ ?_
   rotate_left
   ·rintro w' ⟨s0,s1,s2,s3,s4,s5,s6,s7⟩
    go_simp
    with_reducible rfl
   rotate_left
   ·simp only [Act.put,List.setIfInBounds_toArray,List.set_cons_zero,List.set_cons_succ,i64_w,i32_w]
    rfl
   refine take_ (i:=4) (N:=some 65) (v:=?_) (a':=?_) #[true,true,true,true,true,false,true,false,false] rfl rfl (take_ofW HT_.out HW_.out (by kernel_rfl)) (fun _ _ _ h=>h) (Or.inl ⟨by rfl,?_⟩) hHeld ?_ ?_
   rotate_left
   ·rintro w' ⟨s0,s1,s2,s3,s4,s5,s6,s7⟩
    go_simp
    with_reducible rfl
   rotate_left
   ·simp only [Act.put,List.setIfInBounds_toArray,List.set_cons_zero,List.set_cons_succ,i64_w,i32_w]
    rfl
   refine take_ (i:=7) (N:=some 68) (v:=?_) (a':=?_) #[true,true,true,true,true,false,true,true,false] rfl rfl (take_ofW HT_.out HW_.out (by kernel_rfl)) (fun _ _ _ h=>h) (Or.inl ⟨by rfl,?_⟩) hHeld ?_ ?_
   rotate_left
   ·rintro w' ⟨s0,s1,s2,s3,s4,s5,s6,s7⟩
    go_simp
    with_reducible rfl
   rotate_left
   ·simp only [Act.put,List.setIfInBounds_toArray,List.set_cons_zero,List.set_cons_succ,i64_w,i32_w]
    rfl
   refine one_ (i:=5) (N:=some 66) #[true,true,true,true,true,true,true,true,false] rfl rfl (one_of HT_.out (by kernel_rfl)) (by decide) (fun K hK=>?_)
   refine goes_ Try.func65 (by kernel_rfl) rfl #[.agg #[.int .i64 a0_0,.bool a0_1],.agg #[.int .i64 ((rd_T63 l1 ((rd_T70 l4 x17_1).f0)).f0),.int .i64 ((rd_T63 l1 ((rd_T70 l4 x17_1).f0)).f1),.int .i64 ((rd_T63 l1 ((rd_T70 l4 x17_1).f0)).f2)],.int .i64 x2_1,.int .i64 ((rd_T70 l4 x17_1).f2)] (by rfl) rfl rfl (by (try simp only [List.map_toArray,List.map_cons,List.map_nil]);first|done|rfl|(simp only [List.length_drop,List.length_take];rfl)) ?_
   with_reducible refine (impl_Road_steps.calls a0_0 a0_1 ((rd_T63 l1 ((rd_T70 l4 x17_1).f0)).f0) ((rd_T63 l1 ((rd_T70 l4 x17_1).f0)).f1) ((rd_T63 l1 ((rd_T70 l4 x17_1).f0)).f2) x2_1 ((rd_T70 l4 x17_1).f2) t232 _ A40.out).mono ?_
   rintro e w61 ⟨rfl,hb⟩
   refine ⟨_,rfl,?_⟩
   have n0_:=Aside0.mk (blk_below (g:=gb222) (o:=.cells #[.int .i64 a0_0,.bool a0_1] 28 (0,0)) (by (with_reducible repeat (first|apply blk_drewN|apply blk_drew|apply blk_alloc));exact BK222.out) hb)
   have n1_:=Aside0.mk (blk_below (g:=gb224) (o:=.cells #[.int .i64 ((rd_T70 l4 x17_1).f0),.int .i64 ((rd_T70 l4 x17_1).f1),.int .i64 ((rd_T70 l4 x17_1).f2)] 70 (0,0)) (by (with_reducible repeat (first|apply blk_drewN|apply blk_drew|apply blk_alloc));exact BK224.out) hb)
   have n2_:=Aside0.mk (blk_below (g:=gb231) (o:=.cells #[.int .i64 ((rd_T63 l1 ((rd_T70 l4 x17_1).f0)).f0),.int .i64 ((rd_T63 l1 ((rd_T70 l4 x17_1).f0)).f1),.int .i64 ((rd_T63 l1 ((rd_T70 l4 x17_1).f0)).f2)] 63 (0,0)) (by (with_reducible repeat (first|apply blk_drewN|apply blk_drew|apply blk_alloc));exact BK231.out) hb)
   have n3_:=Aside0.mk (below_step (by repeat (first|(with_reducible first|exact HB.out|apply below_alloc|apply pw_below_drewN|apply below_drew1|refine below_set ?_ GE222.out|refine below_set ?_ GE224.out|refine below_set ?_ GE231.out)|exact HB.out)) hb)
   clear BK222
   clear BK224
   clear BK231
   clear HB
   have BK222:=n0_
   have BK224:=n1_
   have BK231:=n2_
   have HB:=n3_
   clear n0_ n1_ n2_ n3_
   (try clear hb)
   (try clear hb2)
   (try clear hk)
   (try clear hi)
   refine hK.out _ _ ⟨(blk_cell BK222.out 0).trans rfl,(blk_cell BK222.out 1).trans rfl,(blk_cell BK231.out 0).trans rfl,(blk_cell BK231.out 1).trans rfl,(blk_cell BK231.out 2).trans rfl,(blk_cell BK224.out 0).trans rfl,(blk_cell BK224.out 1).trans rfl,(blk_cell BK224.out 2).trans rfl⟩ (fun hHeld=>?_)
   clear hK K
   refine norm_ (a':=?_) ?_ ?_
   rotate_left
   ·show Act.put _ (some 66) _ = _
    simp only [Act.put,List.setIfInBounds_toArray,List.set_cons_zero,List.set_cons_succ,i64_w,i32_w]
    rfl
   refine pure_ (i:=8) (N:=some 69) (v:=?_) (a':=?_) #[true,true,true,true,true,true,true,true,true] rfl rfl (any_of HT_.out (by kernel_rfl)) (fun _ _ _ h=>h) (Or.inl ⟨by rfl,?_⟩) ?_ ?_
   rotate_left
   ·intro w'
    go_simp
    with_reducible rfl
   rotate_left
   ·simp only [Act.put,List.setIfInBounds_toArray,List.set_cons_zero,List.set_cons_succ,i64_w,i32_w]
    rfl
   refine done_ (done_of HT_.out (by kernel_rfl)) ?_
   have hcz62_0 : w61.cell? ⟨gb224,0,none⟩ = some (.int .i64 ((rd_T70 l4 x17_1).f0)):=(blk_cell BK224.out 0).trans rfl
   have hcz62_1 : w61.cell? ⟨gb224,1,none⟩ = some (.int .i64 ((rd_T70 l4 x17_1).f1)):=(blk_cell BK224.out 1).trans rfl
   have hcz62_2 : w61.cell? ⟨gb224,2,none⟩ = some (.int .i64 ((rd_T70 l4 x17_1).f2)):=(blk_cell BK224.out 2).trans rfl
   have hfz62_0:=blk_frozen BK224.out 0
   have hfz62_1:=blk_frozen BK224.out 1
   have hfz62_2:=blk_frozen BK224.out 2
   try go_wp2
   go_roundg kj9
   case measure=>have:=HK1.out;have:=HJ9.out;omega
   case rel=>exact ⟨(((rd_T70 l4 x17_1).f2)),(Go.bits .or .i64 x11_1 (ji52)),(wrap64 (x17_1 + 1)),(by first|rfl|(simp;done)|(simp [*];done)),(by first|rfl|(simp;done)|(simp only [← hji52] <;> (first|rfl|simp))|(simp [*];done)),(by first|rfl|(simp;done)|(simp [*];done)),H',⟨by have:=HK1.out;have:=HJ9.out;omega⟩,⟨by (with_reducible repeat (first|apply blk_drewN|apply blk_drew|apply blk_alloc));exact BK222.out⟩,⟨by repeat (first|(with_reducible first|exact HB.out|apply below_alloc|apply pw_below_drewN|apply below_drew1|refine below_set ?_ GE222.out|refine below_set ?_ GE224.out|refine below_set ?_ GE231.out)|exact HB.out)⟩⟩

/-! ### impl_Road_arrives: function 70 -/
def impl_Road_arrives.f (a0_0 : Int) (a0_1 : Bool) (a1_0 : Int) (a1_1 : Int) (a1_2 : Int) (a2 : Int) (a3 : Int) (a4 : Int) : Option (Int):=(impl_Road_gap.f a0_0 a0_1 a1_0 a3).bind fun t235=>((impl_Road_gap.f a0_0 a0_1 a3 a4).bind fun t236=>(some (wrap64 ((mx a2 t235) + t236))))
def impl_Road_arrives.T1 : Bool × List (List Nat × List Nat):=(true,[([],[]),([],[]),([],[]),([2],[2]),([],[]),([1,3,4],[1,3,4]),([0,5],[0,5]),([],[]),([],[]),([],[]),([7,8,9,5],[7,8,9]),([6,10],[6,10]),([11,10,0,1,2,3,4,5,6,7,8,9,10,11],[11])])
def impl_Road_arrives.B1 : List Nat:=[0,0,0,4,0,30,63,0,0,0,958,2047,4095]
theorem impl_Road_arrives.tab1 : rtab .any (opsOf Try.f70 1) = impl_Road_arrives.T1:=by kernel_rfl
theorem impl_Road_arrives.bits1 : waitsOk impl_Road_arrives.T1.2 impl_Road_arrives.B1 = true:=by kernel_rfl
set_option maxHeartbeats 8000000 in
set_option maxRecDepth 100000 in
theorem impl_Road_arrives.calls (a0_0 : Int) (a0_1 : Bool) (a1_0 : Int) (a1_1 : Int) (a1_2 : Int) (a2 : Int) (a3 : Int) (a4 : Int) (r : Int) (w : World) (h : impl_Road_arrives.f a0_0 a0_1 a1_0 a1_1 a1_2 a2 a3 a4 = some r) :
  Calls Try.prog 70 #[.agg #[.int .i64 a0_0,.bool a0_1],.agg #[.int .i64 a1_0,.int .i64 a1_1,.int .i64 a1_2],.int .i64 a2,.int .i64 a3,.int .i64 a4] w fun e w'=>e = .returned (.int .i64 r) ∧ Below w.heap.size w w':=by
 have hu28:=Try.underlying28
 have hu63:=Try.underlying63
 have HB:=Aside0.mk (Below.refl w.heap.size w)
 have H : ((impl_Road_gap.f a0_0 a0_1 a1_0 a3).bind fun t235=>((impl_Road_gap.f a0_0 a0_1 a3 a4).bind fun t236=>(some (wrap64 ((mx a2 t235) + t236))))) = some r:=h
 clear h
 replace H:=Option.bind_eq_some_iff.mp H
 obtain ⟨t235,A60,H⟩:=H
 replace H : ((impl_Road_gap.f a0_0 a0_1 a3 a4).bind fun t236=>(some (wrap64 ((mx a2 t235) + t236)))) = some r:=H
 have A6:=Aside0.mk A60
 clear A60
 obtain ⟨ji7,hji7⟩ : ∃ j_ : Int,(mx a2 t235) = j_:=⟨_,rfl⟩
 replace H : ((impl_Road_gap.f a0_0 a0_1 a3 a4).bind fun t236=>(some (wrap64 ((ji7) + t236)))) = some r:=by first|(rw [hji7] at H;exact H)|(simp only [hji7] at H ⊢;exact H)
 (try rw [hji7] at A6)
 have hji7_ : (if a2 < t235 then t235 else a2) = ji7:=hji7
 replace H:=Option.bind_eq_some_iff.mp H
 obtain ⟨t236,A80,H⟩:=H
 replace H : (some (wrap64 ((ji7) + t236))) = some r:=H
 have A8:=Aside0.mk A80
 clear A80
 obtain rfl:=Option.some.inj H
 go_enter Try.func70,Try.ntmps70
 try go_wp2_with (first|((with_reducible refine gate_dst (N:=5) rfl ?_);refine box_event ?hg (N:=5) ?hd (cs:=#[.int .i64 a0_0,.bool a0_1]) (t:=28) ?hr ?_;(case hd=>rfl);(case hg=>rfl);(case hr=>first|(go_simp;done)|(go_simp;rfl));intro gb233 hg w9 hbox hb;have n0_:=Aside0.mk (below_step (by repeat (first|(with_reducible first|exact HB.out|apply below_alloc|apply pw_below_drewN|apply below_drew1)|exact HB.out)) hb);have n1_:=Aside0.mk (hbox);have n2_:=Aside0.mk ((by rw [hg];exact (below_size (by repeat (first|(with_reducible first|exact HB.out|apply below_alloc|apply pw_below_drewN|apply below_drew1)|exact HB.out))) : w.heap.size ≤ gb233));have n3_:=Aside0.mk ((by rw [hg];exact (below_size (by repeat (first|(with_reducible first|exact HB.out|apply below_alloc|apply pw_below_drewN|apply below_drew1)|exact HB.out))) : w.heap.size ≤ gb233));clear HB;have HB:=n0_;have BK233:=n1_;have GW233:=n2_;have GE233:=n3_;clear n0_ n1_ n2_ n3_;clear hb hbox hg)|((with_reducible refine gate_dst (N:=6) rfl ?_);refine box_event ?hg (N:=6) ?hd (cs:=#[.int .i64 a1_0,.int .i64 a1_1,.int .i64 a1_2]) (t:=63) ?hr ?_;(case hd=>rfl);(case hg=>rfl);(case hr=>first|(go_simp;done)|(go_simp;rfl));intro gb234 hg w10 hbox hb;have n0_:=Aside0.mk (blk_below (g:=gb233) (o:=.cells #[.int .i64 a0_0,.bool a0_1] 28 (0,0)) (by (with_reducible repeat (first|apply blk_drewN|apply blk_drew|apply blk_alloc));exact BK233.out) hb);have n1_:=Aside0.mk (below_step (by repeat (first|(with_reducible first|exact HB.out|apply below_alloc|apply pw_below_drewN|apply below_drew1|refine below_set ?_ GE233.out)|exact HB.out)) hb);have n2_:=Aside0.mk (hbox);have n3_:=Aside0.mk ((by rw [hg];exact (below_size (by repeat (first|(with_reducible first|exact HB.out|apply below_alloc|apply pw_below_drewN|apply below_drew1|refine below_set ?_ GE233.out)|exact HB.out))) : w.heap.size ≤ gb234));have n4_:=Aside0.mk ((by rw [hg];exact (below_size (by repeat (first|(with_reducible first|exact HB.out|apply below_alloc|apply pw_below_drewN|apply below_drew1|refine below_set ?_ GE233.out)|exact HB.out))) : w.heap.size ≤ gb234));have n5_:=Aside0.mk ((by rw [hg];exact Nat.ne_of_lt (blk_lt (g:=gb233) (o:=.cells #[.int .i64 a0_0,.bool a0_1] 28 (0,0)) (by (with_reducible repeat (first|apply blk_drewN|apply blk_drew|apply blk_alloc));exact BK233.out)) : gb233 ≠ gb234));have n6_:=Aside0.mk ((by rw [hg];exact Nat.ne_of_gt (blk_lt (g:=gb233) (o:=.cells #[.int .i64 a0_0,.bool a0_1] 28 (0,0)) (by (with_reducible repeat (first|apply blk_drewN|apply blk_drew|apply blk_alloc));exact BK233.out)) : gb234 ≠ gb233));clear BK233;clear HB;have BK233:=n0_;have HB:=n1_;have BK234:=n2_;have GW234:=n3_;have GE234:=n4_;have NB233_234:=n5_;have NB234_233:=n6_;clear n0_ n1_ n2_ n3_ n4_ n5_ n6_;clear hb hbox hg))
 have n0_:=Aside0.mk (blk_drew BK233.out)
 have n1_:=Aside0.mk (blk_drew BK234.out)
 have n2_:=Aside0.mk (below_drew1 HB.out)
 clear BK233
 clear BK234
 clear HB
 have BK233:=n0_
 have BK234:=n1_
 have HB:=n2_
 clear n0_ n1_ n2_
 refine start_ (n:=13) (S:=fun w'=>w'.cell? ⟨gb233,0,none⟩ = some (.int .i64 a0_0) ∧ w'.cell? ⟨gb233,1,none⟩ = some (.bool a0_1) ∧ w'.cell? ⟨gb234,0,none⟩ = some (.int .i64 a1_0) ∧ w'.cell? ⟨gb234,1,none⟩ = some (.int .i64 a1_1) ∧ w'.cell? ⟨gb234,2,none⟩ = some (.int .i64 a1_2)) (ds:=[]) #[false,false,false,false,false,false,false,false,false,false,false,false,false] (by kernel_rfl) rfl rfl ⟨(blk_cell BK233.out 0).trans rfl,(blk_cell BK233.out 1).trans rfl,(blk_cell BK234.out 0).trans rfl,(blk_cell BK234.out 1).trans rfl,(blk_cell BK234.out 2).trans rfl⟩ (fun hHeld=>?_);refine with_tabW impl_Road_arrives.tab1 impl_Road_arrives.bits1 (fun HT_ HW_=>?_)
 generalize w10.drew = w11 at BK233 BK234 HB hHeld ⊢
 refine pure_ (i:=0) (N:=some 11) (v:=?_) (a':=?_) #[true,false,false,false,false,false,false,false,false,false,false,false,false] rfl rfl (any_of HT_.out (by kernel_rfl)) (fun _ _ _ h=>h) (Or.inl ⟨by rfl,?_⟩) ?_ ?_
 rotate_left
 ·intro w'
  go_simp
  with_reducible rfl
 rotate_left
 ·simp only [Act.put,List.setIfInBounds_toArray,List.set_cons_zero,List.set_cons_succ,i64_w,i32_w]
  rfl
 refine pure_ (i:=2) (N:=some 13) (v:=?_) (a':=?_) #[true,false,true,false,false,false,false,false,false,false,false,false,false] rfl rfl (any_of HT_.out (by kernel_rfl)) (fun _ _ _ h=>h) (Or.inl ⟨by rfl,?_⟩) ?_ ?_
 rotate_left
 ·intro w'
  go_simp
  with_reducible rfl
 rotate_left
 ·simp only [Act.put,List.setIfInBounds_toArray,List.set_cons_zero,List.set_cons_succ,i64_w,i32_w]
  rfl
 refine pure_ (i:=4) (N:=some 15) (v:=?_) (a':=?_) #[true,false,true,false,true,false,false,false,false,false,false,false,false] rfl rfl (any_of HT_.out (by kernel_rfl)) (fun _ _ _ h=>h) (Or.inl ⟨by rfl,?_⟩) ?_ ?_
 rotate_left
 ·intro w'
  go_simp
  with_reducible rfl
 rotate_left
 ·simp only [Act.put,List.setIfInBounds_toArray,List.set_cons_zero,List.set_cons_succ,i64_w,i32_w]
  rfl
 refine pure_ (i:=8) (N:=some 19) (v:=?_) (a':=?_) #[true,false,true,false,true,false,false,false,true,false,false,false,false] rfl rfl (any_of HT_.out (by kernel_rfl)) (fun _ _ _ h=>h) (Or.inl ⟨by rfl,?_⟩) ?_ ?_
 rotate_left
 ·intro w'
  go_simp
  with_reducible rfl
 rotate_left
 ·simp only [Act.put,List.setIfInBounds_toArray,List.set_cons_zero,List.set_cons_succ,i64_w,i32_w]
  rfl
 refine pure_ (i:=9) (N:=some 20) (v:=?_) (a':=?_) #[true,false,true,false,true,false,false,false,true,true,false,false,false] rfl rfl (any_of HT_.out (by kernel_rfl)) (fun _ _ _ h=>h) (Or.inl ⟨by rfl,?_⟩) ?_ ?_
 rotate_left
 ·intro w'
  go_simp
  with_reducible rfl
 rotate_left
 ·simp only [Act.put,List.setIfInBounds_toArray,List.set_cons_zero,List.set_cons_succ,i64_w,i32_w]
  rfl
 refine take_ (i:=1) (N:=some 12) (v:=?_) (a':=?_) #[true,true,true,false,true,false,false,false,true,true,false,false,false] rfl rfl (take_ofW HT_.out HW_.out (by kernel_rfl)) (fun _ _ _ h=>h) (Or.inl ⟨by rfl,?_⟩) hHeld ?_ ?_
 rotate_left
 ·rintro w' ⟨s0,s1,s2,s3,s4⟩
  go_simp
  with_reducible rfl
 rotate_left
 ·simp only [Act.put,List.setIfInBounds_toArray,List.set_cons_zero,List.set_cons_succ,i64_w,i32_w]
  rfl
 refine take_ (i:=3) (N:=some 14) (v:=?_) (a':=?_) #[true,true,true,true,true,false,false,false,true,true,false,false,false] rfl rfl (take_ofW HT_.out HW_.out (by kernel_rfl)) (fun _ _ _ h=>h) (Or.inl ⟨by rfl,?_⟩) hHeld ?_ ?_
 rotate_left
 ·rintro w' ⟨s0,s1,s2,s3,s4⟩
  go_simp
  with_reducible rfl
 rotate_left
 ·simp only [Act.put,List.setIfInBounds_toArray,List.set_cons_zero,List.set_cons_succ,i64_w,i32_w]
  rfl
 refine take_ (i:=7) (N:=some 18) (v:=?_) (a':=?_) #[true,true,true,true,true,false,false,true,true,true,false,false,false] rfl rfl (take_ofW HT_.out HW_.out (by kernel_rfl)) (fun _ _ _ h=>h) (Or.inl ⟨by rfl,?_⟩) hHeld ?_ ?_
 rotate_left
 ·rintro w' ⟨s0,s1,s2,s3,s4⟩
  go_simp
  with_reducible rfl
 rotate_left
 ·simp only [Act.put,List.setIfInBounds_toArray,List.set_cons_zero,List.set_cons_succ,i64_w,i32_w]
  rfl
 refine one_ (i:=5) (N:=some 16) #[true,true,true,true,true,true,false,true,true,true,false,false,false] rfl rfl (one_of HT_.out (by kernel_rfl)) (by decide) (fun K hK=>?_)
 refine goes_ Try.func89 (by kernel_rfl) rfl #[.agg #[.int .i64 a0_0,.bool a0_1],.int .i64 a1_0,.int .i64 a3] (by rfl) rfl rfl (by (try simp only [List.map_toArray,List.map_cons,List.map_nil]);first|done|rfl|(simp only [List.length_drop,List.length_take];rfl)) ?_
 with_reducible refine (impl_Road_gap.calls a0_0 a0_1 a1_0 a3 t235 _ A6.out).mono ?_
 rintro e w12 ⟨rfl,hb⟩
 refine ⟨_,rfl,?_⟩
 have n0_:=Aside0.mk (blk_below (g:=gb233) (o:=.cells #[.int .i64 a0_0,.bool a0_1] 28 (0,0)) (by (with_reducible repeat (first|apply blk_drewN|apply blk_drew|apply blk_alloc));exact BK233.out) hb)
 have n1_:=Aside0.mk (blk_below (g:=gb234) (o:=.cells #[.int .i64 a1_0,.int .i64 a1_1,.int .i64 a1_2] 63 (0,0)) (by (with_reducible repeat (first|apply blk_drewN|apply blk_drew|apply blk_alloc));exact BK234.out) hb)
 have n2_:=Aside0.mk (below_step (by repeat (first|(with_reducible first|exact HB.out|apply below_alloc|apply pw_below_drewN|apply below_drew1|refine below_set ?_ GE233.out|refine below_set ?_ GE234.out)|exact HB.out)) hb)
 clear BK233
 clear BK234
 clear HB
 have BK233:=n0_
 have BK234:=n1_
 have HB:=n2_
 clear n0_ n1_ n2_
 (try clear hb)
 (try clear hb2)
 (try clear hk)
 (try clear hi)
 refine hK.out _ _ ⟨(blk_cell BK233.out 0).trans rfl,(blk_cell BK233.out 1).trans rfl,(blk_cell BK234.out 0).trans rfl,(blk_cell BK234.out 1).trans rfl,(blk_cell BK234.out 2).trans rfl⟩ (fun hHeld=>?_)
 clear hK K
 refine norm_ (a':=?_) ?_ ?_
 rotate_left
 ·show Act.put _ (some 16) _ = _
  simp only [Act.put,List.setIfInBounds_toArray,List.set_cons_zero,List.set_cons_succ,i64_w,i32_w]
  rfl
 refine pure_ (i:=6) (N:=some 17) (v:=?_) (a':=?_) #[true,true,true,true,true,true,true,true,true,true,false,false,false] rfl rfl (any_of HT_.out (by kernel_rfl)) (fun _ _ _ h=>h) (Or.inl ⟨by rfl,?_⟩) ?_ ?_
 rotate_left
 ·intro w'
  go_simp
  with_reducible rfl
 rotate_left
 ·simp only [Act.put,List.setIfInBounds_toArray,List.set_cons_zero,List.set_cons_succ,i64_w,i32_w]
  rfl
 refine one_ (i:=10) (N:=some 21) #[true,true,true,true,true,true,true,true,true,true,true,false,false] rfl rfl (one_of HT_.out (by kernel_rfl)) (by decide) (fun K hK=>?_)
 refine goes_ Try.func89 (by kernel_rfl) rfl #[.agg #[.int .i64 a0_0,.bool a0_1],.int .i64 a3,.int .i64 a4] (by rfl) rfl rfl (by (try simp only [List.map_toArray,List.map_cons,List.map_nil]);first|done|rfl|(simp only [List.length_drop,List.length_take];rfl)) ?_
 with_reducible refine (impl_Road_gap.calls a0_0 a0_1 a3 a4 t236 _ A8.out).mono ?_
 rintro e w13 ⟨rfl,hb⟩
 refine ⟨_,rfl,?_⟩
 have n0_:=Aside0.mk (blk_below (g:=gb233) (o:=.cells #[.int .i64 a0_0,.bool a0_1] 28 (0,0)) (by (with_reducible repeat (first|apply blk_drewN|apply blk_drew|apply blk_alloc));exact BK233.out) hb)
 have n1_:=Aside0.mk (blk_below (g:=gb234) (o:=.cells #[.int .i64 a1_0,.int .i64 a1_1,.int .i64 a1_2] 63 (0,0)) (by (with_reducible repeat (first|apply blk_drewN|apply blk_drew|apply blk_alloc));exact BK234.out) hb)
 have n2_:=Aside0.mk (below_step (by repeat (first|(with_reducible first|exact HB.out|apply below_alloc|apply pw_below_drewN|apply below_drew1|refine below_set ?_ GE233.out|refine below_set ?_ GE234.out)|exact HB.out)) hb)
 clear BK233
 clear BK234
 clear HB
 have BK233:=n0_
 have BK234:=n1_
 have HB:=n2_
 clear n0_ n1_ n2_
 (try clear hb)
 (try clear hb2)
 (try clear hk)
 (try clear hi)
 refine hK.out _ _ ⟨(blk_cell BK233.out 0).trans rfl,(blk_cell BK233.out 1).trans rfl,(blk_cell BK234.out 0).trans rfl,(blk_cell BK234.out 1).trans rfl,(blk_cell BK234.out 2).trans rfl⟩ (fun hHeld=>?_)
 clear hK K
 refine norm_ (a':=?_) ?_ ?_
 rotate_left
 ·show Act.put _ (some 21) _ = _
  simp only [Act.put,List.setIfInBounds_toArray,List.set_cons_zero,List.set_cons_succ,i64_w,i32_w]
  rfl
 refine pure_ (i:=11) (N:=some 22) (v:=?_) (a':=?_) #[true,true,true,true,true,true,true,true,true,true,true,true,false] rfl rfl (any_of HT_.out (by kernel_rfl)) (fun _ _ _ h=>h) (Or.inl ⟨by rfl,?_⟩) ?_ ?_
 rotate_left
 ·intro w'
  go_simp
  with_reducible rfl
 rotate_left
 ·simp only [Act.put,List.setIfInBounds_toArray,List.set_cons_zero,List.set_cons_succ,i64_w,i32_w]
  rfl
 refine pure_ (i:=12) (N:=some 10) (v:=?_) (a':=?_) #[true,true,true,true,true,true,true,true,true,true,true,true,true] rfl rfl (any_of HT_.out (by kernel_rfl)) (fun _ _ _ h=>h) (Or.inl ⟨by rfl,?_⟩) ?_ ?_
 rotate_left
 ·intro w'
  go_simp
  with_reducible rfl
 rotate_left
 ·simp only [Act.put,List.setIfInBounds_toArray,List.set_cons_zero,List.set_cons_succ,i64_w,i32_w]
  rfl
 refine done_ (done_of HT_.out (by kernel_rfl)) ?_
 try go_wp2
 go_ret
 exact ⟨by first|rfl|(simp [errW_none,errW_some] <;> rfl)|(simp only [← hji7];first|rfl|(simp [errW_none,errW_some] <;> rfl))|(simp [*,errW_none,errW_some] <;> rfl),by repeat (first|(with_reducible first|exact HB.out|apply below_alloc|apply pw_below_drewN|apply below_drew1|refine below_set ?_ GE233.out|refine below_set ?_ GE234.out)|exact HB.out)⟩


end
end Go.Proofs.Ythagkpoinjpmfaa.QFnExactRelayArrival
