/- Functions that the law FnExactMirrorWire comes to, as Lean functions, with the proof that the Go code does what they say: written by a program of this session over the kit's print. No condition but those named. -/
import Derived.Test.YtciihopkgblpkaaQFnExactMirrorWirex0
import Derived.Test.YtciihopkgblpkaaQFnExactMirrorWirex3
namespace Go.Proofs.Ytciihopkgblpkaa.QFnExactMirrorWire
open Go.RowKit Go.Proofs.YtciihopkgblpkaaW.PrintWords Go.Proofs.YtciihopkgblpkaaW.PrintLast Go.Proofs.YtciihopkgblpkaaW.PrintMore
attribute [local go_sem] max2_int min2_int max_two min_two max_three min_three max_four min_four   -- for this text's walks alone
set_option linter.unusedVariables false
set_option linter.unusedSimpArgs false

/-! ### impl_IsWire: function 14 -/
section
open Kd
mutual
def impl_IsWire.j0 : Nat → Bool → Int → List Int → List Int → Option (Bool)
 | 0,_,_,_,_=>none
 | k + 1,x31,x161000,x161001,x161002=>if x31 = true then (some false) else (impl_IsWire.l0 k x161002 (x161002.length : Int) 0 x161000 x161001 x161002)
def impl_IsWire.l0 : Nat → List Int → Int → Int → Int → List Int → List Int → Option (Bool)
 | 0,_,_,_,_,_,_=>none
 | k + 1,x33,x34,x35,x161000,x161001,x161002=>if x35 < x34 then (if 0 ≤ x35 then (if x35 < (x33.length : Int) then (if (rd x33 x35) = 1 then (if x35 > 0 then (if 0 ≤ (wrap64 (x35 - 1)) then (if (wrap64 (x35 - 1)) < (x161001.length : Int) then (if x35 < (x161001.length : Int) then (if (rd x161001 (wrap64 (x35 - 1))) ≥ (rd x161001 x35) then (some false) else (impl_IsWire.l0 k x33 x34 (wrap64 (x35 + 1)) x161000 x161001 x161002)) else (none)) else (none)) else (none)) else (impl_IsWire.l0 k x33 x34 (wrap64 (x35 + 1)) x161000 x161001 x161002)) else (if (rd x33 x35) = (-1) then (if x35 > 0 then (if 0 ≤ (wrap64 (x35 - 1)) then (if (wrap64 (x35 - 1)) < (x161001.length : Int) then (if x35 < (x161001.length : Int) then (if (rd x161001 (wrap64 (x35 - 1))) ≥ (rd x161001 x35) then (some false) else (impl_IsWire.l0 k x33 x34 (wrap64 (x35 + 1)) x161000 x161001 x161002)) else (none)) else (none)) else (none)) else (impl_IsWire.l0 k x33 x34 (wrap64 (x35 + 1)) x161000 x161001 x161002)) else (some false))) else (none)) else (none)) else (some true)
end
def impl_IsWire.f (k : Nat) (a0_0 : Int) (l0_1 : List Int) (l0_2 : List Int) : Option (Bool):=(impl_within.f a0_0 1 30).bind fun t161=>(if t161 = true then (if (l0_1.length : Int) > 8 then (impl_IsWire.j0 k true a0_0 l0_1 l0_2) else (if (l0_2.length : Int) = (l0_1.length : Int) then ((impl_allWithin.f k l0_1 0 a0_0).bind fun t162=>(impl_IsWire.j0 k (!t162) a0_0 l0_1 l0_2)) else (impl_IsWire.j0 k true a0_0 l0_1 l0_2))) else (impl_IsWire.j0 k true a0_0 l0_1 l0_2))
theorem impl_IsWire.mono_l : ∀ k,(∀ y0 y1 y2 y3,LeO (impl_IsWire.j0 k y0 y1 y2 y3) (impl_IsWire.j0 (k + 1) y0 y1 y2 y3)) ∧ (∀ y0 y1 y2 y3 y4 y5,LeO (impl_IsWire.l0 k y0 y1 y2 y3 y4 y5) (impl_IsWire.l0 (k + 1) y0 y1 y2 y3 y4 y5))
 | 0=>⟨fun _ _ _ _ r h=>by simp [impl_IsWire.j0] at h,fun _ _ _ _ _ _ r h=>by simp [impl_IsWire.l0] at h⟩
 | k + 1=>by
  obtain ⟨ih0,ih1⟩:=impl_IsWire.mono_l k
  refine ⟨?_,?_⟩
  ·intro y0 y1 y2 y3
   unfold impl_IsWire.j0
   repeat' first
   | (with_reducible exact ih0 _ _ _ _)
   | (with_reducible exact ih1 _ _ _ _ _ _)
   | (with_reducible exact impl_allWithin.mono _ _ _ _)
   | (with_reducible exact LeO.refl _)
   | (with_reducible exact LeO.none _)
   | (with_reducible refine LeO.ite ?_ ?_)
   | (with_reducible refine LeO.bind ?_ (fun _=>?_))
   | exact ih0 _ _ _ _
   | exact ih1 _ _ _ _ _ _
   | exact impl_allWithin.mono _ _ _ _
   | exact LeO.none _
   | refine LeO.ite ?_ ?_
   | refine LeO.bind ?_ (fun _=>?_)
  ·intro y0 y1 y2 y3 y4 y5
   unfold impl_IsWire.l0
   repeat' first
   | (with_reducible exact ih0 _ _ _ _)
   | (with_reducible exact ih1 _ _ _ _ _ _)
   | (with_reducible exact impl_allWithin.mono _ _ _ _)
   | (with_reducible exact LeO.refl _)
   | (with_reducible exact LeO.none _)
   | (with_reducible refine LeO.ite ?_ ?_)
   | (with_reducible refine LeO.bind ?_ (fun _=>?_))
   | exact ih0 _ _ _ _
   | exact ih1 _ _ _ _ _ _
   | exact impl_allWithin.mono _ _ _ _
   | exact LeO.none _
   | refine LeO.ite ?_ ?_
   | refine LeO.bind ?_ (fun _=>?_)
theorem impl_IsWire.mono : ∀ a0 a1 a2 k,LeO (impl_IsWire.f k a0 a1 a2) (impl_IsWire.f (k + 1) a0 a1 a2):=by
 intro a0 a1 a2 k
 obtain ⟨ih0,ih1⟩:=impl_IsWire.mono_l k
 unfold impl_IsWire.f
 repeat' first
   | (with_reducible exact ih0 _ _ _ _)
   | (with_reducible exact ih1 _ _ _ _ _ _)
   | (with_reducible exact impl_allWithin.mono _ _ _ _)
   | (with_reducible exact LeO.refl _)
   | (with_reducible exact LeO.none _)
   | (with_reducible refine LeO.ite ?_ ?_)
   | (with_reducible refine LeO.bind ?_ (fun _=>?_))
   | exact ih0 _ _ _ _
   | exact ih1 _ _ _ _ _ _
   | exact impl_allWithin.mono _ _ _ _
   | exact LeO.none _
   | refine LeO.ite ?_ ?_
   | refine LeO.bind ?_ (fun _=>?_)
set_option maxHeartbeats 8000000 in
set_option maxRecDepth 100000 in
theorem impl_IsWire.calls (k : Nat) (a0_0 : Int) (A0_1 : Option Addr) (c0_1 : Nat) (l0_1 : List Int) (A0_2 : Option Addr) (c0_2 : Nat) (l0_2 : List Int) (r : Bool) (w : World) (hr0_1 : Kd.C (Kd.int .i64) w A0_1 l0_1.length l0_1) (hc0_1 : l0_1.length ≤ c0_1) (hr0_2 : Kd.C (Kd.int .i64) w A0_2 l0_2.length l0_2) (hc0_2 : l0_2.length ≤ c0_2) (h : impl_IsWire.f k a0_0 l0_1 l0_2 = some r) :
  Calls Try.prog 14 #[.agg #[.int .i64 a0_0,.slice A0_1 l0_1.length c0_1,.slice A0_2 l0_2.length c0_2]] w fun e w'=>e = .returned (.bool r) ∧ Below w.heap.size w w':=by
 have hu27:=Try.underlying27
 have HR0_1:=Aside0.mk hr0_1
 have HC0_1:=Aside0.mk hc0_1
 clear hr0_1 hc0_1
 have HR0_2:=Aside0.mk hr0_2
 have HC0_2:=Aside0.mk hc0_2
 clear hr0_2 hc0_2
 have HB:=Aside0.mk (Below.refl w.heap.size w)
 have H : ((impl_within.f a0_0 1 30).bind fun t161=>(if t161 = true then (if (l0_1.length : Int) > 8 then (impl_IsWire.j0 k true a0_0 l0_1 l0_2) else (if (l0_2.length : Int) = (l0_1.length : Int) then ((impl_allWithin.f k l0_1 0 a0_0).bind fun t162=>(impl_IsWire.j0 k (!t162) a0_0 l0_1 l0_2)) else (impl_IsWire.j0 k true a0_0 l0_1 l0_2))) else (impl_IsWire.j0 k true a0_0 l0_1 l0_2))) = some r:=h
 clear h
 have HC2:=Aside0.mk H
 clear H
 go_enter Try.func14,Try.ntmps14
 go_upto_region 1 with (first|((with_reducible refine gate_dst (N:=1) rfl ?_);refine box_event ?hg (N:=1) ?hd (cs:=#[.int .i64 a0_0,.slice A0_1 l0_1.length c0_1,.slice A0_2 l0_2.length c0_2]) (t:=27) ?hr ?_;(case hd=>rfl);(case hg=>rfl);(case hr=>first|(go_simp;done)|(go_simp;rfl));intro gb160 hg w3 hbox hb;have n0_:=Aside0.mk (below_step (by repeat (first|(with_reducible first|exact HB.out|apply below_alloc|apply pw_below_drewN|apply below_drew1)|exact HB.out)) hb);have n1_:=Aside0.mk (hbox);have n2_:=Aside0.mk ((by rw [hg];exact (below_size (by repeat (first|(with_reducible first|exact HB.out|apply below_alloc|apply pw_below_drewN|apply below_drew1)|exact HB.out))) : w.heap.size ≤ gb160));have n3_:=Aside0.mk ((by rw [hg];exact (below_size (by repeat (first|(with_reducible first|exact HB.out|apply below_alloc|apply pw_below_drewN|apply below_drew1)|exact HB.out))) : w.heap.size ≤ gb160));clear HB;have HB:=n0_;have BK160:=n1_;have GW160:=n2_;have GE160:=n3_;clear n0_ n1_ n2_ n3_;clear hb hbox hg))
 repeat (go_quiet (fail);go_upto_region 1 with (first|((with_reducible refine gate_dst (N:=1) rfl ?_);refine box_event ?hg (N:=1) ?hd (cs:=#[.int .i64 a0_0,.slice A0_1 l0_1.length c0_1,.slice A0_2 l0_2.length c0_2]) (t:=27) ?hr ?_;(case hd=>rfl);(case hg=>rfl);(case hr=>first|(go_simp;done)|(go_simp;rfl));intro gb160 hg w3 hbox hb;have n0_:=Aside0.mk (below_step (by repeat (first|(with_reducible first|exact HB.out|apply below_alloc|apply pw_below_drewN|apply below_drew1)|exact HB.out)) hb);have n1_:=Aside0.mk (hbox);have n2_:=Aside0.mk ((by rw [hg];exact (below_size (by repeat (first|(with_reducible first|exact HB.out|apply below_alloc|apply pw_below_drewN|apply below_drew1)|exact HB.out))) : w.heap.size ≤ gb160));have n3_:=Aside0.mk ((by rw [hg];exact (below_size (by repeat (first|(with_reducible first|exact HB.out|apply below_alloc|apply pw_below_drewN|apply below_drew1)|exact HB.out))) : w.heap.size ≤ gb160));clear HB;have HB:=n0_;have BK160:=n1_;have GW160:=n2_;have GE160:=n3_;clear n0_ n1_ n2_ n3_;clear hb hbox hg)))
 (try simp only [Act.put,List.setIfInBounds_toArray,List.set_cons_zero,List.set_cons_succ])
 go_cut [31] (fun v31 wc=>∃ (kq : Nat) (x31_1 : Bool),v31 = .bool x31_1 ∧ Aside0 (impl_IsWire.j0 kq x31_1 a0_0 l0_1 l0_2 = some r) ∧ Aside0 (kq ≤ k) ∧ Aside0 (wc.heap[gb160]? = some (.cells #[.int .i64 a0_0,(.slice A0_1 l0_1.length c0_1),(.slice A0_2 l0_2.length c0_2)] 27 (0,0))) ∧ Aside0 (Below w.heap.size w wc))
 case first =>
  have H:=HC2.out
  clear HC2
  replace H:=Option.bind_eq_some_iff.mp H
  obtain ⟨t161,A40,H⟩:=H
  replace H : (if t161 = true then (if (l0_1.length : Int) > 8 then (impl_IsWire.j0 k true a0_0 l0_1 l0_2) else (if (l0_2.length : Int) = (l0_1.length : Int) then ((impl_allWithin.f k l0_1 0 a0_0).bind fun t162=>(impl_IsWire.j0 k (!t162) a0_0 l0_1 l0_2)) else (impl_IsWire.j0 k true a0_0 l0_1 l0_2))) else (impl_IsWire.j0 k true a0_0 l0_1 l0_2)) = some r:=H
  have A4:=Aside0.mk A40
  clear A40
  by_cases c5 : t161 = true
  rotate_left
  ·replace c5:=Bool.eq_false_iff.mpr c5
   subst c5
   have H1 : (impl_IsWire.j0 k true a0_0 l0_1 l0_2) = some r:=by rw [if_neg (show ¬ (false = true) by decide)] at H;exact H
   clear H
   have H:=H1
   clear H1
   have H':=Aside0.mk H
   clear H
   have hcz12_0 : w3.cell? ⟨gb160,0,none⟩ = some (.int .i64 a0_0):=(blk_cell BK160.out 0).trans rfl
   have hcz12_1 : w3.cell? ⟨gb160,1,none⟩ = some (.slice A0_1 l0_1.length c0_1):=(blk_cell BK160.out 1).trans rfl
   have hcz12_2 : w3.cell? ⟨gb160,2,none⟩ = some (.slice A0_2 l0_2.length c0_2):=(blk_cell BK160.out 2).trans rfl
   have hfz12_0:=blk_frozen BK160.out 0
   have hfz12_1:=blk_frozen BK160.out 1
   have hfz12_2:=blk_frozen BK160.out 2
   go_wp2_with (first|(go_at_call 42;(with_reducible refine (impl_within.calls a0_0 1 30 false _ A4.out).mono ?_);rintro e w' ⟨rfl,⟨nd,rfl⟩⟩;(try first|exact ⟨rfl,_,World.drewN_drewN _ _ _⟩|exact ⟨rfl,_,Eq.trans (World.drewN_drewN _ _ _) (congrArg (World.drewN _) (Nat.add_assoc _ _ _))⟩)))
   repeat (go_quiet (first|(go_at_call 42;(with_reducible refine (impl_within.calls a0_0 1 30 false _ A4.out).mono ?_);rintro e w' ⟨rfl,⟨nd,rfl⟩⟩;(try first|exact ⟨rfl,_,World.drewN_drewN _ _ _⟩|exact ⟨rfl,_,Eq.trans (World.drewN_drewN _ _ _) (congrArg (World.drewN _) (Nat.add_assoc _ _ _))⟩)));try go_wp2_with (first|(go_at_call 42;(with_reducible refine (impl_within.calls a0_0 1 30 false _ A4.out).mono ?_);rintro e w' ⟨rfl,⟨nd,rfl⟩⟩;(try first|exact ⟨rfl,_,World.drewN_drewN _ _ _⟩|exact ⟨rfl,_,Eq.trans (World.drewN_drewN _ _ _) (congrArg (World.drewN _) (Nat.add_assoc _ _ _))⟩))))
   go_meet
   case rel=>exact ⟨_,(true),(by first|rfl|(simp;done)|(simp [*];done)),H',⟨by first|omega|exact Nat.le_refl _⟩,⟨by (with_reducible repeat (first|apply blk_drewN|apply blk_drew|apply blk_alloc));exact BK160.out⟩,⟨by repeat (first|(with_reducible first|exact HB.out|apply below_alloc|apply pw_below_drewN|apply below_drew1|refine below_set ?_ GE160.out)|exact HB.out)⟩⟩
  subst c5
  have H1 : (if (l0_1.length : Int) > 8 then (impl_IsWire.j0 k true a0_0 l0_1 l0_2) else (if (l0_2.length : Int) = (l0_1.length : Int) then ((impl_allWithin.f k l0_1 0 a0_0).bind fun t162=>(impl_IsWire.j0 k (!t162) a0_0 l0_1 l0_2)) else (impl_IsWire.j0 k true a0_0 l0_1 l0_2))) = some r:=by rw [if_pos rfl] at H;exact H
  clear H
  have H:=H1
  clear H1
  by_cases c6 : (l0_1.length : Int) > 8
  ·rw [if_pos c6] at H
   have c6b0 : decide (8 < (l0_1.length : Int)) = true:=decide_eq_true c6
   have c6b1 : decide (8 < l0_1.length) = true:=decide_eq_true (by omega)
   clear c6
   (first|rw [c6b0]|(simp only [i64_w,i32_w];rw [c6b0])|skip)
   have H':=Aside0.mk H
   clear H
   have hcz7_0 : w3.cell? ⟨gb160,0,none⟩ = some (.int .i64 a0_0):=(blk_cell BK160.out 0).trans rfl
   have hcz7_1 : w3.cell? ⟨gb160,1,none⟩ = some (.slice A0_1 l0_1.length c0_1):=(blk_cell BK160.out 1).trans rfl
   have hcz7_2 : w3.cell? ⟨gb160,2,none⟩ = some (.slice A0_2 l0_2.length c0_2):=(blk_cell BK160.out 2).trans rfl
   have hfz7_0:=blk_frozen BK160.out 0
   have hfz7_1:=blk_frozen BK160.out 1
   have hfz7_2:=blk_frozen BK160.out 2
   go_wp2_with (first|(go_at_call 42;(with_reducible refine (impl_within.calls a0_0 1 30 true _ A4.out).mono ?_);rintro e w' ⟨rfl,⟨nd,rfl⟩⟩;(try first|exact ⟨rfl,_,World.drewN_drewN _ _ _⟩|exact ⟨rfl,_,Eq.trans (World.drewN_drewN _ _ _) (congrArg (World.drewN _) (Nat.add_assoc _ _ _))⟩)))
   repeat (go_quiet (first|(go_at_call 42;(with_reducible refine (impl_within.calls a0_0 1 30 true _ A4.out).mono ?_);rintro e w' ⟨rfl,⟨nd,rfl⟩⟩;(try first|exact ⟨rfl,_,World.drewN_drewN _ _ _⟩|exact ⟨rfl,_,Eq.trans (World.drewN_drewN _ _ _) (congrArg (World.drewN _) (Nat.add_assoc _ _ _))⟩)));try go_wp2_with (first|(go_at_call 42;(with_reducible refine (impl_within.calls a0_0 1 30 true _ A4.out).mono ?_);rintro e w' ⟨rfl,⟨nd,rfl⟩⟩;(try first|exact ⟨rfl,_,World.drewN_drewN _ _ _⟩|exact ⟨rfl,_,Eq.trans (World.drewN_drewN _ _ _) (congrArg (World.drewN _) (Nat.add_assoc _ _ _))⟩))))
   go_meet
   case rel=>exact ⟨_,(true),(by first|rfl|(simp;done)|(simp [*];done)),H',⟨by first|omega|exact Nat.le_refl _⟩,⟨by (with_reducible repeat (first|apply blk_drewN|apply blk_drew|apply blk_alloc));exact BK160.out⟩,⟨by repeat (first|(with_reducible first|exact HB.out|apply below_alloc|apply pw_below_drewN|apply below_drew1|refine below_set ?_ GE160.out)|exact HB.out)⟩⟩
  rw [if_neg c6] at H
  have c6b0 : decide (8 < (l0_1.length : Int)) = false:=decide_eq_false c6
  have c6b1 : decide (8 < l0_1.length) = false:=decide_eq_false (by omega)
  clear c6
  (first|rw [c6b0]|(simp only [i64_w,i32_w];rw [c6b0])|skip)
  by_cases c8 : (l0_2.length : Int) = (l0_1.length : Int)
  rotate_left
  ·rw [if_neg c8] at H
   have c8b0 : ((l0_2.length : Int) == (l0_1.length : Int)) = false:=beq_eq_false_iff_ne.mpr c8
   have c8b1 : ((l0_2.length : Int) != (l0_1.length : Int)) = true:=bne_iff_ne.mpr c8
   have c8b2 : (l0_2.length == l0_1.length) = false:=by first|simpa using c8|(simp at c8 ⊢;omega)
   have H':=Aside0.mk H
   clear H
   have hcz11_0 : w3.cell? ⟨gb160,0,none⟩ = some (.int .i64 a0_0):=(blk_cell BK160.out 0).trans rfl
   have hcz11_1 : w3.cell? ⟨gb160,1,none⟩ = some (.slice A0_1 l0_1.length c0_1):=(blk_cell BK160.out 1).trans rfl
   have hcz11_2 : w3.cell? ⟨gb160,2,none⟩ = some (.slice A0_2 l0_2.length c0_2):=(blk_cell BK160.out 2).trans rfl
   have hfz11_0:=blk_frozen BK160.out 0
   have hfz11_1:=blk_frozen BK160.out 1
   have hfz11_2:=blk_frozen BK160.out 2
   go_wp2_with (first|(go_at_call 42;(with_reducible refine (impl_within.calls a0_0 1 30 true _ A4.out).mono ?_);rintro e w' ⟨rfl,⟨nd,rfl⟩⟩;(try first|exact ⟨rfl,_,World.drewN_drewN _ _ _⟩|exact ⟨rfl,_,Eq.trans (World.drewN_drewN _ _ _) (congrArg (World.drewN _) (Nat.add_assoc _ _ _))⟩)))
   repeat (go_quiet (first|(go_at_call 42;(with_reducible refine (impl_within.calls a0_0 1 30 true _ A4.out).mono ?_);rintro e w' ⟨rfl,⟨nd,rfl⟩⟩;(try first|exact ⟨rfl,_,World.drewN_drewN _ _ _⟩|exact ⟨rfl,_,Eq.trans (World.drewN_drewN _ _ _) (congrArg (World.drewN _) (Nat.add_assoc _ _ _))⟩)));try go_wp2_with (first|(go_at_call 42;(with_reducible refine (impl_within.calls a0_0 1 30 true _ A4.out).mono ?_);rintro e w' ⟨rfl,⟨nd,rfl⟩⟩;(try first|exact ⟨rfl,_,World.drewN_drewN _ _ _⟩|exact ⟨rfl,_,Eq.trans (World.drewN_drewN _ _ _) (congrArg (World.drewN _) (Nat.add_assoc _ _ _))⟩))))
   go_meet
   case rel=>exact ⟨_,(true),(by first|rfl|(simp;done)|(simp [*];done)),H',⟨by first|omega|exact Nat.le_refl _⟩,⟨by (with_reducible repeat (first|apply blk_drewN|apply blk_drew|apply blk_alloc));exact BK160.out⟩,⟨by repeat (first|(with_reducible first|exact HB.out|apply below_alloc|apply pw_below_drewN|apply below_drew1|refine below_set ?_ GE160.out)|exact HB.out)⟩⟩
  rw [if_pos c8] at H
  have c8b0 : ((l0_2.length : Int) == (l0_1.length : Int)) = true:=beq_iff_eq.mpr c8
  have c8b1 : ((l0_2.length : Int) != (l0_1.length : Int)) = false:=bne_eq_false_iff_eq.mpr c8
  have c8b2 : (l0_2.length == l0_1.length) = true:=by first|simpa using c8|(simp at c8 ⊢;omega)
  clear c8
  replace H:=Option.bind_eq_some_iff.mp H
  obtain ⟨t162,A90,H⟩:=H
  replace H : (impl_IsWire.j0 k (!t162) a0_0 l0_1 l0_2) = some r:=H
  have A9:=Aside0.mk A90
  clear A90
  have H':=Aside0.mk H
  clear H
  have hcz10_0 : w3.cell? ⟨gb160,0,none⟩ = some (.int .i64 a0_0):=(blk_cell BK160.out 0).trans rfl
  have hcz10_1 : w3.cell? ⟨gb160,1,none⟩ = some (.slice A0_1 l0_1.length c0_1):=(blk_cell BK160.out 1).trans rfl
  have hcz10_2 : w3.cell? ⟨gb160,2,none⟩ = some (.slice A0_2 l0_2.length c0_2):=(blk_cell BK160.out 2).trans rfl
  have hfz10_0:=blk_frozen BK160.out 0
  have hfz10_1:=blk_frozen BK160.out 1
  have hfz10_2:=blk_frozen BK160.out 2
  go_wp2_with (first|(go_at_call 42;(with_reducible refine (impl_within.calls a0_0 1 30 true _ A4.out).mono ?_);rintro e w' ⟨rfl,⟨nd,rfl⟩⟩;(try first|exact ⟨rfl,_,World.drewN_drewN _ _ _⟩|exact ⟨rfl,_,Eq.trans (World.drewN_drewN _ _ _) (congrArg (World.drewN _) (Nat.add_assoc _ _ _))⟩))|(go_at_call 43;(with_reducible refine (impl_allWithin.calls k _ _ l0_1 0 a0_0 t162 _ ?side1 ?side2 A9.out).mono ?_);(case side1=>repeat (first|exact (C_below HR0_1.out (by repeat (first|(with_reducible first|exact HB.out|apply below_alloc|apply pw_below_drewN|apply below_drew1|refine below_set ?_ GE160.out)|exact HB.out)))|(with_reducible refine C_alloc ?_ _)|(with_reducible refine C_drewN ?_ _)|(with_reducible refine C_drew ?_)));(case side2=>exact HC0_1.out);rintro e w' ⟨rfl,⟨nd,rfl⟩⟩;(try first|exact ⟨rfl,_,World.drewN_drewN _ _ _⟩|exact ⟨rfl,_,Eq.trans (World.drewN_drewN _ _ _) (congrArg (World.drewN _) (Nat.add_assoc _ _ _))⟩)))
  repeat (go_quiet (first|(go_at_call 42;(with_reducible refine (impl_within.calls a0_0 1 30 true _ A4.out).mono ?_);rintro e w' ⟨rfl,⟨nd,rfl⟩⟩;(try first|exact ⟨rfl,_,World.drewN_drewN _ _ _⟩|exact ⟨rfl,_,Eq.trans (World.drewN_drewN _ _ _) (congrArg (World.drewN _) (Nat.add_assoc _ _ _))⟩))|(go_at_call 43;(with_reducible refine (impl_allWithin.calls k _ _ l0_1 0 a0_0 t162 _ ?side1 ?side2 A9.out).mono ?_);(case side1=>repeat (first|exact (C_below HR0_1.out (by repeat (first|(with_reducible first|exact HB.out|apply below_alloc|apply pw_below_drewN|apply below_drew1|refine below_set ?_ GE160.out)|exact HB.out)))|(with_reducible refine C_alloc ?_ _)|(with_reducible refine C_drewN ?_ _)|(with_reducible refine C_drew ?_)));(case side2=>exact HC0_1.out);rintro e w' ⟨rfl,⟨nd,rfl⟩⟩;(try first|exact ⟨rfl,_,World.drewN_drewN _ _ _⟩|exact ⟨rfl,_,Eq.trans (World.drewN_drewN _ _ _) (congrArg (World.drewN _) (Nat.add_assoc _ _ _))⟩)));try go_wp2_with (first|(go_at_call 42;(with_reducible refine (impl_within.calls a0_0 1 30 true _ A4.out).mono ?_);rintro e w' ⟨rfl,⟨nd,rfl⟩⟩;(try first|exact ⟨rfl,_,World.drewN_drewN _ _ _⟩|exact ⟨rfl,_,Eq.trans (World.drewN_drewN _ _ _) (congrArg (World.drewN _) (Nat.add_assoc _ _ _))⟩))|(go_at_call 43;(with_reducible refine (impl_allWithin.calls k _ _ l0_1 0 a0_0 t162 _ ?side1 ?side2 A9.out).mono ?_);(case side1=>repeat (first|exact (C_below HR0_1.out (by repeat (first|(with_reducible first|exact HB.out|apply below_alloc|apply pw_below_drewN|apply below_drew1|refine below_set ?_ GE160.out)|exact HB.out)))|(with_reducible refine C_alloc ?_ _)|(with_reducible refine C_drewN ?_ _)|(with_reducible refine C_drew ?_)));(case side2=>exact HC0_1.out);rintro e w' ⟨rfl,⟨nd,rfl⟩⟩;(try first|exact ⟨rfl,_,World.drewN_drewN _ _ _⟩|exact ⟨rfl,_,Eq.trans (World.drewN_drewN _ _ _) (congrArg (World.drewN _) (Nat.add_assoc _ _ _))⟩))))
  go_meet
  case rel=>exact ⟨_,(!t162),(by first|rfl|(simp;done)|(simp [*];done)),H',⟨by first|omega|exact Nat.le_refl _⟩,⟨by (with_reducible repeat (first|apply blk_drewN|apply blk_drew|apply blk_alloc));exact BK160.out⟩,⟨by repeat (first|(with_reducible first|exact HB.out|apply below_alloc|apply pw_below_drewN|apply below_drew1|refine below_set ?_ GE160.out)|exact HB.out)⟩⟩
 clear HC2
 try clear c1
 try clear p2
 try clear c5
 try clear c6
 try clear c6b0
 try clear c6b1
 try clear c8
 try clear c8b0
 try clear c8b1
 try clear c8b2
 try clear hcz10_0
 try clear hcz10_1
 try clear hcz10_2
 try clear hcz11_0
 try clear hcz11_1
 try clear hcz11_2
 try clear hcz12_0
 try clear hcz12_1
 try clear hcz12_2
 try clear hcz7_0
 try clear hcz7_1
 try clear hcz7_2
 try clear hfz10_0
 try clear hfz10_1
 try clear hfz10_2
 try clear hfz11_0
 try clear hfz11_1
 try clear hfz11_2
 try clear hfz12_0
 try clear hfz12_1
 try clear hfz12_2
 try clear hfz7_0
 try clear hfz7_1
 try clear hfz7_2
 obtain ⟨kq,x31_1,rfl,HA,HJ1,BK160,HB⟩:=hcut
 cases kq with
 | zero=>exact absurd HA.out (by simp [impl_IsWire.j0])
 | succ kj1 =>
  have H:=HA.out
  clear HA
  simp only [impl_IsWire.j0] at H
  by_cases c13 : x31_1 = true
  ·subst c13
   have H1 : (some false) = some r:=by rw [if_pos rfl] at H;exact H
   clear H
   have H:=H1
   clear H1
   obtain rfl:=Option.some.inj H
   go_wp2
   repeat (go_quiet (fail);try go_wp2)
   go_ret
   exact ⟨by first|rfl|(simp [errW_none,errW_some] <;> rfl)|(simp [*,errW_none,errW_some] <;> rfl),by repeat (first|(with_reducible first|exact HB.out|apply below_alloc|apply pw_below_drewN|apply below_drew1|refine below_set ?_ GE160.out)|exact HB.out)⟩
  replace c13:=Bool.eq_false_iff.mpr c13
  subst c13
  have H1 : (impl_IsWire.l0 kj1 l0_2 (l0_2.length : Int) 0 a0_0 l0_1 l0_2) = some r:=by rw [if_neg (show ¬ (false = true) by decide)] at H;exact H
  clear H
  have H:=H1
  clear H1
  have H':=Aside0.mk H
  clear H
  have hcz14_0 : wc.cell? ⟨gb160,0,none⟩ = some (.int .i64 a0_0):=(blk_cell BK160.out 0).trans rfl
  have hcz14_1 : wc.cell? ⟨gb160,1,none⟩ = some (.slice A0_1 l0_1.length c0_1):=(blk_cell BK160.out 1).trans rfl
  have hcz14_2 : wc.cell? ⟨gb160,2,none⟩ = some (.slice A0_2 l0_2.length c0_2):=(blk_cell BK160.out 2).trans rfl
  have hfz14_0:=blk_frozen BK160.out 0
  have hfz14_1:=blk_frozen BK160.out 1
  have hfz14_2:=blk_frozen BK160.out 2
  go_wp2
  repeat (go_quiet (fail);try go_wp2)
  go_loopg [35] kj1 (fun kq v35 w'=>∃ (x35_2 : Int),v35 = .int .i64 x35_2 ∧ Aside0 (impl_IsWire.l0 kq l0_2 (l0_2.length : Int) x35_2 a0_0 l0_1 l0_2 = some r) ∧ Aside0 (kq ≤ kj1) ∧ Aside0 (w'.heap[gb160]? = some (.cells #[.int .i64 a0_0,(.slice A0_1 l0_1.length c0_1),(.slice A0_2 l0_2.length c0_2)] 27 (0,0))) ∧ Aside0 (Below w.heap.size w w'))
  case atStart=>exact ⟨(0),(by first|rfl|(simp;done)|(simp [*];done)),H',⟨Nat.le_refl _⟩,⟨by (with_reducible repeat (first|apply blk_drewN|apply blk_drew|apply blk_alloc));exact BK160.out⟩,⟨by repeat (first|(with_reducible first|exact HB.out|apply below_alloc|apply pw_below_drewN|apply below_drew1|refine below_set ?_ GE160.out)|exact HB.out)⟩⟩
  clear H'
  try clear c1
  try clear p2
  try clear c5
  try clear c6
  try clear c6b0
  try clear c6b1
  try clear c8
  try clear c8b0
  try clear c8b1
  try clear c8b2
  try clear c13
  try clear c14
  try clear hcz10_0
  try clear hcz10_1
  try clear hcz10_2
  try clear hcz11_0
  try clear hcz11_1
  try clear hcz11_2
  try clear hcz12_0
  try clear hcz12_1
  try clear hcz12_2
  try clear hcz14_0
  try clear hcz14_1
  try clear hcz14_2
  try clear hcz7_0
  try clear hcz7_1
  try clear hcz7_2
  try clear hfz10_0
  try clear hfz10_1
  try clear hfz10_2
  try clear hfz11_0
  try clear hfz11_1
  try clear hfz11_2
  try clear hfz12_0
  try clear hfz12_1
  try clear hfz12_2
  try clear hfz14_0
  try clear hfz14_1
  try clear hfz14_2
  try clear hfz7_0
  try clear hfz7_1
  try clear hfz7_2
  try clear p2
  obtain ⟨x35_2,rfl,HA,HK2,BK160,HB⟩:=hrel
  cases gk with
  | zero=>exact absurd HA.out (by simp [impl_IsWire.l0])
  | succ k2 =>
   have H:=HA.out
   clear HA
   simp only [impl_IsWire.l0] at H
   by_cases c15 : x35_2 < (l0_2.length : Int)
   rotate_left
   ·rw [if_neg c15] at H
    have c15b0 : decide (x35_2 < (l0_2.length : Int)) = false:=decide_eq_false c15
    clear c15
    obtain rfl:=Option.some.inj H
    go_wp2
    repeat (go_quiet (fail);try go_wp2)
    go_ret
    exact ⟨by first|rfl|(simp [errW_none,errW_some] <;> rfl)|(simp [*,errW_none,errW_some] <;> rfl),by repeat (first|(with_reducible first|exact HB.out|apply below_alloc|apply pw_below_drewN|apply below_drew1|refine below_set ?_ GE160.out)|exact HB.out)⟩
   rw [if_pos c15] at H
   have c15b0 : decide (x35_2 < (l0_2.length : Int)) = true:=decide_eq_true c15
   clear c15
   by_cases c16 : 0 ≤ x35_2
   rotate_left
   ·rw [if_neg c16] at H
    exact absurd H (by simp)
   rw [if_pos c16] at H
   have c16b0 : decide (0 ≤ x35_2) = true:=decide_eq_true c16
   clear c16
   by_cases c17 : x35_2 < (l0_2.length : Int)
   rotate_left
   ·rw [if_neg c17] at H
    exact absurd H (by simp)
   rw [if_pos c17] at H
   have c17b0 : decide (x35_2 < (l0_2.length : Int)) = true:=decide_eq_true c17
   clear c17
   by_cases c18 : (rd l0_2 x35_2) = 1
   ·rw [if_pos c18] at H
    have c18b0 : ((rd l0_2 x35_2) == 1) = true:=beq_iff_eq.mpr c18
    have c18b1 : ((rd l0_2 x35_2) != 1) = false:=bne_eq_false_iff_eq.mpr c18
    clear c18
    by_cases c19 : x35_2 > 0
    rotate_left
    ·rw [if_neg c19] at H
     have c19b0 : decide (0 < x35_2) = false:=decide_eq_false c19
     clear c19
     have H':=Aside0.mk H
     clear H
     have p163 : 0 ≤ (x35_2 : Int):=of_decide_eq_true (by first|(with_reducible assumption)|assumption)
     have q163 : x35_2 < (l0_2.length : Int):=of_decide_eq_true (by first|(with_reducible assumption)|assumption)
     obtain ⟨ad163,e163,hx163_0⟩:=Kd.at_int HR0_2.out x35_2 p163 q163
     cases e163
     replace hx163_0:=(HB.out.cell (World.block_lt_of_cell? w _ hx163_0)).trans hx163_0
     replace p163:=eq_true p163
     replace q163:=eq_true q163
     go_wp2
     repeat (go_quiet (fail);try go_wp2)
     go_roundg k2
     case measure=>have:=HJ1.out;have:=HK2.out;omega
     case rel=>exact ⟨(wrap64 (x35_2 + 1)),(by first|rfl|(simp;done)|(simp [*];done)),H',⟨by have:=HJ1.out;have:=HK2.out;omega⟩,⟨by (with_reducible repeat (first|apply blk_drewN|apply blk_drew|apply blk_alloc));exact BK160.out⟩,⟨by repeat (first|(with_reducible first|exact HB.out|apply below_alloc|apply pw_below_drewN|apply below_drew1|refine below_set ?_ GE160.out)|exact HB.out)⟩⟩
    rw [if_pos c19] at H
    have c19b0 : decide (0 < x35_2) = true:=decide_eq_true c19
    clear c19
    obtain ⟨ji20,hji20⟩ : ∃ j_ : Int,(wrap64 (x35_2 - 1)) = j_:=⟨_,rfl⟩
    replace H : (if 0 ≤ (ji20) then (if (ji20) < (l0_1.length : Int) then (if x35_2 < (l0_1.length : Int) then (if (rd l0_1 (ji20)) ≥ (rd l0_1 x35_2) then (some false) else (impl_IsWire.l0 k2 l0_2 (l0_2.length : Int) (wrap64 (x35_2 + 1)) a0_0 l0_1 l0_2)) else (none)) else (none)) else (none)) = some r:=by first|(rw [hji20] at H;exact H)|(simp only [hji20] at H ⊢;exact H)
    have hji20w : (IntKind.i64.wrap (x35_2 - 1)) = ji20:=(i64_w _).trans hji20
    by_cases c21 : 0 ≤ (ji20)
    rotate_left
    ·rw [if_neg c21] at H
     exact absurd H (by simp)
    rw [if_pos c21] at H
    have c21b0 : decide (0 ≤ (ji20)) = true:=decide_eq_true c21
    clear c21
    by_cases c22 : (ji20) < (l0_1.length : Int)
    rotate_left
    ·rw [if_neg c22] at H
     exact absurd H (by simp)
    rw [if_pos c22] at H
    have c22b0 : decide ((ji20) < (l0_1.length : Int)) = true:=decide_eq_true c22
    clear c22
    by_cases c23 : x35_2 < (l0_1.length : Int)
    rotate_left
    ·rw [if_neg c23] at H
     exact absurd H (by simp)
    rw [if_pos c23] at H
    have c23b0 : decide (x35_2 < (l0_1.length : Int)) = true:=decide_eq_true c23
    clear c23
    by_cases c24 : (rd l0_1 (ji20)) ≥ (rd l0_1 x35_2)
    ·rw [if_pos c24] at H
     have c24b0 : decide ((rd l0_1 x35_2) ≤ (rd l0_1 (ji20))) = true:=decide_eq_true c24
     clear c24
     obtain rfl:=Option.some.inj H
     have p163 : 0 ≤ (x35_2 : Int):=of_decide_eq_true (by first|(with_reducible assumption)|assumption)
     have q163 : x35_2 < (l0_2.length : Int):=of_decide_eq_true (by first|(with_reducible assumption)|assumption)
     obtain ⟨ad163,e163,hx163_0⟩:=Kd.at_int HR0_2.out x35_2 p163 q163
     cases e163
     replace hx163_0:=(HB.out.cell (World.block_lt_of_cell? w _ hx163_0)).trans hx163_0
     replace p163:=eq_true p163
     replace q163:=eq_true q163
     have hcz25_0 : wr.cell? ⟨gb160,0,none⟩ = some (.int .i64 a0_0):=(blk_cell BK160.out 0).trans rfl
     have hcz25_1 : wr.cell? ⟨gb160,1,none⟩ = some (.slice A0_1 l0_1.length c0_1):=(blk_cell BK160.out 1).trans rfl
     have hcz25_2 : wr.cell? ⟨gb160,2,none⟩ = some (.slice (some ad163) l0_2.length c0_2):=(blk_cell BK160.out 2).trans rfl
     have hfz25_0:=blk_frozen BK160.out 0
     have hfz25_1:=blk_frozen BK160.out 1
     have hfz25_2:=blk_frozen BK160.out 2
     have p164 : 0 ≤ ((ji20) : Int):=of_decide_eq_true (by first|(with_reducible assumption)|assumption)
     have q164 : (ji20) < (l0_1.length : Int):=of_decide_eq_true (by first|(with_reducible assumption)|assumption)
     obtain ⟨ad164,e164,hx164_0⟩:=Kd.at_int HR0_1.out (ji20) p164 q164
     cases e164
     replace hx164_0:=(HB.out.cell (World.block_lt_of_cell? w _ hx164_0)).trans hx164_0
     replace p164:=eq_true p164
     replace q164:=eq_true q164
     have p165 : 0 ≤ (x35_2 : Int):=of_decide_eq_true (by first|(with_reducible assumption)|assumption)
     have q165 : x35_2 < (l0_1.length : Int):=of_decide_eq_true (by first|(with_reducible assumption)|assumption)
     obtain ⟨ad165,e165,hx165_0⟩:=Kd.at_int HR0_1.out x35_2 p165 q165
     obtain rfl : ad164 = ad165:=(by injection e165)
     replace hx165_0:=(HB.out.cell (World.block_lt_of_cell? w _ hx165_0)).trans hx165_0
     replace p165:=eq_true p165
     replace q165:=eq_true q165
     go_wp2
     repeat (go_quiet (fail);try go_wp2)
     go_ret
     exact ⟨by first|rfl|(simp [errW_none,errW_some] <;> rfl)|(simp only [← hji20];first|rfl|(simp [errW_none,errW_some] <;> rfl))|(simp [*,errW_none,errW_some] <;> rfl),by repeat (first|(with_reducible first|exact HB.out|apply below_alloc|apply pw_below_drewN|apply below_drew1|refine below_set ?_ GE160.out)|exact HB.out)⟩
    rw [if_neg c24] at H
    have c24b0 : decide ((rd l0_1 x35_2) ≤ (rd l0_1 (ji20))) = false:=decide_eq_false c24
    clear c24
    have H':=Aside0.mk H
    clear H
    have p163 : 0 ≤ (x35_2 : Int):=of_decide_eq_true (by first|(with_reducible assumption)|assumption)
    have q163 : x35_2 < (l0_2.length : Int):=of_decide_eq_true (by first|(with_reducible assumption)|assumption)
    obtain ⟨ad163,e163,hx163_0⟩:=Kd.at_int HR0_2.out x35_2 p163 q163
    cases e163
    replace hx163_0:=(HB.out.cell (World.block_lt_of_cell? w _ hx163_0)).trans hx163_0
    replace p163:=eq_true p163
    replace q163:=eq_true q163
    have hcz26_0 : wr.cell? ⟨gb160,0,none⟩ = some (.int .i64 a0_0):=(blk_cell BK160.out 0).trans rfl
    have hcz26_1 : wr.cell? ⟨gb160,1,none⟩ = some (.slice A0_1 l0_1.length c0_1):=(blk_cell BK160.out 1).trans rfl
    have hcz26_2 : wr.cell? ⟨gb160,2,none⟩ = some (.slice (some ad163) l0_2.length c0_2):=(blk_cell BK160.out 2).trans rfl
    have hfz26_0:=blk_frozen BK160.out 0
    have hfz26_1:=blk_frozen BK160.out 1
    have hfz26_2:=blk_frozen BK160.out 2
    have p164 : 0 ≤ ((ji20) : Int):=of_decide_eq_true (by first|(with_reducible assumption)|assumption)
    have q164 : (ji20) < (l0_1.length : Int):=of_decide_eq_true (by first|(with_reducible assumption)|assumption)
    obtain ⟨ad164,e164,hx164_0⟩:=Kd.at_int HR0_1.out (ji20) p164 q164
    cases e164
    replace hx164_0:=(HB.out.cell (World.block_lt_of_cell? w _ hx164_0)).trans hx164_0
    replace p164:=eq_true p164
    replace q164:=eq_true q164
    have p165 : 0 ≤ (x35_2 : Int):=of_decide_eq_true (by first|(with_reducible assumption)|assumption)
    have q165 : x35_2 < (l0_1.length : Int):=of_decide_eq_true (by first|(with_reducible assumption)|assumption)
    obtain ⟨ad165,e165,hx165_0⟩:=Kd.at_int HR0_1.out x35_2 p165 q165
    obtain rfl : ad164 = ad165:=(by injection e165)
    replace hx165_0:=(HB.out.cell (World.block_lt_of_cell? w _ hx165_0)).trans hx165_0
    replace p165:=eq_true p165
    replace q165:=eq_true q165
    go_wp2
    repeat (go_quiet (fail);try go_wp2)
    go_roundg k2
    case measure=>have:=HJ1.out;have:=HK2.out;omega
    case rel=>exact ⟨(wrap64 (x35_2 + 1)),(by first|rfl|(simp;done)|(simp [*];done)),H',⟨by have:=HJ1.out;have:=HK2.out;omega⟩,⟨by (with_reducible repeat (first|apply blk_drewN|apply blk_drew|apply blk_alloc));exact BK160.out⟩,⟨by repeat (first|(with_reducible first|exact HB.out|apply below_alloc|apply pw_below_drewN|apply below_drew1|refine below_set ?_ GE160.out)|exact HB.out)⟩⟩
   rw [if_neg c18] at H
   have c18b0 : ((rd l0_2 x35_2) == 1) = false:=beq_eq_false_iff_ne.mpr c18
   have c18b1 : ((rd l0_2 x35_2) != 1) = true:=bne_iff_ne.mpr c18
   by_cases c27 : (rd l0_2 x35_2) = (-1)
   rotate_left
   ·rw [if_neg c27] at H
    have c27b0 : ((rd l0_2 x35_2) == (-1)) = false:=beq_eq_false_iff_ne.mpr c27
    have c27b1 : ((rd l0_2 x35_2) != (-1)) = true:=bne_iff_ne.mpr c27
    obtain rfl:=Option.some.inj H
    have p163 : 0 ≤ (x35_2 : Int):=of_decide_eq_true (by first|(with_reducible assumption)|assumption)
    have q163 : x35_2 < (l0_2.length : Int):=of_decide_eq_true (by first|(with_reducible assumption)|assumption)
    obtain ⟨ad163,e163,hx163_0⟩:=Kd.at_int HR0_2.out x35_2 p163 q163
    cases e163
    replace hx163_0:=(HB.out.cell (World.block_lt_of_cell? w _ hx163_0)).trans hx163_0
    replace p163:=eq_true p163
    replace q163:=eq_true q163
    go_wp2
    repeat (go_quiet (fail);try go_wp2)
    go_ret
    exact ⟨by first|rfl|(simp [errW_none,errW_some] <;> rfl)|(simp [*,errW_none,errW_some] <;> rfl),by repeat (first|(with_reducible first|exact HB.out|apply below_alloc|apply pw_below_drewN|apply below_drew1|refine below_set ?_ GE160.out)|exact HB.out)⟩
   rw [if_pos c27] at H
   have c27b0 : ((rd l0_2 x35_2) == (-1)) = true:=beq_iff_eq.mpr c27
   have c27b1 : ((rd l0_2 x35_2) != (-1)) = false:=bne_eq_false_iff_eq.mpr c27
   clear c27
   by_cases c28 : x35_2 > 0
   rotate_left
   ·rw [if_neg c28] at H
    have c28b0 : decide (0 < x35_2) = false:=decide_eq_false c28
    clear c28
    have H':=Aside0.mk H
    clear H
    have p163 : 0 ≤ (x35_2 : Int):=of_decide_eq_true (by first|(with_reducible assumption)|assumption)
    have q163 : x35_2 < (l0_2.length : Int):=of_decide_eq_true (by first|(with_reducible assumption)|assumption)
    obtain ⟨ad163,e163,hx163_0⟩:=Kd.at_int HR0_2.out x35_2 p163 q163
    cases e163
    replace hx163_0:=(HB.out.cell (World.block_lt_of_cell? w _ hx163_0)).trans hx163_0
    replace p163:=eq_true p163
    replace q163:=eq_true q163
    go_wp2
    repeat (go_quiet (fail);try go_wp2)
    go_roundg k2
    case measure=>have:=HJ1.out;have:=HK2.out;omega
    case rel=>exact ⟨(wrap64 (x35_2 + 1)),(by first|rfl|(simp;done)|(simp [*];done)),H',⟨by have:=HJ1.out;have:=HK2.out;omega⟩,⟨by (with_reducible repeat (first|apply blk_drewN|apply blk_drew|apply blk_alloc));exact BK160.out⟩,⟨by repeat (first|(with_reducible first|exact HB.out|apply below_alloc|apply pw_below_drewN|apply below_drew1|refine below_set ?_ GE160.out)|exact HB.out)⟩⟩
   rw [if_pos c28] at H
   have c28b0 : decide (0 < x35_2) = true:=decide_eq_true c28
   clear c28
   obtain ⟨ji29,hji29⟩ : ∃ j_ : Int,(wrap64 (x35_2 - 1)) = j_:=⟨_,rfl⟩
   replace H : (if 0 ≤ (ji29) then (if (ji29) < (l0_1.length : Int) then (if x35_2 < (l0_1.length : Int) then (if (rd l0_1 (ji29)) ≥ (rd l0_1 x35_2) then (some false) else (impl_IsWire.l0 k2 l0_2 (l0_2.length : Int) (wrap64 (x35_2 + 1)) a0_0 l0_1 l0_2)) else (none)) else (none)) else (none)) = some r:=by first|(rw [hji29] at H;exact H)|(simp only [hji29] at H ⊢;exact H)
   have hji29w : (IntKind.i64.wrap (x35_2 - 1)) = ji29:=(i64_w _).trans hji29
   by_cases c30 : 0 ≤ (ji29)
   rotate_left
   ·rw [if_neg c30] at H
    exact absurd H (by simp)
   rw [if_pos c30] at H
   have c30b0 : decide (0 ≤ (ji29)) = true:=decide_eq_true c30
   clear c30
   by_cases c31 : (ji29) < (l0_1.length : Int)
   rotate_left
   ·rw [if_neg c31] at H
    exact absurd H (by simp)
   rw [if_pos c31] at H
   have c31b0 : decide ((ji29) < (l0_1.length : Int)) = true:=decide_eq_true c31
   clear c31
   by_cases c32 : x35_2 < (l0_1.length : Int)
   rotate_left
   ·rw [if_neg c32] at H
    exact absurd H (by simp)
   rw [if_pos c32] at H
   have c32b0 : decide (x35_2 < (l0_1.length : Int)) = true:=decide_eq_true c32
   clear c32
   by_cases c33 : (rd l0_1 (ji29)) ≥ (rd l0_1 x35_2)
   ·rw [if_pos c33] at H
    have c33b0 : decide ((rd l0_1 x35_2) ≤ (rd l0_1 (ji29))) = true:=decide_eq_true c33
    clear c33
    obtain rfl:=Option.some.inj H
    have p163 : 0 ≤ (x35_2 : Int):=of_decide_eq_true (by first|(with_reducible assumption)|assumption)
    have q163 : x35_2 < (l0_2.length : Int):=of_decide_eq_true (by first|(with_reducible assumption)|assumption)
    obtain ⟨ad163,e163,hx163_0⟩:=Kd.at_int HR0_2.out x35_2 p163 q163
    cases e163
    replace hx163_0:=(HB.out.cell (World.block_lt_of_cell? w _ hx163_0)).trans hx163_0
    replace p163:=eq_true p163
    replace q163:=eq_true q163
    have hcz34_0 : wr.cell? ⟨gb160,0,none⟩ = some (.int .i64 a0_0):=(blk_cell BK160.out 0).trans rfl
    have hcz34_1 : wr.cell? ⟨gb160,1,none⟩ = some (.slice A0_1 l0_1.length c0_1):=(blk_cell BK160.out 1).trans rfl
    have hcz34_2 : wr.cell? ⟨gb160,2,none⟩ = some (.slice (some ad163) l0_2.length c0_2):=(blk_cell BK160.out 2).trans rfl
    have hfz34_0:=blk_frozen BK160.out 0
    have hfz34_1:=blk_frozen BK160.out 1
    have hfz34_2:=blk_frozen BK160.out 2
    have p166 : 0 ≤ ((ji29) : Int):=of_decide_eq_true (by first|(with_reducible assumption)|assumption)
    have q166 : (ji29) < (l0_1.length : Int):=of_decide_eq_true (by first|(with_reducible assumption)|assumption)
    obtain ⟨ad166,e166,hx166_0⟩:=Kd.at_int HR0_1.out (ji29) p166 q166
    cases e166
    replace hx166_0:=(HB.out.cell (World.block_lt_of_cell? w _ hx166_0)).trans hx166_0
    replace p166:=eq_true p166
    replace q166:=eq_true q166
    have p167 : 0 ≤ (x35_2 : Int):=of_decide_eq_true (by first|(with_reducible assumption)|assumption)
    have q167 : x35_2 < (l0_1.length : Int):=of_decide_eq_true (by first|(with_reducible assumption)|assumption)
    obtain ⟨ad167,e167,hx167_0⟩:=Kd.at_int HR0_1.out x35_2 p167 q167
    obtain rfl : ad166 = ad167:=(by injection e167)
    replace hx167_0:=(HB.out.cell (World.block_lt_of_cell? w _ hx167_0)).trans hx167_0
    replace p167:=eq_true p167
    replace q167:=eq_true q167
    go_wp2
    repeat (go_quiet (fail);try go_wp2)
    go_ret
    exact ⟨by first|rfl|(simp [errW_none,errW_some] <;> rfl)|(simp only [← hji29];first|rfl|(simp [errW_none,errW_some] <;> rfl))|(simp [*,errW_none,errW_some] <;> rfl),by repeat (first|(with_reducible first|exact HB.out|apply below_alloc|apply pw_below_drewN|apply below_drew1|refine below_set ?_ GE160.out)|exact HB.out)⟩
   rw [if_neg c33] at H
   have c33b0 : decide ((rd l0_1 x35_2) ≤ (rd l0_1 (ji29))) = false:=decide_eq_false c33
   clear c33
   have H':=Aside0.mk H
   clear H
   have p163 : 0 ≤ (x35_2 : Int):=of_decide_eq_true (by first|(with_reducible assumption)|assumption)
   have q163 : x35_2 < (l0_2.length : Int):=of_decide_eq_true (by first|(with_reducible assumption)|assumption)
   obtain ⟨ad163,e163,hx163_0⟩:=Kd.at_int HR0_2.out x35_2 p163 q163
   cases e163
   replace hx163_0:=(HB.out.cell (World.block_lt_of_cell? w _ hx163_0)).trans hx163_0
   replace p163:=eq_true p163
   replace q163:=eq_true q163
   have hcz35_0 : wr.cell? ⟨gb160,0,none⟩ = some (.int .i64 a0_0):=(blk_cell BK160.out 0).trans rfl
   have hcz35_1 : wr.cell? ⟨gb160,1,none⟩ = some (.slice A0_1 l0_1.length c0_1):=(blk_cell BK160.out 1).trans rfl
   have hcz35_2 : wr.cell? ⟨gb160,2,none⟩ = some (.slice (some ad163) l0_2.length c0_2):=(blk_cell BK160.out 2).trans rfl
   have hfz35_0:=blk_frozen BK160.out 0
   have hfz35_1:=blk_frozen BK160.out 1
   have hfz35_2:=blk_frozen BK160.out 2
   have p166 : 0 ≤ ((ji29) : Int):=of_decide_eq_true (by first|(with_reducible assumption)|assumption)
   have q166 : (ji29) < (l0_1.length : Int):=of_decide_eq_true (by first|(with_reducible assumption)|assumption)
   obtain ⟨ad166,e166,hx166_0⟩:=Kd.at_int HR0_1.out (ji29) p166 q166
   cases e166
   replace hx166_0:=(HB.out.cell (World.block_lt_of_cell? w _ hx166_0)).trans hx166_0
   replace p166:=eq_true p166
   replace q166:=eq_true q166
   have p167 : 0 ≤ (x35_2 : Int):=of_decide_eq_true (by first|(with_reducible assumption)|assumption)
   have q167 : x35_2 < (l0_1.length : Int):=of_decide_eq_true (by first|(with_reducible assumption)|assumption)
   obtain ⟨ad167,e167,hx167_0⟩:=Kd.at_int HR0_1.out x35_2 p167 q167
   obtain rfl : ad166 = ad167:=(by injection e167)
   replace hx167_0:=(HB.out.cell (World.block_lt_of_cell? w _ hx167_0)).trans hx167_0
   replace p167:=eq_true p167
   replace q167:=eq_true q167
   go_wp2
   repeat (go_quiet (fail);try go_wp2)
   go_roundg k2
   case measure=>have:=HJ1.out;have:=HK2.out;omega
   case rel=>exact ⟨(wrap64 (x35_2 + 1)),(by first|rfl|(simp;done)|(simp [*];done)),H',⟨by have:=HJ1.out;have:=HK2.out;omega⟩,⟨by (with_reducible repeat (first|apply blk_drewN|apply blk_drew|apply blk_alloc));exact BK160.out⟩,⟨by repeat (first|(with_reducible first|exact HB.out|apply below_alloc|apply pw_below_drewN|apply below_drew1|refine below_set ?_ GE160.out)|exact HB.out)⟩⟩


/-! ### mapped_50: mapped over the closure 50 -/
theorem impl_MirrorWire_2.calls (x : Int) (W : World) : Calls Try.prog 50 #[.int .i64 x] W fun e W'=>e = .returned (.int .i64 (wrap64 (-x))) ∧ Drawn0 W W':=by
  go_enter Try.func50,Try.ntmps50
  go_wp2
  go_ret
  exact ⟨by first|rfl|(simp;done)|(simp [*];done),by repeat (first|exact Drawn0.refl _|apply Drawn0.step)⟩
def mapped_50.f (k : Nat) (a0 : List Int) : Option (List Int):=Mapped.f (fun x=>some (wrap64 (-x))) k a0
theorem mapped_50.mono : ∀ a0 k,LeO (mapped_50.f k a0) (mapped_50.f (k + 1) a0):=fun a0 k=>Mapped.mono _ a0 k
theorem mapped_50.calls (k : Nat) (A0 : Option Addr) (c0 : Nat) (l0 : List Int) (r : List Int) (w : World) (hr0 : Kd.C (Kd.int .i64) w A0 l0.length l0) (hc0 : l0.length ≤ c0) (h : mapped_50.f k l0 = some r) :
    Calls Try.prog 48 #[.slice A0 l0.length c0,.func (.func 50) #[] #[]] w fun e w'=>∃ v0_ : Value,e = .returned (v0_) ∧ Kd.R (Kd.int .i64) 3 w' w.heap.size (fun _=>True) v0_ r ∧ Below w.heap.size w w' :=
  Mapped.calls (fun x=>some (wrap64 (-x))) 50 Try.f50 #[] Try.func50 (by kernel_rfl) (by kernel_rfl) k A0 c0 l0 r w (fun x y W _ hg=>by
    obtain rfl:=Option.some.inj hg
    exact impl_MirrorWire_2.calls x W) hr0 hc0 h

/-! ### mapped_49: mapped over the closure 49,which reads the wire's length -/
theorem closure_49 (x a : Int) (g : Nat) (W : World) (hc : W.cell? ⟨g,0,none⟩ = some (.int .i64 a)) : Calls Try.prog 49 #[.int .i64 x,.pointer (some ⟨g,0,none⟩)] W fun e W'=>e = .returned (.int .i64 (wrap64 (a - x))) ∧ Drawn0 W W':=by
  have hu27:=Try.underlying27
  go_enter Try.func49,Try.ntmps49
  go_wp2
  go_ret
  exact ⟨by first|rfl|(simp;done)|(simp [*];done),by repeat (first|exact Drawn0.refl _|apply Drawn0.step)⟩
def mapped_49.f (k : Nat) (a0 : List Int) (a : Int) : Option (List Int):=Mapped.f (fun x=>some (wrap64 (a - x))) k a0
theorem mapped_49.mono : ∀ a0 a k,LeO (mapped_49.f k a0 a) (mapped_49.f (k + 1) a0 a):=fun a0 a k=>Mapped.mono _ a0 k
theorem mapped_49.calls (k : Nat) (A0 : Option Addr) (c0 : Nat) (l0 : List Int) (a : Int) (r : List Int) (w : World) (g : Nat) (hcell : w.cell? ⟨g,0,none⟩ = some (.int .i64 a)) (hr0 : Kd.C (Kd.int .i64) w A0 l0.length l0) (hc0 : l0.length ≤ c0) (h : mapped_49.f k l0 a = some r) :
    Calls Try.prog 48 #[.slice A0 l0.length c0,.func (.func 49) #[] #[.pointer (some ⟨g,0,none⟩)]] w fun e w'=>∃ v0_ : Value,e = .returned (v0_) ∧ Kd.R (Kd.int .i64) 3 w' w.heap.size (fun _=>True) v0_ r ∧ Below w.heap.size w w' :=
  Mapped.calls (fun x=>some (wrap64 (a - x))) 49 Try.f49 #[.pointer (some ⟨g,0,none⟩)] Try.func49 (by kernel_rfl) (by kernel_rfl) k A0 c0 l0 r w (fun x y W hb hg=>by
    obtain rfl:=Option.some.inj hg
    exact closure_49 x a g W ((hb.cell (World.block_lt_of_cell? w _ hcell)).trans hcell)) hr0 hc0 h


end
end Go.Proofs.Ytciihopkgblpkaa.QFnExactMirrorWire
