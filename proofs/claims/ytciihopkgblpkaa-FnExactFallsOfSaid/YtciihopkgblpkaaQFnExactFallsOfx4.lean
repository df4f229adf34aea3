/- Functions that the law FnExactFallsOf comes to, as Lean functions, with the proof that the Go code does what they say: written by a program of this session over the kit's print. No condition but those named. -/
import Derived.Test.YtciihopkgblpkaaQFnExactFallsOfx0
import Derived.Test.YtciihopkgblpkaaQFnExactFallsOfx3
namespace Go.Proofs.Ytciihopkgblpkaa.QFnExactFallsOf
open Go.RowKit Go.Proofs.YtciihopkgblpkaaW.PrintWords Go.Proofs.YtciihopkgblpkaaW.PrintLast Go.Proofs.YtciihopkgblpkaaW.PrintMore
attribute [local go_sem] max2_int min2_int max_two min_two max_three min_three max_four min_four   -- for this text's walks alone
set_option linter.unusedVariables false
set_option linter.unusedSimpArgs false

/-! ### impl_IsWire: function 14 -/
section
open Kd
mutual
def impl_IsWire.j0 : Nat → Bool → Int → List Int → List Int → Option (Bool)
 | 0,_,_,_,_=>none
 | k + 1,x31,x168000,x168001,x168002=>if x31 = true then (some false) else (impl_IsWire.l0 k x168002 (x168002.length : Int) 0 x168000 x168001 x168002)
def impl_IsWire.l0 : Nat → List Int → Int → Int → Int → List Int → List Int → Option (Bool)
 | 0,_,_,_,_,_,_=>none
 | k + 1,x33,x34,x35,x168000,x168001,x168002=>if x35 < x34 then (if 0 ≤ x35 then (if x35 < (x33.length : Int) then (if (rd x33 x35) = 1 then (if x35 > 0 then (if 0 ≤ (wrap64 (x35 - 1)) then (if (wrap64 (x35 - 1)) < (x168001.length : Int) then (if x35 < (x168001.length : Int) then (if (rd x168001 (wrap64 (x35 - 1))) ≥ (rd x168001 x35) then (some false) else (impl_IsWire.l0 k x33 x34 (wrap64 (x35 + 1)) x168000 x168001 x168002)) else (none)) else (none)) else (none)) else (impl_IsWire.l0 k x33 x34 (wrap64 (x35 + 1)) x168000 x168001 x168002)) else (if (rd x33 x35) = (-1) then (if x35 > 0 then (if 0 ≤ (wrap64 (x35 - 1)) then (if (wrap64 (x35 - 1)) < (x168001.length : Int) then (if x35 < (x168001.length : Int) then (if (rd x168001 (wrap64 (x35 - 1))) ≥ (rd x168001 x35) then (some false) else (impl_IsWire.l0 k x33 x34 (wrap64 (x35 + 1)) x168000 x168001 x168002)) else (none)) else (none)) else (none)) else (impl_IsWire.l0 k x33 x34 (wrap64 (x35 + 1)) x168000 x168001 x168002)) else (some false))) else (none)) else (none)) else (some true)
end
def impl_IsWire.f (k : Nat) (a0_0 : Int) (l0_1 : List Int) (l0_2 : List Int) : Option (Bool):=(impl_within.f a0_0 1 30).bind fun t168=>(if t168 = true then (if (l0_1.length : Int) > 8 then (impl_IsWire.j0 k true a0_0 l0_1 l0_2) else (if (l0_2.length : Int) = (l0_1.length : Int) then ((impl_allWithin.f k l0_1 0 a0_0).bind fun t169=>(impl_IsWire.j0 k (!t169) a0_0 l0_1 l0_2)) else (impl_IsWire.j0 k true a0_0 l0_1 l0_2))) else (impl_IsWire.j0 k true a0_0 l0_1 l0_2))
theorem impl_IsWire.mono_l : ∀ k,(∀ y0 y1 y2 y3,LeO (impl_IsWire.j0 k y0 y1 y2 y3) (impl_IsWire.j0 (k + 1) y0 y1 y2 y3)) ∧ (∀ y0 y1 y2 y3 y4 y5,LeO (impl_IsWire.l0 k y0 y1 y2 y3 y4 y5) (impl_IsWire.l0 (k + 1) y0 y1 y2 y3 y4 y5))
 | 0=>⟨fun _ _ _ _ r h=>by simp [impl_IsWire.j0] at h,fun _ _ _ _ _ _ r h=>by simp [impl_IsWire.l0] at h⟩
 | k + 1=>by
  obtain ⟨ih0,ih1⟩:=impl_IsWire.mono_l k
  refine ⟨?_,?_⟩
  ·intro y0 y1 y2 y3
   unfold impl_IsWire.j0
   repeat' first
   | (with_reducible exact ih0 _ _ _ _)
   | (with_reducible exact ih1 _ _ _ _ _ _)
   | (with_reducible exact impl_allWithin.mono _ _ _ _)
   | (with_reducible exact LeO.refl _)
   | (with_reducible exact LeO.none _)
   | (with_reducible refine LeO.ite ?_ ?_)
   | (with_reducible refine LeO.bind ?_ (fun _=>?_))
   | exact ih0 _ _ _ _
   | exact ih1 _ _ _ _ _ _
   | exact impl_allWithin.mono _ _ _ _
   | exact LeO.none _
   | refine LeO.ite ?_ ?_
   | refine LeO.bind ?_ (fun _=>?_)
  ·intro y0 y1 y2 y3 y4 y5
   unfold impl_IsWire.l0
   repeat' first
   | (with_reducible exact ih0 _ _ _ _)
   | (with_reducible exact ih1 _ _ _ _ _ _)
   | (with_reducible exact impl_allWithin.mono _ _ _ _)
   | (with_reducible exact LeO.refl _)
   | (with_reducible exact LeO.none _)
   | (with_reducible refine LeO.ite ?_ ?_)
   | (with_reducible refine LeO.bind ?_ (fun _=>?_))
   | exact ih0 _ _ _ _
   | exact ih1 _ _ _ _ _ _
   | exact impl_allWithin.mono _ _ _ _
   | exact LeO.none _
   | refine LeO.ite ?_ ?_
   | refine LeO.bind ?_ (fun _=>?_)
theorem impl_IsWire.mono : ∀ a0 a1 a2 k,LeO (impl_IsWire.f k a0 a1 a2) (impl_IsWire.f (k + 1) a0 a1 a2):=by
 intro a0 a1 a2 k
 obtain ⟨ih0,ih1⟩:=impl_IsWire.mono_l k
 unfold impl_IsWire.f
 repeat' first
   | (with_reducible exact ih0 _ _ _ _)
   | (with_reducible exact ih1 _ _ _ _ _ _)
   | (with_reducible exact impl_allWithin.mono _ _ _ _)
   | (with_reducible exact LeO.refl _)
   | (with_reducible exact LeO.none _)
   | (with_reducible refine LeO.ite ?_ ?_)
   | (with_reducible refine LeO.bind ?_ (fun _=>?_))
   | exact ih0 _ _ _ _
   | exact ih1 _ _ _ _ _ _
   | exact impl_allWithin.mono _ _ _ _
   | exact LeO.none _
   | refine LeO.ite ?_ ?_
   | refine LeO.bind ?_ (fun _=>?_)
set_option maxHeartbeats 8000000 in
set_option maxRecDepth 100000 in
theorem impl_IsWire.calls (k : Nat) (a0_0 : Int) (A0_1 : Option Addr) (c0_1 : Nat) (l0_1 : List Int) (A0_2 : Option Addr) (c0_2 : Nat) (l0_2 : List Int) (r : Bool) (w : World) (hr0_1 : Kd.C (Kd.int .i64) w A0_1 l0_1.length l0_1) (hc0_1 : l0_1.length ≤ c0_1) (hr0_2 : Kd.C (Kd.int .i64) w A0_2 l0_2.length l0_2) (hc0_2 : l0_2.length ≤ c0_2) (h : impl_IsWire.f k a0_0 l0_1 l0_2 = some r) :
  Calls Try.prog 14 #[.agg #[.int .i64 a0_0,.slice A0_1 l0_1.length c0_1,.slice A0_2 l0_2.length c0_2]] w fun e w'=>e = .returned (.bool r) ∧ Below w.heap.size w w':=by
 have hu27:=Try.underlying27
 have HR0_1:=Aside0.mk hr0_1
 have HC0_1:=Aside0.mk hc0_1
 clear hr0_1 hc0_1
 have HR0_2:=Aside0.mk hr0_2
 have HC0_2:=Aside0.mk hc0_2
 clear hr0_2 hc0_2
 have HB:=Aside0.mk (Below.refl w.heap.size w)
 have H : ((impl_within.f a0_0 1 30).bind fun t168=>(if t168 = true then (if (l0_1.length : Int) > 8 then (impl_IsWire.j0 k true a0_0 l0_1 l0_2) else (if (l0_2.length : Int) = (l0_1.length : Int) then ((impl_allWithin.f k l0_1 0 a0_0).bind fun t169=>(impl_IsWire.j0 k (!t169) a0_0 l0_1 l0_2)) else (impl_IsWire.j0 k true a0_0 l0_1 l0_2))) else (impl_IsWire.j0 k true a0_0 l0_1 l0_2))) = some r:=h
 clear h
 have HC2:=Aside0.mk H
 clear H
 go_enter Try.func14,Try.ntmps14
 go_upto_region 1 with (first|((with_reducible refine gate_dst (N:=1) rfl ?_);refine box_event ?hg (N:=1) ?hd (cs:=#[.int .i64 a0_0,.slice A0_1 l0_1.length c0_1,.slice A0_2 l0_2.length c0_2]) (t:=27) ?hr ?_;(case hd=>rfl);(case hg=>rfl);(case hr=>first|(go_simp;done)|(go_simp;rfl));intro gb167 hg w3 hbox hb;have n0_:=Aside0.mk (below_step (by repeat (first|(with_reducible first|exact HB.out|apply below_alloc|apply pw_below_drewN|apply below_drew1)|exact HB.out)) hb);have n1_:=Aside0.mk (hbox);have n2_:=Aside0.mk ((by rw [hg];exact (below_size (by repeat (first|(with_reducible first|exact HB.out|apply below_alloc|apply pw_below_drewN|apply below_drew1)|exact HB.out))) : w.heap.size ≤ gb167));have n3_:=Aside0.mk ((by rw [hg];exact (below_size (by repeat (first|(with_reducible first|exact HB.out|apply below_alloc|apply pw_below_drewN|apply below_drew1)|exact HB.out))) : w.heap.size ≤ gb167));clear HB;have HB:=n0_;have BK167:=n1_;have GW167:=n2_;have GE167:=n3_;clear n0_ n1_ n2_ n3_;clear hb hbox hg))
 repeat (go_quiet (fail);go_upto_region 1 with (first|((with_reducible refine gate_dst (N:=1) rfl ?_);refine box_event ?hg (N:=1) ?hd (cs:=#[.int .i64 a0_0,.slice A0_1 l0_1.length c0_1,.slice A0_2 l0_2.length c0_2]) (t:=27) ?hr ?_;(case hd=>rfl);(case hg=>rfl);(case hr=>first|(go_simp;done)|(go_simp;rfl));intro gb167 hg w3 hbox hb;have n0_:=Aside0.mk (below_step (by repeat (first|(with_reducible first|exact HB.out|apply below_alloc|apply pw_below_drewN|apply below_drew1)|exact HB.out)) hb);have n1_:=Aside0.mk (hbox);have n2_:=Aside0.mk ((by rw [hg];exact (below_size (by repeat (first|(with_reducible first|exact HB.out|apply below_alloc|apply pw_below_drewN|apply below_drew1)|exact HB.out))) : w.heap.size ≤ gb167));have n3_:=Aside0.mk ((by rw [hg];exact (below_size (by repeat (first|(with_reducible first|exact HB.out|apply below_alloc|apply pw_below_drewN|apply below_drew1)|exact HB.out))) : w.heap.size ≤ gb167));clear HB;have HB:=n0_;have BK167:=n1_;have GW167:=n2_;have GE167:=n3_;clear n0_ n1_ n2_ n3_;clear hb hbox hg)))
 (try simp only [Act.put,List.setIfInBounds_toArray,List.set_cons_zero,List.set_cons_succ])
 go_cut [31] (fun v31 wc=>∃ (kq : Nat) (x31_1 : Bool),v31 = .bool x31_1 ∧ Aside0 (impl_IsWire.j0 kq x31_1 a0_0 l0_1 l0_2 = some r) ∧ Aside0 (kq ≤ k) ∧ Aside0 (wc.heap[gb167]? = some (.cells #[.int .i64 a0_0,(.slice A0_1 l0_1.length c0_1),(.slice A0_2 l0_2.length c0_2)] 27 (0,0))) ∧ Aside0 (Below w.heap.size w wc))
 case first =>
  have H:=HC2.out
  clear HC2
  replace H:=Option.bind_eq_some_iff.mp H
  obtain ⟨t168,A40,H⟩:=H
  replace H : (if t168 = true then (if (l0_1.length : Int) > 8 then (impl_IsWire.j0 k true a0_0 l0_1 l0_2) else (if (l0_2.length : Int) = (l0_1.length : Int) then ((impl_allWithin.f k l0_1 0 a0_0).bind fun t169=>(impl_IsWire.j0 k (!t169) a0_0 l0_1 l0_2)) else (impl_IsWire.j0 k true a0_0 l0_1 l0_2))) else (impl_IsWire.j0 k true a0_0 l0_1 l0_2)) = some r:=H
  have A4:=Aside0.mk A40
  clear A40
  by_cases c5 : t168 = true
  rotate_left
  ·replace c5:=Bool.eq_false_iff.mpr c5
   subst c5
   have H1 : (impl_IsWire.j0 k true a0_0 l0_1 l0_2) = some r:=by rw [if_neg (show ¬ (false = true) by decide)] at H;exact H
   clear H
   have H:=H1
   clear H1
   have H':=Aside0.mk H
   clear H
   have hcz12_0 : w3.cell? ⟨gb167,0,none⟩ = some (.int .i64 a0_0):=(blk_cell BK167.out 0).trans rfl
   have hcz12_1 : w3.cell? ⟨gb167,1,none⟩ = some (.slice A0_1 l0_1.length c0_1):=(blk_cell BK167.out 1).trans rfl
   have hcz12_2 : w3.cell? ⟨gb167,2,none⟩ = some (.slice A0_2 l0_2.length c0_2):=(blk_cell BK167.out 2).trans rfl
   have hfz12_0:=blk_frozen BK167.out 0
   have hfz12_1:=blk_frozen BK167.out 1
   have hfz12_2:=blk_frozen BK167.out 2
   go_wp2_with (first|(go_at_call 42;(with_reducible refine (impl_within.calls a0_0 1 30 false _ A4.out).mono ?_);rintro e w' ⟨rfl,⟨nd,rfl⟩⟩;(try first|exact ⟨rfl,_,World.drewN_drewN _ _ _⟩|exact ⟨rfl,_,Eq.trans (World.drewN_drewN _ _ _) (congrArg (World.drewN _) (Nat.add_assoc _ _ _))⟩)))
   repeat (go_quiet (first|(go_at_call 42;(with_reducible refine (impl_within.calls a0_0 1 30 false _ A4.out).mono ?_);rintro e w' ⟨rfl,⟨nd,rfl⟩⟩;(try first|exact ⟨rfl,_,World.drewN_drewN _ _ _⟩|exact ⟨rfl,_,Eq.trans (World.drewN_drewN _ _ _) (congrArg (World.drewN _) (Nat.add_assoc _ _ _))⟩)));try go_wp2_with (first|(go_at_call 42;(with_reducible refine (impl_within.calls a0_0 1 30 false _ A4.out).mono ?_);rintro e w' ⟨rfl,⟨nd,rfl⟩⟩;(try first|exact ⟨rfl,_,World.drewN_drewN _ _ _⟩|exact ⟨rfl,_,Eq.trans (World.drewN_drewN _ _ _) (congrArg (World.drewN _) (Nat.add_assoc _ _ _))⟩))))
   go_meet
   case rel=>exact ⟨_,(true),(by first|rfl|(simp;done)|(simp [*];done)),H',⟨by first|omega|exact Nat.le_refl _⟩,⟨by (with_reducible repeat (first|apply blk_drewN|apply blk_drew|apply blk_alloc));exact BK167.out⟩,⟨by repeat (first|(with_reducible first|exact HB.out|apply below_alloc|apply pw_below_drewN|apply below_drew1|refine below_set ?_ GE167.out)|exact HB.out)⟩⟩
  subst c5
  have H1 : (if (l0_1.length : Int) > 8 then (impl_IsWire.j0 k true a0_0 l0_1 l0_2) else (if (l0_2.length : Int) = (l0_1.length : Int) then ((impl_allWithin.f k l0_1 0 a0_0).bind fun t169=>(impl_IsWire.j0 k (!t169) a0_0 l0_1 l0_2)) else (impl_IsWire.j0 k true a0_0 l0_1 l0_2))) = some r:=by rw [if_pos rfl] at H;exact H
  clear H
  have H:=H1
  clear H1
  by_cases c6 : (l0_1.length : Int) > 8
  ·rw [if_pos c6] at H
   have c6b0 : decide (8 < (l0_1.length : Int)) = true:=decide_eq_true c6
   have c6b1 : decide (8 < l0_1.length) = true:=decide_eq_true (by omega)
   clear c6
   (first|rw [c6b0]|(simp only [i64_w,i32_w];rw [c6b0])|skip)
   have H':=Aside0.mk H
   clear H
   have hcz7_0 : w3.cell? ⟨gb167,0,none⟩ = some (.int .i64 a0_0):=(blk_cell BK167.out 0).trans rfl
   have hcz7_1 : w3.cell? ⟨gb167,1,none⟩ = some (.slice A0_1 l0_1.length c0_1):=(blk_cell BK167.out 1).trans rfl
   have hcz7_2 : w3.cell? ⟨gb167,2,none⟩ = some (.slice A0_2 l0_2.length c0_2):=(blk_cell BK167.out 2).trans rfl
   have hfz7_0:=blk_frozen BK167.out 0
   have hfz7_1:=blk_frozen BK167.out 1
   have hfz7_2:=blk_frozen BK167.out 2
   go_wp2_with (first|(go_at_call 42;(with_reducible refine (impl_within.calls a0_0 1 30 true _ A4.out).mono ?_);rintro e w' ⟨rfl,⟨nd,rfl⟩⟩;(try first|exact ⟨rfl,_,World.drewN_drewN _ _ _⟩|exact ⟨rfl,_,Eq.trans (World.drewN_drewN _ _ _) (congrArg (World.drewN _) (Nat.add_assoc _ _ _))⟩)))
   repeat (go_quiet (first|(go_at_call 42;(with_reducible refine (impl_within.calls a0_0 1 30 true _ A4.out).mono ?_);rintro e w' ⟨rfl,⟨nd,rfl⟩⟩;(try first|exact ⟨rfl,_,World.drewN_drewN _ _ _⟩|exact ⟨rfl,_,Eq.trans (World.drewN_drewN _ _ _) (congrArg (World.drewN _) (Nat.add_assoc _ _ _))⟩)));try go_wp2_with (first|(go_at_call 42;(with_reducible refine (impl_within.calls a0_0 1 30 true _ A4.out).mono ?_);rintro e w' ⟨rfl,⟨nd,rfl⟩⟩;(try first|exact ⟨rfl,_,World.drewN_drewN _ _ _⟩|exact ⟨rfl,_,Eq.trans (World.drewN_drewN _ _ _) (congrArg (World.drewN _) (Nat.add_assoc _ _ _))⟩))))
   go_meet
   case rel=>exact ⟨_,(true),(by first|rfl|(simp;done)|(simp [*];done)),H',⟨by first|omega|exact Nat.le_refl _⟩,⟨by (with_reducible repeat (first|apply blk_drewN|apply blk_drew|apply blk_alloc));exact BK167.out⟩,⟨by repeat (first|(with_reducible first|exact HB.out|apply below_alloc|apply pw_below_drewN|apply below_drew1|refine below_set ?_ GE167.out)|exact HB.out)⟩⟩
  rw [if_neg c6] at H
  have c6b0 : decide (8 < (l0_1.length : Int)) = false:=decide_eq_false c6
  have c6b1 : decide (8 < l0_1.length) = false:=decide_eq_false (by omega)
  clear c6
  (first|rw [c6b0]|(simp only [i64_w,i32_w];rw [c6b0])|skip)
  by_cases c8 : (l0_2.length : Int) = (l0_1.length : Int)
  rotate_left
  ·rw [if_neg c8] at H
   have c8b0 : ((l0_2.length : Int) == (l0_1.length : Int)) = false:=beq_eq_false_iff_ne.mpr c8
   have c8b1 : ((l0_2.length : Int) != (l0_1.length : Int)) = true:=bne_iff_ne.mpr c8
   have c8b2 : (l0_2.length == l0_1.length) = false:=by first|simpa using c8|(simp at c8 ⊢;omega)
   have H':=Aside0.mk H
   clear H
   have hcz11_0 : w3.cell? ⟨gb167,0,none⟩ = some (.int .i64 a0_0):=(blk_cell BK167.out 0).trans rfl
   have hcz11_1 : w3.cell? ⟨gb167,1,none⟩ = some (.slice A0_1 l0_1.length c0_1):=(blk_cell BK167.out 1).trans rfl
   have hcz11_2 : w3.cell? ⟨gb167,2,none⟩ = some (.slice A0_2 l0_2.length c0_2):=(blk_cell BK167.out 2).trans rfl
   have hfz11_0:=blk_frozen BK167.out 0
   have hfz11_1:=blk_frozen BK167.out 1
   have hfz11_2:=blk_frozen BK167.out 2
   go_wp2_with (first|(go_at_call 42;(with_reducible refine (impl_within.calls a0_0 1 30 true _ A4.out).mono ?_);rintro e w' ⟨rfl,⟨nd,rfl⟩⟩;(try first|exact ⟨rfl,_,World.drewN_drewN _ _ _⟩|exact ⟨rfl,_,Eq.trans (World.drewN_drewN _ _ _) (congrArg (World.drewN _) (Nat.add_assoc _ _ _))⟩)))
   repeat (go_quiet (first|(go_at_call 42;(with_reducible refine (impl_within.calls a0_0 1 30 true _ A4.out).mono ?_);rintro e w' ⟨rfl,⟨nd,rfl⟩⟩;(try first|exact ⟨rfl,_,World.drewN_drewN _ _ _⟩|exact ⟨rfl,_,Eq.trans (World.drewN_drewN _ _ _) (congrArg (World.drewN _) (Nat.add_assoc _ _ _))⟩)));try go_wp2_with (first|(go_at_call 42;(with_reducible refine (impl_within.calls a0_0 1 30 true _ A4.out).mono ?_);rintro e w' ⟨rfl,⟨nd,rfl⟩⟩;(try first|exact ⟨rfl,_,World.drewN_drewN _ _ _⟩|exact ⟨rfl,_,Eq.trans (World.drewN_drewN _ _ _) (congrArg (World.drewN _) (Nat.add_assoc _ _ _))⟩))))
   go_meet
   case rel=>exact ⟨_,(true),(by first|rfl|(simp;done)|(simp [*];done)),H',⟨by first|omega|exact Nat.le_refl _⟩,⟨by (with_reducible repeat (first|apply blk_drewN|apply blk_drew|apply blk_alloc));exact BK167.out⟩,⟨by repeat (first|(with_reducible first|exact HB.out|apply below_alloc|apply pw_below_drewN|apply below_drew1|refine below_set ?_ GE167.out)|exact HB.out)⟩⟩
  rw [if_pos c8] at H
  have c8b0 : ((l0_2.length : Int) == (l0_1.length : Int)) = true:=beq_iff_eq.mpr c8
  have c8b1 : ((l0_2.length : Int) != (l0_1.length : Int)) = false:=bne_eq_false_iff_eq.mpr c8
  have c8b2 : (l0_2.length == l0_1.length) = true:=by first|simpa using c8|(simp at c8 ⊢;omega)
  clear c8
  replace H:=Option.bind_eq_some_iff.mp H
  obtain ⟨t169,A90,H⟩:=H
  replace H : (impl_IsWire.j0 k (!t169) a0_0 l0_1 l0_2) = some r:=H
  have A9:=Aside0.mk A90
  clear A90
  have H':=Aside0.mk H
  clear H
  have hcz10_0 : w3.cell? ⟨gb167,0,none⟩ = some (.int .i64 a0_0):=(blk_cell BK167.out 0).trans rfl
  have hcz10_1 : w3.cell? ⟨gb167,1,none⟩ = some (.slice A0_1 l0_1.length c0_1):=(blk_cell BK167.out 1).trans rfl
  have hcz10_2 : w3.cell? ⟨gb167,2,none⟩ = some (.slice A0_2 l0_2.length c0_2):=(blk_cell BK167.out 2).trans rfl
  have hfz10_0:=blk_frozen BK167.out 0
  have hfz10_1:=blk_frozen BK167.out 1
  have hfz10_2:=blk_frozen BK167.out 2
  go_wp2_with (first|(go_at_call 42;(with_reducible refine (impl_within.calls a0_0 1 30 true _ A4.out).mono ?_);rintro e w' ⟨rfl,⟨nd,rfl⟩⟩;(try first|exact ⟨rfl,_,World.drewN_drewN _ _ _⟩|exact ⟨rfl,_,Eq.trans (World.drewN_drewN _ _ _) (congrArg (World.drewN _) (Nat.add_assoc _ _ _))⟩))|(go_at_call 43;(with_reducible refine (impl_allWithin.calls k _ _ l0_1 0 a0_0 t169 _ ?side1 ?side2 A9.out).mono ?_);(case side1=>repeat (first|exact (C_below HR0_1.out (by repeat (first|(with_reducible first|exact HB.out|apply below_alloc|apply pw_below_drewN|apply below_drew1|refine below_set ?_ GE167.out)|exact HB.out)))|(with_reducible refine C_alloc ?_ _)|(with_reducible refine C_drewN ?_ _)|(with_reducible refine C_drew ?_)));(case side2=>exact HC0_1.out);rintro e w' ⟨rfl,⟨nd,rfl⟩⟩;(try first|exact ⟨rfl,_,World.drewN_drewN _ _ _⟩|exact ⟨rfl,_,Eq.trans (World.drewN_drewN _ _ _) (congrArg (World.drewN _) (Nat.add_assoc _ _ _))⟩)))
  repeat (go_quiet (first|(go_at_call 42;(with_reducible refine (impl_within.calls a0_0 1 30 true _ A4.out).mono ?_);rintro e w' ⟨rfl,⟨nd,rfl⟩⟩;(try first|exact ⟨rfl,_,World.drewN_drewN _ _ _⟩|exact ⟨rfl,_,Eq.trans (World.drewN_drewN _ _ _) (congrArg (World.drewN _) (Nat.add_assoc _ _ _))⟩))|(go_at_call 43;(with_reducible refine (impl_allWithin.calls k _ _ l0_1 0 a0_0 t169 _ ?side1 ?side2 A9.out).mono ?_);(case side1=>repeat (first|exact (C_below HR0_1.out (by repeat (first|(with_reducible first|exact HB.out|apply below_alloc|apply pw_below_drewN|apply below_drew1|refine below_set ?_ GE167.out)|exact HB.out)))|(with_reducible refine C_alloc ?_ _)|(with_reducible refine C_drewN ?_ _)|(with_reducible refine C_drew ?_)));(case side2=>exact HC0_1.out);rintro e w' ⟨rfl,⟨nd,rfl⟩⟩;(try first|exact ⟨rfl,_,World.drewN_drewN _ _ _⟩|exact ⟨rfl,_,Eq.trans (World.drewN_drewN _ _ _) (congrArg (World.drewN _) (Nat.add_assoc _ _ _))⟩)));try go_wp2_with (first|(go_at_call 42;(with_reducible refine (impl_within.calls a0_0 1 30 true _ A4.out).mono ?_);rintro e w' ⟨rfl,⟨nd,rfl⟩⟩;(try first|exact ⟨rfl,_,World.drewN_drewN _ _ _⟩|exact ⟨rfl,_,Eq.trans (World.drewN_drewN _ _ _) (congrArg (World.drewN _) (Nat.add_assoc _ _ _))⟩))|(go_at_call 43;(with_reducible refine (impl_allWithin.calls k _ _ l0_1 0 a0_0 t169 _ ?side1 ?side2 A9.out).mono ?_);(case side1=>repeat (first|exact (C_below HR0_1.out (by repeat (first|(with_reducible first|exact HB.out|apply below_alloc|apply pw_below_drewN|apply below_drew1|refine below_set ?_ GE167.out)|exact HB.out)))|(with_reducible refine C_alloc ?_ _)|(with_reducible refine C_drewN ?_ _)|(with_reducible refine C_drew ?_)));(case side2=>exact HC0_1.out);rintro e w' ⟨rfl,⟨nd,rfl⟩⟩;(try first|exact ⟨rfl,_,World.drewN_drewN _ _ _⟩|exact ⟨rfl,_,Eq.trans (World.drewN_drewN _ _ _) (congrArg (World.drewN _) (Nat.add_assoc _ _ _))⟩))))
  go_meet
  case rel=>exact ⟨_,(!t169),(by first|rfl|(simp;done)|(simp [*];done)),H',⟨by first|omega|exact Nat.le_refl _⟩,⟨by (with_reducible repeat (first|apply blk_drewN|apply blk_drew|apply blk_alloc));exact BK167.out⟩,⟨by repeat (first|(with_reducible first|exact HB.out|apply below_alloc|apply pw_below_drewN|apply below_drew1|refine below_set ?_ GE167.out)|exact HB.out)⟩⟩
 clear HC2
 try clear c1
 try clear p2
 try clear c5
 try clear c6
 try clear c6b0
 try clear c6b1
 try clear c8
 try clear c8b0
 try clear c8b1
 try clear c8b2
 try clear hcz10_0
 try clear hcz10_1
 try clear hcz10_2
 try clear hcz11_0
 try clear hcz11_1
 try clear hcz11_2
 try clear hcz12_0
 try clear hcz12_1
 try clear hcz12_2
 try clear hcz7_0
 try clear hcz7_1
 try clear hcz7_2
 try clear hfz10_0
 try clear hfz10_1
 try clear hfz10_2
 try clear hfz11_0
 try clear hfz11_1
 try clear hfz11_2
 try clear hfz12_0
 try clear hfz12_1
 try clear hfz12_2
 try clear hfz7_0
 try clear hfz7_1
 try clear hfz7_2
 obtain ⟨kq,x31_1,rfl,HA,HJ1,BK167,HB⟩:=hcut
 cases kq with
 | zero=>exact absurd HA.out (by simp [impl_IsWire.j0])
 | succ kj1 =>
  have H:=HA.out
  clear HA
  simp only [impl_IsWire.j0] at H
  by_cases c13 : x31_1 = true
  ·subst c13
   have H1 : (some false) = some r:=by rw [if_pos rfl] at H;exact H
   clear H
   have H:=H1
   clear H1
   obtain rfl:=Option.some.inj H
   go_wp2
   repeat (go_quiet (fail);try go_wp2)
   go_ret
   exact ⟨by first|rfl|(simp [errW_none,errW_some] <;> rfl)|(simp [*,errW_none,errW_some] <;> rfl),by repeat (first|(with_reducible first|exact HB.out|apply below_alloc|apply pw_below_drewN|apply below_drew1|refine below_set ?_ GE167.out)|exact HB.out)⟩
  replace c13:=Bool.eq_false_iff.mpr c13
  subst c13
  have H1 : (impl_IsWire.l0 kj1 l0_2 (l0_2.length : Int) 0 a0_0 l0_1 l0_2) = some r:=by rw [if_neg (show ¬ (false = true) by decide)] at H;exact H
  clear H
  have H:=H1
  clear H1
  have H':=Aside0.mk H
  clear H
  have hcz14_0 : wc.cell? ⟨gb167,0,none⟩ = some (.int .i64 a0_0):=(blk_cell BK167.out 0).trans rfl
  have hcz14_1 : wc.cell? ⟨gb167,1,none⟩ = some (.slice A0_1 l0_1.length c0_1):=(blk_cell BK167.out 1).trans rfl
  have hcz14_2 : wc.cell? ⟨gb167,2,none⟩ = some (.slice A0_2 l0_2.length c0_2):=(blk_cell BK167.out 2).trans rfl
  have hfz14_0:=blk_frozen BK167.out 0
  have hfz14_1:=blk_frozen BK167.out 1
  have hfz14_2:=blk_frozen BK167.out 2
  go_wp2
  repeat (go_quiet (fail);try go_wp2)
  go_loopg [35] kj1 (fun kq v35 w'=>∃ (x35_2 : Int),v35 = .int .i64 x35_2 ∧ Aside0 (impl_IsWire.l0 kq l0_2 (l0_2.length : Int) x35_2 a0_0 l0_1 l0_2 = some r) ∧ Aside0 (kq ≤ kj1) ∧ Aside0 (w'.heap[gb167]? = some (.cells #[.int .i64 a0_0,(.slice A0_1 l0_1.length c0_1),(.slice A0_2 l0_2.length c0_2)] 27 (0,0))) ∧ Aside0 (Below w.heap.size w w'))
  case atStart=>exact ⟨(0),(by first|rfl|(simp;done)|(simp [*];done)),H',⟨Nat.le_refl _⟩,⟨by (with_reducible repeat (first|apply blk_drewN|apply blk_drew|apply blk_alloc));exact BK167.out⟩,⟨by repeat (first|(with_reducible first|exact HB.out|apply below_alloc|apply pw_below_drewN|apply below_drew1|refine below_set ?_ GE167.out)|exact HB.out)⟩⟩
  clear H'
  try clear c1
  try clear p2
  try clear c5
  try clear c6
  try clear c6b0
  try clear c6b1
  try clear c8
  try clear c8b0
  try clear c8b1
  try clear c8b2
  try clear c13
  try clear c14
  try clear hcz10_0
  try clear hcz10_1
  try clear hcz10_2
  try clear hcz11_0
  try clear hcz11_1
  try clear hcz11_2
  try clear hcz12_0
  try clear hcz12_1
  try clear hcz12_2
  try clear hcz14_0
  try clear hcz14_1
  try clear hcz14_2
  try clear hcz7_0
  try clear hcz7_1
  try clear hcz7_2
  try clear hfz10_0
  try clear hfz10_1
  try clear hfz10_2
  try clear hfz11_0
  try clear hfz11_1
  try clear hfz11_2
  try clear hfz12_0
  try clear hfz12_1
  try clear hfz12_2
  try clear hfz14_0
  try clear hfz14_1
  try clear hfz14_2
  try clear hfz7_0
  try clear hfz7_1
  try clear hfz7_2
  try clear p2
  obtain ⟨x35_2,rfl,HA,HK2,BK167,HB⟩:=hrel
  cases gk with
  | zero=>exact absurd HA.out (by simp [impl_IsWire.l0])
  | succ k2 =>
   have H:=HA.out
   clear HA
   simp only [impl_IsWire.l0] at H
   by_cases c15 : x35_2 < (l0_2.length : Int)
   rotate_left
   ·rw [if_neg c15] at H
    have c15b0 : decide (x35_2 < (l0_2.length : Int)) = false:=decide_eq_false c15
    clear c15
    obtain rfl:=Option.some.inj H
    go_wp2
    repeat (go_quiet (fail);try go_wp2)
    go_ret
    exact ⟨by first|rfl|(simp [errW_none,errW_some] <;> rfl)|(simp [*,errW_none,errW_some] <;> rfl),by repeat (first|(with_reducible first|exact HB.out|apply below_alloc|apply pw_below_drewN|apply below_drew1|refine below_set ?_ GE167.out)|exact HB.out)⟩
   rw [if_pos c15] at H
   have c15b0 : decide (x35_2 < (l0_2.length : Int)) = true:=decide_eq_true c15
   clear c15
   by_cases c16 : 0 ≤ x35_2
   rotate_left
   ·rw [if_neg c16] at H
    exact absurd H (by simp)
   rw [if_pos c16] at H
   have c16b0 : decide (0 ≤ x35_2) = true:=decide_eq_true c16
   clear c16
   by_cases c17 : x35_2 < (l0_2.length : Int)
   rotate_left
   ·rw [if_neg c17] at H
    exact absurd H (by simp)
   rw [if_pos c17] at H
   have c17b0 : decide (x35_2 < (l0_2.length : Int)) = true:=decide_eq_true c17
   clear c17
   by_cases c18 : (rd l0_2 x35_2) = 1
   ·rw [if_pos c18] at H
    have c18b0 : ((rd l0_2 x35_2) == 1) = true:=beq_iff_eq.mpr c18
    have c18b1 : ((rd l0_2 x35_2) != 1) = false:=bne_eq_false_iff_eq.mpr c18
    clear c18
    by_cases c19 : x35_2 > 0
    rotate_left
    ·rw [if_neg c19] at H
     have c19b0 : decide (0 < x35_2) = false:=decide_eq_false c19
     clear c19
     have H':=Aside0.mk H
     clear H
     have p170 : 0 ≤ (x35_2 : Int):=of_decide_eq_true (by first|(with_reducible assumption)|assumption)
     have q170 : x35_2 < (l0_2.length : Int):=of_decide_eq_true (by first|(with_reducible assumption)|assumption)
     obtain ⟨ad170,e170,hx170_0⟩:=Kd.at_int HR0_2.out x35_2 p170 q170
     cases e170
     replace hx170_0:=(HB.out.cell (World.block_lt_of_cell? w _ hx170_0)).trans hx170_0
     replace p170:=eq_true p170
     replace q170:=eq_true q170
     go_wp2
     repeat (go_quiet (fail);try go_wp2)
     go_roundg k2
     case measure=>have:=HJ1.out;have:=HK2.out;omega
     case rel=>exact ⟨(wrap64 (x35_2 + 1)),(by first|rfl|(simp;done)|(simp [*];done)),H',⟨by have:=HJ1.out;have:=HK2.out;omega⟩,⟨by (with_reducible repeat (first|apply blk_drewN|apply blk_drew|apply blk_alloc));exact BK167.out⟩,⟨by repeat (first|(with_reducible first|exact HB.out|apply below_alloc|apply pw_below_drewN|apply below_drew1|refine below_set ?_ GE167.out)|exact HB.out)⟩⟩
    rw [if_pos c19] at H
    have c19b0 : decide (0 < x35_2) = true:=decide_eq_true c19
    clear c19
    obtain ⟨ji20,hji20⟩ : ∃ j_ : Int,(wrap64 (x35_2 - 1)) = j_:=⟨_,rfl⟩
    replace H : (if 0 ≤ (ji20) then (if (ji20) < (l0_1.length : Int) then (if x35_2 < (l0_1.length : Int) then (if (rd l0_1 (ji20)) ≥ (rd l0_1 x35_2) then (some false) else (impl_IsWire.l0 k2 l0_2 (l0_2.length : Int) (wrap64 (x35_2 + 1)) a0_0 l0_1 l0_2)) else (none)) else (none)) else (none)) = some r:=by first|(rw [hji20] at H;exact H)|(simp only [hji20] at H ⊢;exact H)
    have hji20w : (IntKind.i64.wrap (x35_2 - 1)) = ji20:=(i64_w _).trans hji20
    by_cases c21 : 0 ≤ (ji20)
    rotate_left
    ·rw [if_neg c21] at H
     exact absurd H (by simp)
    rw [if_pos c21] at H
    have c21b0 : decide (0 ≤ (ji20)) = true:=decide_eq_true c21
    clear c21
    by_cases c22 : (ji20) < (l0_1.length : Int)
    rotate_left
    ·rw [if_neg c22] at H
     exact absurd H (by simp)
    rw [if_pos c22] at H
    have c22b0 : decide ((ji20) < (l0_1.length : Int)) = true:=decide_eq_true c22
    clear c22
    by_cases c23 : x35_2 < (l0_1.length : Int)
    rotate_left
    ·rw [if_neg c23] at H
     exact absurd H (by simp)
    rw [if_pos c23] at H
    have c23b0 : decide (x35_2 < (l0_1.length : Int)) = true:=decide_eq_true c23
    clear c23
    by_cases c24 : (rd l0_1 (ji20)) ≥ (rd l0_1 x35_2)
    ·rw [if_pos c24] at H
     have c24b0 : decide ((rd l0_1 x35_2) ≤ (rd l0_1 (ji20))) = true:=decide_eq_true c24
     clear c24
     obtain rfl:=Option.some.inj H
     have p170 : 0 ≤ (x35_2 : Int):=of_decide_eq_true (by first|(with_reducible assumption)|assumption)
     have q170 : x35_2 < (l0_2.length : Int):=of_decide_eq_true (by first|(with_reducible assumption)|assumption)
     obtain ⟨ad170,e170,hx170_0⟩:=Kd.at_int HR0_2.out x35_2 p170 q170
     cases e170
     replace hx170_0:=(HB.out.cell (World.block_lt_of_cell? w _ hx170_0)).trans hx170_0
     replace p170:=eq_true p170
     replace q170:=eq_true q170
     have hcz25_0 : wr.cell? ⟨gb167,0,none⟩ = some (.int .i64 a0_0):=(blk_cell BK167.out 0).trans rfl
     have hcz25_1 : wr.cell? ⟨gb167,1,none⟩ = some (.slice A0_1 l0_1.length c0_1):=(blk_cell BK167.out 1).trans rfl
     have hcz25_2 : wr.cell? ⟨gb167,2,none⟩ = some (.slice (some ad170) l0_2.length c0_2):=(blk_cell BK167.out 2).trans rfl
     have hfz25_0:=blk_frozen BK167.out 0
     have hfz25_1:=blk_frozen BK167.out 1
     have hfz25_2:=blk_frozen BK167.out 2
     have p171 : 0 ≤ ((ji20) : Int):=of_decide_eq_true (by first|(with_reducible assumption)|assumption)
     have q171 : (ji20) < (l0_1.length : Int):=of_decide_eq_true (by first|(with_reducible assumption)|assumption)
     obtain ⟨ad171,e171,hx171_0⟩:=Kd.at_int HR0_1.out (ji20) p171 q171
     cases e171
     replace hx171_0:=(HB.out.cell (World.block_lt_of_cell? w _ hx171_0)).trans hx171_0
     replace p171:=eq_true p171
     replace q171:=eq_true q171
     have p172 : 0 ≤ (x35_2 : Int):=of_decide_eq_true (by first|(with_reducible assumption)|assumption)
     have q172 : x35_2 < (l0_1.length : Int):=of_decide_eq_true (by first|(with_reducible assumption)|assumption)
     obtain ⟨ad172,e172,hx172_0⟩:=Kd.at_int HR0_1.out x35_2 p172 q172
     obtain rfl : ad171 = ad172:=(by injection e172)
     replace hx172_0:=(HB.out.cell (World.block_lt_of_cell? w _ hx172_0)).trans hx172_0
     replace p172:=eq_true p172
     replace q172:=eq_true q172
     go_wp2
     repeat (go_quiet (fail);try go_wp2)
     go_ret
     exact ⟨by first|rfl|(simp [errW_none,errW_some] <;> rfl)|(simp only [← hji20];first|rfl|(simp [errW_none,errW_some] <;> rfl))|(simp [*,errW_none,errW_some] <;> rfl),by repeat (first|(with_reducible first|exact HB.out|apply below_alloc|apply pw_below_drewN|apply below_drew1|refine below_set ?_ GE167.out)|exact HB.out)⟩
    rw [if_neg c24] at H
    have c24b0 : decide ((rd l0_1 x35_2) ≤ (rd l0_1 (ji20))) = false:=decide_eq_false c24
    clear c24
    have H':=Aside0.mk H
    clear H
    have p170 : 0 ≤ (x35_2 : Int):=of_decide_eq_true (by first|(with_reducible assumption)|assumption)
    have q170 : x35_2 < (l0_2.length : Int):=of_decide_eq_true (by first|(with_reducible assumption)|assumption)
    obtain ⟨ad170,e170,hx170_0⟩:=Kd.at_int HR0_2.out x35_2 p170 q170
    cases e170
    replace hx170_0:=(HB.out.cell (World.block_lt_of_cell? w _ hx170_0)).trans hx170_0
    replace p170:=eq_true p170
    replace q170:=eq_true q170
    have hcz26_0 : wr.cell? ⟨gb167,0,none⟩ = some (.int .i64 a0_0):=(blk_cell BK167.out 0).trans rfl
    have hcz26_1 : wr.cell? ⟨gb167,1,none⟩ = some (.slice A0_1 l0_1.length c0_1):=(blk_cell BK167.out 1).trans rfl
    have hcz26_2 : wr.cell? ⟨gb167,2,none⟩ = some (.slice (some ad170) l0_2.length c0_2):=(blk_cell BK167.out 2).trans rfl
    have hfz26_0:=blk_frozen BK167.out 0
    have hfz26_1:=blk_frozen BK167.out 1
    have hfz26_2:=blk_frozen BK167.out 2
    have p171 : 0 ≤ ((ji20) : Int):=of_decide_eq_true (by first|(with_reducible assumption)|assumption)
    have q171 : (ji20) < (l0_1.length : Int):=of_decide_eq_true (by first|(with_reducible assumption)|assumption)
    obtain ⟨ad171,e171,hx171_0⟩:=Kd.at_int HR0_1.out (ji20) p171 q171
    cases e171
    replace hx171_0:=(HB.out.cell (World.block_lt_of_cell? w _ hx171_0)).trans hx171_0
    replace p171:=eq_true p171
    replace q171:=eq_true q171
    have p172 : 0 ≤ (x35_2 : Int):=of_decide_eq_true (by first|(with_reducible assumption)|assumption)
    have q172 : x35_2 < (l0_1.length : Int):=of_decide_eq_true (by first|(with_reducible assumption)|assumption)
    obtain ⟨ad172,e172,hx172_0⟩:=Kd.at_int HR0_1.out x35_2 p172 q172
    obtain rfl : ad171 = ad172:=(by injection e172)
    replace hx172_0:=(HB.out.cell (World.block_lt_of_cell? w _ hx172_0)).trans hx172_0
    replace p172:=eq_true p172
    replace q172:=eq_true q172
    go_wp2
    repeat (go_quiet (fail);try go_wp2)
    go_roundg k2
    case measure=>have:=HJ1.out;have:=HK2.out;omega
    case rel=>exact ⟨(wrap64 (x35_2 + 1)),(by first|rfl|(simp;done)|(simp [*];done)),H',⟨by have:=HJ1.out;have:=HK2.out;omega⟩,⟨by (with_reducible repeat (first|apply blk_drewN|apply blk_drew|apply blk_alloc));exact BK167.out⟩,⟨by repeat (first|(with_reducible first|exact HB.out|apply below_alloc|apply pw_below_drewN|apply below_drew1|refine below_set ?_ GE167.out)|exact HB.out)⟩⟩
   rw [if_neg c18] at H
   have c18b0 : ((rd l0_2 x35_2) == 1) = false:=beq_eq_false_iff_ne.mpr c18
   have c18b1 : ((rd l0_2 x35_2) != 1) = true:=bne_iff_ne.mpr c18
   by_cases c27 : (rd l0_2 x35_2) = (-1)
   rotate_left
   ·rw [if_neg c27] at H
    have c27b0 : ((rd l0_2 x35_2) == (-1)) = false:=beq_eq_false_iff_ne.mpr c27
    have c27b1 : ((rd l0_2 x35_2) != (-1)) = true:=bne_iff_ne.mpr c27
    obtain rfl:=Option.some.inj H
    have p170 : 0 ≤ (x35_2 : Int):=of_decide_eq_true (by first|(with_reducible assumption)|assumption)
    have q170 : x35_2 < (l0_2.length : Int):=of_decide_eq_true (by first|(with_reducible assumption)|assumption)
    obtain ⟨ad170,e170,hx170_0⟩:=Kd.at_int HR0_2.out x35_2 p170 q170
    cases e170
    replace hx170_0:=(HB.out.cell (World.block_lt_of_cell? w _ hx170_0)).trans hx170_0
    replace p170:=eq_true p170
    replace q170:=eq_true q170
    go_wp2
    repeat (go_quiet (fail);try go_wp2)
    go_ret
    exact ⟨by first|rfl|(simp [errW_none,errW_some] <;> rfl)|(simp [*,errW_none,errW_some] <;> rfl),by repeat (first|(with_reducible first|exact HB.out|apply below_alloc|apply pw_below_drewN|apply below_drew1|refine below_set ?_ GE167.out)|exact HB.out)⟩
   rw [if_pos c27] at H
   have c27b0 : ((rd l0_2 x35_2) == (-1)) = true:=beq_iff_eq.mpr c27
   have c27b1 : ((rd l0_2 x35_2) != (-1)) = false:=bne_eq_false_iff_eq.mpr c27
   clear c27
   by_cases c28 : x35_2 > 0
   rotate_left
   ·rw [if_neg c28] at H
    have c28b0 : decide (0 < x35_2) = false:=decide_eq_false c28
    clear c28
    have H':=Aside0.mk H
    clear H
    have p170 : 0 ≤ (x35_2 : Int):=of_decide_eq_true (by first|(with_reducible assumption)|assumption)
    have q170 : x35_2 < (l0_2.length : Int):=of_decide_eq_true (by first|(with_reducible assumption)|assumption)
    obtain ⟨ad170,e170,hx170_0⟩:=Kd.at_int HR0_2.out x35_2 p170 q170
    cases e170
    replace hx170_0:=(HB.out.cell (World.block_lt_of_cell? w _ hx170_0)).trans hx170_0
    replace p170:=eq_true p170
    replace q170:=eq_true q170
    go_wp2
    repeat (go_quiet (fail);try go_wp2)
    go_roundg k2
    case measure=>have:=HJ1.out;have:=HK2.out;omega
    case rel=>exact ⟨(wrap64 (x35_2 + 1)),(by first|rfl|(simp;done)|(simp [*];done)),H',⟨by have:=HJ1.out;have:=HK2.out;omega⟩,⟨by (with_reducible repeat (first|apply blk_drewN|apply blk_drew|apply blk_alloc));exact BK167.out⟩,⟨by repeat (first|(with_reducible first|exact HB.out|apply below_alloc|apply pw_below_drewN|apply below_drew1|refine below_set ?_ GE167.out)|exact HB.out)⟩⟩
   rw [if_pos c28] at H
   have c28b0 : decide (0 < x35_2) = true:=decide_eq_true c28
   clear c28
   obtain ⟨ji29,hji29⟩ : ∃ j_ : Int,(wrap64 (x35_2 - 1)) = j_:=⟨_,rfl⟩
   replace H : (if 0 ≤ (ji29) then (if (ji29) < (l0_1.length : Int) then (if x35_2 < (l0_1.length : Int) then (if (rd l0_1 (ji29)) ≥ (rd l0_1 x35_2) then (some false) else (impl_IsWire.l0 k2 l0_2 (l0_2.length : Int) (wrap64 (x35_2 + 1)) a0_0 l0_1 l0_2)) else (none)) else (none)) else (none)) = some r:=by first|(rw [hji29] at H;exact H)|(simp only [hji29] at H ⊢;exact H)
   have hji29w : (IntKind.i64.wrap (x35_2 - 1)) = ji29:=(i64_w _).trans hji29
   by_cases c30 : 0 ≤ (ji29)
   rotate_left
   ·rw [if_neg c30] at H
    exact absurd H (by simp)
   rw [if_pos c30] at H
   have c30b0 : decide (0 ≤ (ji29)) = true:=decide_eq_true c30
   clear c30
   by_cases c31 : (ji29) < (l0_1.length : Int)
   rotate_left
   ·rw [if_neg c31] at H
    exact absurd H (by simp)
   rw [if_pos c31] at H
   have c31b0 : decide ((ji29) < (l0_1.length : Int)) = true:=decide_eq_true c31
   clear c31
   by_cases c32 : x35_2 < (l0_1.length : Int)
   rotate_left
   ·rw [if_neg c32] at H
    exact absurd H (by simp)
   rw [if_pos c32] at H
   have c32b0 : decide (x35_2 < (l0_1.length : Int)) = true:=decide_eq_true c32
   clear c32
   by_cases c33 : (rd l0_1 (ji29)) ≥ (rd l0_1 x35_2)
   ·rw [if_pos c33] at H
    have c33b0 : decide ((rd l0_1 x35_2) ≤ (rd l0_1 (ji29))) = true:=decide_eq_true c33
    clear c33
    obtain rfl:=Option.some.inj H
    have p170 : 0 ≤ (x35_2 : Int):=of_decide_eq_true (by first|(with_reducible assumption)|assumption)
    have q170 : x35_2 < (l0_2.length : Int):=of_decide_eq_true (by first|(with_reducible assumption)|assumption)
    obtain ⟨ad170,e170,hx170_0⟩:=Kd.at_int HR0_2.out x35_2 p170 q170
    cases e170
    replace hx170_0:=(HB.out.cell (World.block_lt_of_cell? w _ hx170_0)).trans hx170_0
    replace p170:=eq_true p170
    replace q170:=eq_true q170
    have hcz34_0 : wr.cell? ⟨gb167,0,none⟩ = some (.int .i64 a0_0):=(blk_cell BK167.out 0).trans rfl
    have hcz34_1 : wr.cell? ⟨gb167,1,none⟩ = some (.slice A0_1 l0_1.length c0_1):=(blk_cell BK167.out 1).trans rfl
    have hcz34_2 : wr.cell? ⟨gb167,2,none⟩ = some (.slice (some ad170) l0_2.length c0_2):=(blk_cell BK167.out 2).trans rfl
    have hfz34_0:=blk_frozen BK167.out 0
    have hfz34_1:=blk_frozen BK167.out 1
    have hfz34_2:=blk_frozen BK167.out 2
    have p173 : 0 ≤ ((ji29) : Int):=of_decide_eq_true (by first|(with_reducible assumption)|assumption)
    have q173 : (ji29) < (l0_1.length : Int):=of_decide_eq_true (by first|(with_reducible assumption)|assumption)
    obtain ⟨ad173,e173,hx173_0⟩:=Kd.at_int HR0_1.out (ji29) p173 q173
    cases e173
    replace hx173_0:=(HB.out.cell (World.block_lt_of_cell? w _ hx173_0)).trans hx173_0
    replace p173:=eq_true p173
    replace q173:=eq_true q173
    have p174 : 0 ≤ (x35_2 : Int):=of_decide_eq_true (by first|(with_reducible assumption)|assumption)
    have q174 : x35_2 < (l0_1.length : Int):=of_decide_eq_true (by first|(with_reducible assumption)|assumption)
    obtain ⟨ad174,e174,hx174_0⟩:=Kd.at_int HR0_1.out x35_2 p174 q174
    obtain rfl : ad173 = ad174:=(by injection e174)
    replace hx174_0:=(HB.out.cell (World.block_lt_of_cell? w _ hx174_0)).trans hx174_0
    replace p174:=eq_true p174
    replace q174:=eq_true q174
    go_wp2
    repeat (go_quiet (fail);try go_wp2)
    go_ret
    exact ⟨by first|rfl|(simp [errW_none,errW_some] <;> rfl)|(simp only [← hji29];first|rfl|(simp [errW_none,errW_some] <;> rfl))|(simp [*,errW_none,errW_some] <;> rfl),by repeat (first|(with_reducible first|exact HB.out|apply below_alloc|apply pw_below_drewN|apply below_drew1|refine below_set ?_ GE167.out)|exact HB.out)⟩
   rw [if_neg c33] at H
   have c33b0 : decide ((rd l0_1 x35_2) ≤ (rd l0_1 (ji29))) = false:=decide_eq_false c33
   clear c33
   have H':=Aside0.mk H
   clear H
   have p170 : 0 ≤ (x35_2 : Int):=of_decide_eq_true (by first|(with_reducible assumption)|assumption)
   have q170 : x35_2 < (l0_2.length : Int):=of_decide_eq_true (by first|(with_reducible assumption)|assumption)
   obtain ⟨ad170,e170,hx170_0⟩:=Kd.at_int HR0_2.out x35_2 p170 q170
   cases e170
   replace hx170_0:=(HB.out.cell (World.block_lt_of_cell? w _ hx170_0)).trans hx170_0
   replace p170:=eq_true p170
   replace q170:=eq_true q170
   have hcz35_0 : wr.cell? ⟨gb167,0,none⟩ = some (.int .i64 a0_0):=(blk_cell BK167.out 0).trans rfl
   have hcz35_1 : wr.cell? ⟨gb167,1,none⟩ = some (.slice A0_1 l0_1.length c0_1):=(blk_cell BK167.out 1).trans rfl
   have hcz35_2 : wr.cell? ⟨gb167,2,none⟩ = some (.slice (some ad170) l0_2.length c0_2):=(blk_cell BK167.out 2).trans rfl
   have hfz35_0:=blk_frozen BK167.out 0
   have hfz35_1:=blk_frozen BK167.out 1
   have hfz35_2:=blk_frozen BK167.out 2
   have p173 : 0 ≤ ((ji29) : Int):=of_decide_eq_true (by first|(with_reducible assumption)|assumption)
   have q173 : (ji29) < (l0_1.length : Int):=of_decide_eq_true (by first|(with_reducible assumption)|assumption)
   obtain ⟨ad173,e173,hx173_0⟩:=Kd.at_int HR0_1.out (ji29) p173 q173
   cases e173
   replace hx173_0:=(HB.out.cell (World.block_lt_of_cell? w _ hx173_0)).trans hx173_0
   replace p173:=eq_true p173
   replace q173:=eq_true q173
   have p174 : 0 ≤ (x35_2 : Int):=of_decide_eq_true (by first|(with_reducible assumption)|assumption)
   have q174 : x35_2 < (l0_1.length : Int):=of_decide_eq_true (by first|(with_reducible assumption)|assumption)
   obtain ⟨ad174,e174,hx174_0⟩:=Kd.at_int HR0_1.out x35_2 p174 q174
   obtain rfl : ad173 = ad174:=(by injection e174)
   replace hx174_0:=(HB.out.cell (World.block_lt_of_cell? w _ hx174_0)).trans hx174_0
   replace p174:=eq_true p174
   replace q174:=eq_true q174
   go_wp2
   repeat (go_quiet (fail);try go_wp2)
   go_roundg k2
   case measure=>have:=HJ1.out;have:=HK2.out;omega
   case rel=>exact ⟨(wrap64 (x35_2 + 1)),(by first|rfl|(simp;done)|(simp [*];done)),H',⟨by have:=HJ1.out;have:=HK2.out;omega⟩,⟨by (with_reducible repeat (first|apply blk_drewN|apply blk_drew|apply blk_alloc));exact BK167.out⟩,⟨by repeat (first|(with_reducible first|exact HB.out|apply below_alloc|apply pw_below_drewN|apply below_drew1|refine below_set ?_ GE167.out)|exact HB.out)⟩⟩

/-! ### impl_Wire_shades: function 47 -/
def impl_Wire_shades.l0 : Nat → List Int → List Int → Int → Int → Int → List Int → List Int → Option (List Int)
 | 0,_,_,_,_,_,_,_=>none
 | k + 1,x3,x8,x9,x10,x176000,x176001,x176002=>if x10 < x9 then (if 0 ≤ x10 then (if x10 < (x8.length : Int) then (if x10 < (x176002.length : Int) then (if (rd x176002 x10) < 0 then (if x3.length < 17592186044416 then (impl_Wire_shades.l0 k (x3 ++ [rd x8 x10]) x8 x9 (wrap64 (x10 + 1)) x176000 x176001 x176002) else (none)) else (if x3.length < 17592186044416 then (impl_Wire_shades.l0 k (x3 ++ [wrap64 (x176000 - (rd x8 x10))]) x8 x9 (wrap64 (x10 + 1)) x176000 x176001 x176002) else (none))) else (none)) else (none)) else (none)) else (some x3)
def impl_Wire_shades.f (k : Nat) (a0_0 : Int) (l0_1 : List Int) (l0_2 : List Int) : Option (List Int):=impl_Wire_shades.l0 k (([] : List Int)) l0_1 (l0_1.length : Int) 0 a0_0 l0_1 l0_2
theorem impl_Wire_shades.mono_l : ∀ k,(∀ y0 y1 y2 y3 y4 y5 y6,LeO (impl_Wire_shades.l0 k y0 y1 y2 y3 y4 y5 y6) (impl_Wire_shades.l0 (k + 1) y0 y1 y2 y3 y4 y5 y6))
 | 0=>fun _ _ _ _ _ _ _ r h=>by simp [impl_Wire_shades.l0] at h
 | k + 1=>by
  have ih0:=impl_Wire_shades.mono_l k
  ·intro y0 y1 y2 y3 y4 y5 y6
   unfold impl_Wire_shades.l0
   repeat' first
   | (with_reducible exact ih0 _ _ _ _ _ _ _)
   | (with_reducible exact LeO.refl _)
   | (with_reducible exact LeO.none _)
   | (with_reducible refine LeO.ite ?_ ?_)
   | (with_reducible refine LeO.bind ?_ (fun _=>?_))
   | exact ih0 _ _ _ _ _ _ _
   | exact LeO.none _
   | refine LeO.ite ?_ ?_
   | refine LeO.bind ?_ (fun _=>?_)
theorem impl_Wire_shades.mono : ∀ a0 a1 a2 k,LeO (impl_Wire_shades.f k a0 a1 a2) (impl_Wire_shades.f (k + 1) a0 a1 a2):=by
 intro a0 a1 a2 k
 have ih0:=impl_Wire_shades.mono_l k
 unfold impl_Wire_shades.f
 repeat' first
   | (with_reducible exact ih0 _ _ _ _ _ _ _)
   | (with_reducible exact LeO.refl _)
   | (with_reducible exact LeO.none _)
   | (with_reducible refine LeO.ite ?_ ?_)
   | (with_reducible refine LeO.bind ?_ (fun _=>?_))
   | exact ih0 _ _ _ _ _ _ _
   | exact LeO.none _
   | refine LeO.ite ?_ ?_
   | refine LeO.bind ?_ (fun _=>?_)
set_option maxHeartbeats 8000000 in
set_option maxRecDepth 100000 in
theorem impl_Wire_shades.calls (k : Nat) (a0_0 : Int) (A0_1 : Option Addr) (c0_1 : Nat) (l0_1 : List Int) (A0_2 : Option Addr) (c0_2 : Nat) (l0_2 : List Int) (r : List Int) (w : World) (hr0_1 : Kd.C (Kd.int .i64) w A0_1 l0_1.length l0_1) (hc0_1 : l0_1.length ≤ c0_1) (hr0_2 : Kd.C (Kd.int .i64) w A0_2 l0_2.length l0_2) (hc0_2 : l0_2.length ≤ c0_2) (h : impl_Wire_shades.f k a0_0 l0_1 l0_2 = some r) :
  Calls Try.prog 47 #[.agg #[.int .i64 a0_0,.slice A0_1 l0_1.length c0_1,.slice A0_2 l0_2.length c0_2]] w fun e w'=>∃ v0_ : Value,e = .returned (v0_) ∧ Kd.R (Kd.int .i64) 3 w' w.heap.size (fun _=>True) v0_ r ∧ Below w.heap.size w w':=by
 have hu27:=Try.underlying27
 have HR0_1:=Aside0.mk hr0_1
 have HC0_1:=Aside0.mk hc0_1
 clear hr0_1 hc0_1
 have HR0_2:=Aside0.mk hr0_2
 have HC0_2:=Aside0.mk hc0_2
 clear hr0_2 hc0_2
 have HB:=Aside0.mk (Below.refl w.heap.size w)
 have H : (impl_Wire_shades.l0 k (([] : List Int)) l0_1 (l0_1.length : Int) 0 a0_0 l0_1 l0_2) = some r:=h
 clear h
 obtain ⟨y176,hy176⟩ : ∃ y_ : List Int,y_ = (([] : List Int)):=⟨_,rfl⟩
 replace H : (impl_Wire_shades.l0 k y176 l0_1 (l0_1.length : Int) 0 a0_0 l0_1 l0_2) = some r:=by first|(rw [hy176];with_reducible exact H)|(have H2_:=(Option.bind_some _ _).symm.trans H;rw [hy176];with_reducible exact H2_)|(have H2_:=(Option.bind_some _ _).symm.trans H;with_reducible exact H2_)|with_reducible exact H|(rw [hy176];exact H)|exact H
 have Ny176:=Aside0.mk hy176
 clear hy176
 have H':=Aside0.mk H
 clear H
 go_enter Try.func47,Try.ntmps47
 go_wp2_with (first|((with_reducible refine gate_dst (N:=1) rfl ?_);refine box_event ?hg (N:=1) ?hd (cs:=#[.int .i64 a0_0,.slice A0_1 l0_1.length c0_1,.slice A0_2 l0_2.length c0_2]) (t:=27) ?hr ?_;(case hd=>rfl);(case hg=>rfl);(case hr=>first|(go_simp;done)|(go_simp;rfl));intro gb175 hg w2 hbox hb;have n0_:=Aside0.mk (below_step (by repeat (first|(with_reducible first|exact HB.out|apply below_alloc|apply pw_below_drewN|apply below_drew1)|exact HB.out)) hb);have n1_:=Aside0.mk (hbox);have n2_:=Aside0.mk ((by rw [hg];exact (below_size (by repeat (first|(with_reducible first|exact HB.out|apply below_alloc|apply pw_below_drewN|apply below_drew1)|exact HB.out))) : w.heap.size ≤ gb175));have n3_:=Aside0.mk ((by rw [hg];exact (below_size (by repeat (first|(with_reducible first|exact HB.out|apply below_alloc|apply pw_below_drewN|apply below_drew1)|exact HB.out))) : w.heap.size ≤ gb175));clear HB;have HB:=n0_;have BK175:=n1_;have GW175:=n2_;have GE175:=n3_;clear n0_ n1_ n2_ n3_;clear hb hbox hg)|((with_reducible refine gate_dst (N:=6) rfl ?_);refine R_lit (Kd.int .i64) _ 3 ?hg (N:=6) ?hd (xs:=([] : List Int)) (inner:=[]) (ok:=fun _=>True) (okp:=fun _=>True) ?hr ?hp (fun _ hk=>hk) trivial (Below.refl _ _) (Nat.le_refl _) (by simp) ?_;(case hd=>rfl);(case hg=>rfl);(case hr=>first|(go_simp;done)|(go_simp;rfl));(case hp=>exact (Reps.none _ _));intro v177 w3 ho4 hb hg_ hnew_;clear hg_ hnew_;(first|rw [← Ny176.out] at ho4|(simp only [Int.reduceToNat] at ho4;rw [← Ny176.out] at ho4));have n0_:=Aside0.mk (R_lower ho4 (below_size (by repeat (first|(with_reducible first|exact HB.out|apply below_alloc|apply pw_below_drewN|apply below_drew1|refine below_set ?_ GE175.out)|exact HB.out))));have n1_:=Aside0.mk (blk_below (g:=gb175) (o:=.cells #[.int .i64 a0_0,.slice A0_1 l0_1.length c0_1,.slice A0_2 l0_2.length c0_2] 27 (0,0)) (by (with_reducible repeat (first|apply blk_drewN|apply blk_drew|apply blk_alloc));exact BK175.out) hb);have n2_:=Aside0.mk (below_step (by repeat (first|(with_reducible first|exact HB.out|apply below_alloc|apply pw_below_drewN|apply below_drew1|refine below_set ?_ GE175.out)|exact HB.out)) hb);clear BK175;clear HB;have HO178:=n0_;have BK175:=n1_;have HB:=n2_;clear n0_ n1_ n2_;clear hb ho4;have hcz5_0 : w3.cell? ⟨gb175,0,none⟩ = some (.int .i64 a0_0):=(blk_cell BK175.out 0).trans rfl;have hcz5_1 : w3.cell? ⟨gb175,1,none⟩ = some (.slice A0_1 l0_1.length c0_1):=(blk_cell BK175.out 1).trans rfl;have hcz5_2 : w3.cell? ⟨gb175,2,none⟩ = some (.slice A0_2 l0_2.length c0_2):=(blk_cell BK175.out 2).trans rfl;have hfz5_0:=blk_frozen BK175.out 0;have hfz5_1:=blk_frozen BK175.out 1;have hfz5_2:=blk_frozen BK175.out 2))
 go_loopg [3,10] k (fun kq v3 v10 w'=>∃ (x3_1 : List Int) (x10_1 : Int),v10 = .int .i64 x10_1 ∧ Aside0 (impl_Wire_shades.l0 kq x3_1 l0_1 (l0_1.length : Int) x10_1 a0_0 l0_1 l0_2 = some r) ∧ Aside0 (kq ≤ k) ∧ Aside0 (Kd.R (Kd.int .i64) 3 w' w.heap.size (fun _=>True) v3 x3_1) ∧ Aside0 (w'.heap[gb175]? = some (.cells #[.int .i64 a0_0,(.slice A0_1 l0_1.length c0_1),(.slice A0_2 l0_2.length c0_2)] 27 (0,0))) ∧ Aside0 (Below w.heap.size w w'))
 case atStart=>exact ⟨(y176),(0),(by first|rfl|(simp;done)|(simp [*];done)),H',⟨Nat.le_refl _⟩,⟨by (with_reducible repeat (first|apply R_alloc|apply R_drewN|apply R_drew));exact HO178.out⟩,⟨by (with_reducible repeat (first|apply blk_drewN|apply blk_drew|apply blk_alloc));exact BK175.out⟩,⟨by repeat (first|(with_reducible first|exact HB.out|apply below_alloc|apply pw_below_drewN|apply below_drew1|refine below_set ?_ GE175.out)|exact HB.out)⟩⟩
 clear H'
 try clear p2
 try clear c4
 try clear hcz5_0
 try clear hcz5_1
 try clear hcz5_2
 try clear hfz5_0
 try clear hfz5_1
 try clear hfz5_2
 obtain ⟨x3_1,x10_1,rfl,HA,HK1,HO_3,BK175,HB⟩:=hrel
 cases gk with
 | zero=>exact absurd HA.out (by simp [impl_Wire_shades.l0])
 | succ k1 =>
  have H:=HA.out
  clear HA
  simp only [impl_Wire_shades.l0] at H
  by_cases c6 : x10_1 < (l0_1.length : Int)
  rotate_left
  ·rw [if_neg c6] at H
   have c6b0 : decide (x10_1 < (l0_1.length : Int)) = false:=decide_eq_false c6
   clear c6
   obtain rfl:=Option.some.inj H
   go_wp2
   go_ret
   exact ⟨_,by first|rfl|(simp [errW_none,errW_some] <;> rfl)|(simp [*,errW_none,errW_some] <;> rfl),by (with_reducible repeat (first|apply R_alloc|apply R_drewN|apply R_drew));exact HO_3.out,by repeat (first|(with_reducible first|exact HB.out|apply below_alloc|apply pw_below_drewN|apply below_drew1|refine below_set ?_ GE175.out)|exact HB.out)⟩
  rw [if_pos c6] at H
  have c6b0 : decide (x10_1 < (l0_1.length : Int)) = true:=decide_eq_true c6
  clear c6
  by_cases c7 : 0 ≤ x10_1
  rotate_left
  ·rw [if_neg c7] at H
   exact absurd H (by simp)
  rw [if_pos c7] at H
  have c7b0 : decide (0 ≤ x10_1) = true:=decide_eq_true c7
  clear c7
  by_cases c8 : x10_1 < (l0_1.length : Int)
  rotate_left
  ·rw [if_neg c8] at H
   exact absurd H (by simp)
  rw [if_pos c8] at H
  have c8b0 : decide (x10_1 < (l0_1.length : Int)) = true:=decide_eq_true c8
  clear c8
  by_cases c9 : x10_1 < (l0_2.length : Int)
  rotate_left
  ·rw [if_neg c9] at H
   exact absurd H (by simp)
  rw [if_pos c9] at H
  have c9b0 : decide (x10_1 < (l0_2.length : Int)) = true:=decide_eq_true c9
  clear c9
  by_cases c10 : (rd l0_2 x10_1) < 0
  ·rw [if_pos c10] at H
   have c10b0 : decide ((rd l0_2 x10_1) < 0) = true:=decide_eq_true c10
   clear c10
   by_cases c11 : x3_1.length < 17592186044416
   rotate_left
   ·rw [if_neg c11] at H
    exact absurd H (by simp)
   rw [if_pos c11] at H
   have LMc11:=Aside0.mk c11
   clear c11
   obtain ⟨y181,hy181⟩ : ∃ y_ : List Int,y_ = (x3_1 ++ [rd l0_1 x10_1]):=⟨_,rfl⟩
   replace H : (impl_Wire_shades.l0 k1 y181 l0_1 (l0_1.length : Int) (wrap64 (x10_1 + 1)) a0_0 l0_1 l0_2) = some r:=by first|(rw [hy181];with_reducible exact H)|(have H2_:=(Option.bind_some _ _).symm.trans H;rw [hy181];with_reducible exact H2_)|(have H2_:=(Option.bind_some _ _).symm.trans H;with_reducible exact H2_)|with_reducible exact H|(rw [hy181];exact H)|exact H
   have Ny181:=Aside0.mk hy181
   clear hy181
   have H':=Aside0.mk H
   clear H
   have p179 : 0 ≤ (x10_1 : Int):=of_decide_eq_true (by first|(with_reducible assumption)|assumption)
   have q179 : x10_1 < (l0_1.length : Int):=of_decide_eq_true (by first|(with_reducible assumption)|assumption)
   obtain ⟨ad179,e179,hx179_0⟩:=Kd.at_int HR0_1.out x10_1 p179 q179
   cases e179
   replace hx179_0:=(HB.out.cell (World.block_lt_of_cell? w _ hx179_0)).trans hx179_0
   replace p179:=eq_true p179
   replace q179:=eq_true q179
   have hcz12_0 : wr.cell? ⟨gb175,0,none⟩ = some (.int .i64 a0_0):=(blk_cell BK175.out 0).trans rfl
   have hcz12_1 : wr.cell? ⟨gb175,1,none⟩ = some (.slice (some ad179) l0_1.length c0_1):=(blk_cell BK175.out 1).trans rfl
   have hcz12_2 : wr.cell? ⟨gb175,2,none⟩ = some (.slice A0_2 l0_2.length c0_2):=(blk_cell BK175.out 2).trans rfl
   have hfz12_0:=blk_frozen BK175.out 0
   have hfz12_1:=blk_frozen BK175.out 1
   have hfz12_2:=blk_frozen BK175.out 2
   have p180 : 0 ≤ (x10_1 : Int):=of_decide_eq_true (by first|(with_reducible assumption)|assumption)
   have q180 : x10_1 < (l0_2.length : Int):=of_decide_eq_true (by first|(with_reducible assumption)|assumption)
   obtain ⟨ad180,e180,hx180_0⟩:=Kd.at_int HR0_2.out x10_1 p180 q180
   cases e180
   replace hx180_0:=(HB.out.cell (World.block_lt_of_cell? w _ hx180_0)).trans hx180_0
   replace p180:=eq_true p180
   replace q180:=eq_true q180
   go_wp2_with (first|((with_reducible refine gate_builtin (b:=.append) (xs:=#[.tmp 21,.tmp 23]) rfl ?_);at_builtin;refine R_append (Kd.int .i64) (w0:=w) w.heap.size rfl (.tmp 21) (.tmp 23) 22 3 (.int .i64 0) 8 rfl Try.underlying22 info3 rfl (by decide) (by omega) u3 x3_1 (rd l0_1 x10_1) [.int .i64 (rd l0_1 x10_1)] (fun _=>True) (fun _=>False) rfl rfl ?aP (fun _ hk=>hk.elim) ?aF ?aO ?aB ?aS ?aL ?_;(case aP=>exact rfl);(case aB=>exact (by repeat (first|(with_reducible first|exact HB.out|apply below_alloc|apply pw_below_drewN|apply below_drew1|refine below_set ?_ GE175.out)|exact HB.out)));(case aF=>exact (fun _ _=>trivial));(case aO=>exact (by (with_reducible repeat (first|apply R_alloc|apply R_drewN|apply R_drew));exact HO_3.out));(case aS=>exact (below_size (by repeat (first|(with_reducible first|exact HB.out|apply below_alloc|apply pw_below_drewN|apply below_drew1|refine below_set ?_ GE175.out)|exact HB.out))));(case aL=>have:=LMc11.out;omega);intro v182 w13 ho hb hg hat;rw [← Ny181.out] at ho;have n0_:=Aside0.mk (blk_grown (g:=gb175) (o:=.cells #[.int .i64 a0_0,.slice (some ad179) l0_1.length c0_1,.slice (some ad180) l0_2.length c0_2] 27 (0,0)) (by (with_reducible repeat (first|apply blk_drewN|apply blk_drew|apply blk_alloc));exact BK175.out) hg (R_ne HO_3.out BK175.out (by decide)));have n1_:=Aside0.mk (hb);have n2_:=Aside0.mk (ho);clear BK175;clear HB;clear HO_3;have BK175:=n0_;have HB:=n1_;have HO183:=n2_;clear n0_ n1_ n2_;clear ho hb hg hat))
   go_roundg k1
   case measure=>have:=HK1.out;omega
   case rel=>exact ⟨(y181),(wrap64 (x10_1 + 1)),(by first|rfl|(simp;done)|(simp [*];done)),H',⟨by have:=HK1.out;omega⟩,⟨by (with_reducible repeat (first|apply R_alloc|apply R_drewN|apply R_drew));exact HO183.out⟩,⟨by (with_reducible repeat (first|apply blk_drewN|apply blk_drew|apply blk_alloc));exact BK175.out⟩,⟨by repeat (first|(with_reducible first|exact HB.out|apply below_alloc|apply pw_below_drewN|apply below_drew1|refine below_set ?_ GE175.out)|exact HB.out)⟩⟩
  rw [if_neg c10] at H
  have c10b0 : decide ((rd l0_2 x10_1) < 0) = false:=decide_eq_false c10
  clear c10
  by_cases c14 : x3_1.length < 17592186044416
  rotate_left
  ·rw [if_neg c14] at H
   exact absurd H (by simp)
  rw [if_pos c14] at H
  have LMc14:=Aside0.mk c14
  clear c14
  obtain ⟨y184,hy184⟩ : ∃ y_ : List Int,y_ = (x3_1 ++ [wrap64 (a0_0 - (rd l0_1 x10_1))]):=⟨_,rfl⟩
  replace H : (impl_Wire_shades.l0 k1 y184 l0_1 (l0_1.length : Int) (wrap64 (x10_1 + 1)) a0_0 l0_1 l0_2) = some r:=by first|(rw [hy184];with_reducible exact H)|(have H2_:=(Option.bind_some _ _).symm.trans H;rw [hy184];with_reducible exact H2_)|(have H2_:=(Option.bind_some _ _).symm.trans H;with_reducible exact H2_)|with_reducible exact H|(rw [hy184];exact H)|exact H
  have Ny184:=Aside0.mk hy184
  clear hy184
  have H':=Aside0.mk H
  clear H
  have p179 : 0 ≤ (x10_1 : Int):=of_decide_eq_true (by first|(with_reducible assumption)|assumption)
  have q179 : x10_1 < (l0_1.length : Int):=of_decide_eq_true (by first|(with_reducible assumption)|assumption)
  obtain ⟨ad179,e179,hx179_0⟩:=Kd.at_int HR0_1.out x10_1 p179 q179
  cases e179
  replace hx179_0:=(HB.out.cell (World.block_lt_of_cell? w _ hx179_0)).trans hx179_0
  replace p179:=eq_true p179
  replace q179:=eq_true q179
  have hcz15_0 : wr.cell? ⟨gb175,0,none⟩ = some (.int .i64 a0_0):=(blk_cell BK175.out 0).trans rfl
  have hcz15_1 : wr.cell? ⟨gb175,1,none⟩ = some (.slice (some ad179) l0_1.length c0_1):=(blk_cell BK175.out 1).trans rfl
  have hcz15_2 : wr.cell? ⟨gb175,2,none⟩ = some (.slice A0_2 l0_2.length c0_2):=(blk_cell BK175.out 2).trans rfl
  have hfz15_0:=blk_frozen BK175.out 0
  have hfz15_1:=blk_frozen BK175.out 1
  have hfz15_2:=blk_frozen BK175.out 2
  have p180 : 0 ≤ (x10_1 : Int):=of_decide_eq_true (by first|(with_reducible assumption)|assumption)
  have q180 : x10_1 < (l0_2.length : Int):=of_decide_eq_true (by first|(with_reducible assumption)|assumption)
  obtain ⟨ad180,e180,hx180_0⟩:=Kd.at_int HR0_2.out x10_1 p180 q180
  cases e180
  replace hx180_0:=(HB.out.cell (World.block_lt_of_cell? w _ hx180_0)).trans hx180_0
  replace p180:=eq_true p180
  replace q180:=eq_true q180
  go_wp2_with (first|((with_reducible refine gate_builtin (b:=.append) (xs:=#[.tmp 25,.tmp 30]) rfl ?_);at_builtin;refine R_append (Kd.int .i64) (w0:=w) w.heap.size rfl (.tmp 25) (.tmp 30) 22 3 (.int .i64 0) 8 rfl Try.underlying22 info3 rfl (by decide) (by omega) u3 x3_1 (wrap64 (a0_0 - (rd l0_1 x10_1))) [.int .i64 (wrap64 (a0_0 - (rd l0_1 x10_1)))] (fun _=>True) (fun _=>False) rfl rfl ?aP (fun _ hk=>hk.elim) ?aF ?aO ?aB ?aS ?aL ?_;(case aP=>exact rfl);(case aB=>exact (by repeat (first|(with_reducible first|exact HB.out|apply below_alloc|apply pw_below_drewN|apply below_drew1|refine below_set ?_ GE175.out)|exact HB.out)));(case aF=>exact (fun _ _=>trivial));(case aO=>exact (by (with_reducible repeat (first|apply R_alloc|apply R_drewN|apply R_drew));exact HO_3.out));(case aS=>exact (below_size (by repeat (first|(with_reducible first|exact HB.out|apply below_alloc|apply pw_below_drewN|apply below_drew1|refine below_set ?_ GE175.out)|exact HB.out))));(case aL=>have:=LMc14.out;omega);intro v185 w16 ho hb hg hat;rw [← Ny184.out] at ho;have n0_:=Aside0.mk (blk_grown (g:=gb175) (o:=.cells #[.int .i64 a0_0,.slice (some ad179) l0_1.length c0_1,.slice (some ad180) l0_2.length c0_2] 27 (0,0)) (by (with_reducible repeat (first|apply blk_drewN|apply blk_drew|apply blk_alloc));exact BK175.out) hg (R_ne HO_3.out BK175.out (by decide)));have n1_:=Aside0.mk (hb);have n2_:=Aside0.mk (ho);clear BK175;clear HB;clear HO_3;have BK175:=n0_;have HB:=n1_;have HO186:=n2_;clear n0_ n1_ n2_;clear ho hb hg hat))
  go_roundg k1
  case measure=>have:=HK1.out;omega
  case rel=>exact ⟨(y184),(wrap64 (x10_1 + 1)),(by first|rfl|(simp;done)|(simp [*];done)),H',⟨by have:=HK1.out;omega⟩,⟨by (with_reducible repeat (first|apply R_alloc|apply R_drewN|apply R_drew));exact HO186.out⟩,⟨by (with_reducible repeat (first|apply blk_drewN|apply blk_drew|apply blk_alloc));exact BK175.out⟩,⟨by repeat (first|(with_reducible first|exact HB.out|apply below_alloc|apply pw_below_drewN|apply below_drew1|refine below_set ?_ GE175.out)|exact HB.out)⟩⟩


end
end Go.Proofs.Ytciihopkgblpkaa.QFnExactFallsOf
