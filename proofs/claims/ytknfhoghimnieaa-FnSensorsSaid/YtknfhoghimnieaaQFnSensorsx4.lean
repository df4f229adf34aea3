/- Functions that the law FnSensors comes to, as Lean functions, with the proof that the Go code does what they say: written by a program of this session over the kit's print. No condition but those named. -/
import Derived.Test.YtknfhoghimnieaaQFnSensorsx0
import Derived.Test.YtknfhoghimnieaaQFnSensorsx3
namespace Go.Proofs.Ytknfhoghimnieaa.QFnSensors
open Go.RowKit Go.Proofs.YtknfhoghimnieaaW.PrintWords Go.Proofs.YtknfhoghimnieaaW.PrintLast Go.Proofs.YtknfhoghimnieaaW.PrintMore Go.Proofs.Ytknfhoghimnieaa.Short
attribute [local go_sem] max2_int min2_int max_two min_two max_three min_three max_four min_four   -- for this text's walks alone
set_option linter.unusedVariables false
set_option linter.unusedSimpArgs false

section
open Kd
/-! ### spec_AreSensors: function 11 -/
def spec_AreSensors.f (k : Nat) (a0_0 : Int) (a0_1 : Bool) (l1 : List (S59)) : Option (Bool × Bool):=(spec_l2Road.f a0_0 a0_1).bind fun t113=>(if t113 = true then (if a0_1 = true then (some (false,false)) else ((spec_l9Sensors.f k a0_0 a0_1 l1).bind fun t114=>(some (t114,true)))) else (some (false,false)))
theorem spec_AreSensors.mono : ∀ a0 a1 a2 k,LeO (spec_AreSensors.f k a0 a1 a2) (spec_AreSensors.f (k + 1) a0 a1 a2):=by
 intro a0 a1 a2 k
 unfold spec_AreSensors.f
 repeat' first
   | (with_reducible exact spec_l9Sensors.mono _ _ _ _)
   | (with_reducible exact LeO.refl _)
   | (with_reducible exact LeO.none _)
   | (with_reducible refine LeO.ite ?_ ?_)
   | (with_reducible refine LeO.bind ?_ (fun _=>?_))
   | exact spec_l9Sensors.mono _ _ _ _
   | exact LeO.none _
   | refine LeO.ite ?_ ?_
   | refine LeO.bind ?_ (fun _=>?_)
set_option maxHeartbeats 8000000 in
set_option maxRecDepth 100000 in
theorem spec_AreSensors.calls (k : Nat) (a0_0 : Int) (a0_1 : Bool) (A1 : Option Addr) (c1 : Nat) (l1 : List (S59)) (r1 : Bool) (r2 : Bool) (w : World) (hr1 : Kd.C k59 w A1 l1.length l1) (hc1 : l1.length ≤ c1) (h : spec_AreSensors.f k a0_0 a0_1 l1 = some (r1,r2)) :
  Calls Try.prog 11 #[.agg #[.int .i64 a0_0,.bool a0_1],.slice A1 l1.length c1] w fun e w'=>e = .returned (.tuple #[.bool r1,.bool r2]) ∧ Below w.heap.size w w':=by
 have hu28:=Try.underlying28
 have HR1:=Aside0.mk hr1
 have HC1:=Aside0.mk hc1
 clear hr1 hc1
 have HB:=Aside0.mk (Below.refl w.heap.size w)
 have H : ((spec_l2Road.f a0_0 a0_1).bind fun t113=>(if t113 = true then (if a0_1 = true then (some (false,false)) else ((spec_l9Sensors.f k a0_0 a0_1 l1).bind fun t114=>(some (t114,true)))) else (some (false,false)))) = some (r1,r2):=h
 clear h
 replace H:=Option.bind_eq_some_iff.mp H
 obtain ⟨t113,A30,H⟩:=H
 (try dsimp only at H)
 have A3:=Aside0.mk A30
 clear A30
 by_cases c4 : t113 = true
 rotate_left
 ·replace c4:=Bool.eq_false_iff.mpr c4
  subst c4
  rw [if_neg (show ¬ (false = true) by decide)] at H
  simp only [Option.some.injEq,Prod.mk.injEq] at H
  obtain ⟨rfl,rfl⟩:=H
  go_enter Try.func11,Try.ntmps11
  go_wp2_with (first|((with_reducible refine gate_dst (N:=2) rfl ?_);refine box_event ?hg (N:=2) ?hd (cs:=#[.int .i64 a0_0,.bool a0_1]) (t:=28) ?hr ?_;(case hd=>rfl);(case hg=>rfl);(case hr=>first|(go_simp;done)|(go_simp;rfl));intro gb112 hg w16 hbox hb;have BK112:=ak hbox;have GW112:=ak ((by rw [hg];exact (below_size (hm HB.out)) : w.heap.size ≤ gb112));have GE112:=ak ((by rw [hg];exact (below_size (hm HB.out)) : w.heap.size ≤ gb112));replace HB:=bs HB hb;clear hb hbox hg;have hcz17_0 : w16.cell? ⟨gb112,0,none⟩ = some (.int .i64 a0_0):=(blk_cell BK112.out 0).trans rfl;have hcz17_1 : w16.cell? ⟨gb112,1,none⟩ = some (.bool a0_1):=(blk_cell BK112.out 1).trans rfl;have hfz17_0:=blk_frozen BK112.out 0;have hfz17_1:=blk_frozen BK112.out 1)|((with_reducible refine gate_callee (f:=42) rfl ?_);refine goesL_ (some 7) rfl rfl Try.func42 (by kernel_rfl) rfl #[.agg #[.int .i64 a0_0,.bool a0_1]] rfl gl ?_;(with_reducible refine (spec_l2Road.calls a0_0 a0_1 false _ A3.out).mono ?_);rintro e w18 ⟨rfl,hb⟩;refine ⟨_,rfl,?_⟩;replace BK112:=kb BK112 hb;replace HB:=ak (below_step (h1 HB.out GE112.out) hb);(try clear hb);(try clear hk);(try clear hi)))
  go_ret2
  exact ⟨fe,h1 HB.out GE112.out⟩
 subst c4
 rw [if_pos rfl] at H
 by_cases c5 : a0_1 = true
 ·subst c5
  rw [if_pos rfl] at H
  simp only [Option.some.injEq,Prod.mk.injEq] at H
  obtain ⟨rfl,rfl⟩:=H
  go_enter Try.func11,Try.ntmps11
  go_wp2_with (first|((with_reducible refine gate_dst (N:=2) rfl ?_);refine box_event ?hg (N:=2) ?hd (cs:=#[.int .i64 a0_0,.bool true]) (t:=28) ?hr ?_;(case hd=>rfl);(case hg=>rfl);(case hr=>first|(go_simp;done)|(go_simp;rfl));intro gb112 hg w6 hbox hb;have BK112:=ak hbox;have GW112:=ak ((by rw [hg];exact (below_size (hm HB.out)) : w.heap.size ≤ gb112));have GE112:=ak ((by rw [hg];exact (below_size (hm HB.out)) : w.heap.size ≤ gb112));replace HB:=bs HB hb;clear hb hbox hg;have hcz7_0 : w6.cell? ⟨gb112,0,none⟩ = some (.int .i64 a0_0):=(blk_cell BK112.out 0).trans rfl;have hcz7_1 : w6.cell? ⟨gb112,1,none⟩ = some (.bool true):=(blk_cell BK112.out 1).trans rfl;have hfz7_0:=blk_frozen BK112.out 0;have hfz7_1:=blk_frozen BK112.out 1)|((with_reducible refine gate_callee (f:=42) rfl ?_);refine goesL_ (some 7) rfl rfl Try.func42 (by kernel_rfl) rfl #[.agg #[.int .i64 a0_0,.bool true]] rfl gl ?_;(with_reducible refine (spec_l2Road.calls a0_0 true true _ A3.out).mono ?_);rintro e w8 ⟨rfl,hb⟩;refine ⟨_,rfl,?_⟩;replace BK112:=kb BK112 hb;replace HB:=ak (below_step (h1 HB.out GE112.out) hb);(try clear hb);(try clear hk);(try clear hi);have hcz9_0 : w8.cell? ⟨gb112,0,none⟩ = some (.int .i64 a0_0):=(blk_cell BK112.out 0).trans rfl;have hcz9_1 : w8.cell? ⟨gb112,1,none⟩ = some (.bool true):=(blk_cell BK112.out 1).trans rfl;have hfz9_0:=blk_frozen BK112.out 0;have hfz9_1:=blk_frozen BK112.out 1))
  go_ret2
  exact ⟨fe,h1 HB.out GE112.out⟩
 replace c5:=Bool.eq_false_iff.mpr c5
 subst c5
 rw [if_neg (show ¬ (false = true) by decide)] at H
 replace H:=Option.bind_eq_some_iff.mp H
 obtain ⟨t114,A100,H⟩:=H
 (try dsimp only at H)
 have A10:=Aside0.mk A100
 clear A100
 simp only [Option.some.injEq,Prod.mk.injEq] at H
 obtain ⟨rfl,rfl⟩:=H
 go_enter Try.func11,Try.ntmps11
 go_wp2_with (first|((with_reducible refine gate_dst (N:=2) rfl ?_);refine box_event ?hg (N:=2) ?hd (cs:=#[.int .i64 a0_0,.bool false]) (t:=28) ?hr ?_;(case hd=>rfl);(case hg=>rfl);(case hr=>first|(go_simp;done)|(go_simp;rfl));intro gb112 hg w11 hbox hb;have BK112:=ak hbox;have GW112:=ak ((by rw [hg];exact (below_size (hm HB.out)) : w.heap.size ≤ gb112));have GE112:=ak ((by rw [hg];exact (below_size (hm HB.out)) : w.heap.size ≤ gb112));replace HB:=bs HB hb;clear hb hbox hg;have hcz12_0 : w11.cell? ⟨gb112,0,none⟩ = some (.int .i64 a0_0):=(blk_cell BK112.out 0).trans rfl;have hcz12_1 : w11.cell? ⟨gb112,1,none⟩ = some (.bool false):=(blk_cell BK112.out 1).trans rfl;have hfz12_0:=blk_frozen BK112.out 0;have hfz12_1:=blk_frozen BK112.out 1)|((with_reducible refine gate_callee (f:=42) rfl ?_);refine goesL_ (some 7) rfl rfl Try.func42 (by kernel_rfl) rfl #[.agg #[.int .i64 a0_0,.bool false]] rfl gl ?_;(with_reducible refine (spec_l2Road.calls a0_0 false true _ A3.out).mono ?_);rintro e w13 ⟨rfl,hb⟩;refine ⟨_,rfl,?_⟩;replace BK112:=kb BK112 hb;replace HB:=ak (below_step (h1 HB.out GE112.out) hb);(try clear hb);(try clear hk);(try clear hi);have hcz14_0 : w13.cell? ⟨gb112,0,none⟩ = some (.int .i64 a0_0):=(blk_cell BK112.out 0).trans rfl;have hcz14_1 : w13.cell? ⟨gb112,1,none⟩ = some (.bool false):=(blk_cell BK112.out 1).trans rfl;have hfz14_0:=blk_frozen BK112.out 0;have hfz14_1:=blk_frozen BK112.out 1)|((with_reducible refine gate_callee (f:=43) rfl ?_);refine goesL_ (some 15) rfl rfl Try.func43 (by kernel_rfl) rfl #[.agg #[.int .i64 a0_0,.bool false],.slice A1 l1.length c1] rfl gl ?_;(with_reducible refine (spec_l9Sensors.calls k a0_0 false _ _ l1 t114 _ ?side1 ?side2 A10.out).mono ?_);(case side1=>exact cm (C_below HR1.out HB.out));(case side2=>exact HC1.out);rintro e w15 ⟨rfl,hb⟩;refine ⟨_,rfl,?_⟩;replace BK112:=kb BK112 hb;replace HB:=ak (below_step (h1 HB.out GE112.out) hb);(try clear hb);(try clear hk);(try clear hi)))
 go_ret2
 exact ⟨fe,h1 HB.out GE112.out⟩

/-! ### impl_within: function 62 -/
def impl_within.f (a0 : Int) (a1 : Int) (a2 : Int) : Option (Bool):=if a0 ≥ a1 then (some (decide (a0 ≤ a2))) else (some false)
set_option maxHeartbeats 8000000 in
set_option maxRecDepth 100000 in
theorem impl_within.calls (a0 : Int) (a1 : Int) (a2 : Int) (r : Bool) (w : World) (h : impl_within.f a0 a1 a2 = some r) :
  Calls Try.prog 62 #[.int .i64 a0,.int .i64 a1,.int .i64 a2] w fun e w'=>e = .returned (.bool r) ∧ Drawn0 w w':=by
 have H : (if a0 ≥ a1 then (some (decide (a0 ≤ a2))) else (some false)) = some r:=h
 clear h
 by_cases c4 : a0 ≥ a1
 ·rw [if_pos c4] at H
  have c4b0 : decide (a1 ≤ a0) = true:=decide_eq_true c4
  clear c4
  obtain rfl:=Option.some.inj H
  go_enter Try.func62,Try.ntmps62
  go_wp2
  go_ret
  exact ⟨by first|rfl|(simp;done)|(simp [*];done),by repeat (first|exact Drawn0.refl _|apply Drawn0.step)⟩
 rw [if_neg c4] at H
 have c4b0 : decide (a1 ≤ a0) = false:=decide_eq_false c4
 clear c4
 obtain rfl:=Option.some.inj H
 go_enter Try.func62,Try.ntmps62
 go_wp2
 go_ret
 exact ⟨by first|rfl|(simp;done)|(simp [*];done),by repeat (first|exact Drawn0.refl _|apply Drawn0.step)⟩

/-! ### impl_IsRoad: function 60 -/
def impl_IsRoad.f (a0_0 : Int) (a0_1 : Bool) : Option (Bool):=(impl_within.f a0_0 2 24).bind fun t116=>(if t116 = true then (if a0_1 = true then (some (decide (a0_0 ≥ 3))) else (some true)) else (some false))
set_option maxHeartbeats 8000000 in
set_option maxRecDepth 100000 in
theorem impl_IsRoad.calls (a0_0 : Int) (a0_1 : Bool) (r : Bool) (w : World) (h : impl_IsRoad.f a0_0 a0_1 = some r) :
  Calls Try.prog 60 #[.agg #[.int .i64 a0_0,.bool a0_1]] w fun e w'=>e = .returned (.bool r) ∧ Below w.heap.size w w':=by
 have hu28:=Try.underlying28
 have HB:=Aside0.mk (Below.refl w.heap.size w)
 have H : ((impl_within.f a0_0 2 24).bind fun t116=>(if t116 = true then (if a0_1 = true then (some (decide (a0_0 ≥ 3))) else (some true)) else (some false))) = some r:=h
 clear h
 replace H:=Option.bind_eq_some_iff.mp H
 obtain ⟨t116,A20,H⟩:=H
 (try dsimp only at H)
 have A2:=Aside0.mk A20
 clear A20
 by_cases c3 : t116 = true
 rotate_left
 ·replace c3:=Bool.eq_false_iff.mpr c3
  subst c3
  rw [if_neg (show ¬ (false = true) by decide)] at H
  obtain rfl:=Option.some.inj H
  go_enter Try.func60,Try.ntmps60
  go_wp2_with (first|((with_reducible refine gate_dst (N:=1) rfl ?_);refine box_event ?hg (N:=1) ?hd (cs:=#[.int .i64 a0_0,.bool a0_1]) (t:=28) ?hr ?_;(case hd=>rfl);(case hg=>rfl);(case hr=>first|(go_simp;done)|(go_simp;rfl));intro gb115 hg w9 hbox hb;have BK115:=ak hbox;have GW115:=ak ((by rw [hg];exact (below_size (hm HB.out)) : w.heap.size ≤ gb115));have GE115:=ak ((by rw [hg];exact (below_size (hm HB.out)) : w.heap.size ≤ gb115));replace HB:=bs HB hb;clear hb hbox hg;have hcz10_0 : w9.cell? ⟨gb115,0,none⟩ = some (.int .i64 a0_0):=(blk_cell BK115.out 0).trans rfl;have hcz10_1 : w9.cell? ⟨gb115,1,none⟩ = some (.bool a0_1):=(blk_cell BK115.out 1).trans rfl;have hfz10_0:=blk_frozen BK115.out 0;have hfz10_1:=blk_frozen BK115.out 1)|((with_reducible refine gate_callee (f:=62) rfl ?_);refine goesL_ (some 5) rfl rfl Try.func62 (by kernel_rfl) rfl #[.int .i64 a0_0,.int .i64 2,.int .i64 24] rfl gl ?_;(with_reducible refine (impl_within.calls a0_0 2 24 false _ A2.out).mono ?_);rintro e w' ⟨rfl,⟨nd,rfl⟩⟩;refine ⟨_,rfl,?_⟩))
  go_ret
  exact ⟨fe,h1 HB.out GE115.out⟩
 subst c3
 rw [if_pos rfl] at H
 by_cases c4 : a0_1 = true
 ·subst c4
  rw [if_pos rfl] at H
  obtain rfl:=Option.some.inj H
  go_enter Try.func60,Try.ntmps60
  go_wp2_with (first|((with_reducible refine gate_dst (N:=1) rfl ?_);refine box_event ?hg (N:=1) ?hd (cs:=#[.int .i64 a0_0,.bool true]) (t:=28) ?hr ?_;(case hd=>rfl);(case hg=>rfl);(case hr=>first|(go_simp;done)|(go_simp;rfl));intro gb115 hg w5 hbox hb;have BK115:=ak hbox;have GW115:=ak ((by rw [hg];exact (below_size (hm HB.out)) : w.heap.size ≤ gb115));have GE115:=ak ((by rw [hg];exact (below_size (hm HB.out)) : w.heap.size ≤ gb115));replace HB:=bs HB hb;clear hb hbox hg;have hcz6_0 : w5.cell? ⟨gb115,0,none⟩ = some (.int .i64 a0_0):=(blk_cell BK115.out 0).trans rfl;have hcz6_1 : w5.cell? ⟨gb115,1,none⟩ = some (.bool true):=(blk_cell BK115.out 1).trans rfl;have hfz6_0:=blk_frozen BK115.out 0;have hfz6_1:=blk_frozen BK115.out 1)|((with_reducible refine gate_callee (f:=62) rfl ?_);refine goesL_ (some 5) rfl rfl Try.func62 (by kernel_rfl) rfl #[.int .i64 a0_0,.int .i64 2,.int .i64 24] rfl gl ?_;(with_reducible refine (impl_within.calls a0_0 2 24 true _ A2.out).mono ?_);rintro e w' ⟨rfl,⟨nd,rfl⟩⟩;refine ⟨_,rfl,?_⟩))
  go_ret
  exact ⟨fe,h1 HB.out GE115.out⟩
 replace c4:=Bool.eq_false_iff.mpr c4
 subst c4
 rw [if_neg (show ¬ (false = true) by decide)] at H
 obtain rfl:=Option.some.inj H
 go_enter Try.func60,Try.ntmps60
 go_wp2_with (first|((with_reducible refine gate_dst (N:=1) rfl ?_);refine box_event ?hg (N:=1) ?hd (cs:=#[.int .i64 a0_0,.bool false]) (t:=28) ?hr ?_;(case hd=>rfl);(case hg=>rfl);(case hr=>first|(go_simp;done)|(go_simp;rfl));intro gb115 hg w7 hbox hb;have BK115:=ak hbox;have GW115:=ak ((by rw [hg];exact (below_size (hm HB.out)) : w.heap.size ≤ gb115));have GE115:=ak ((by rw [hg];exact (below_size (hm HB.out)) : w.heap.size ≤ gb115));replace HB:=bs HB hb;clear hb hbox hg;have hcz8_0 : w7.cell? ⟨gb115,0,none⟩ = some (.int .i64 a0_0):=(blk_cell BK115.out 0).trans rfl;have hcz8_1 : w7.cell? ⟨gb115,1,none⟩ = some (.bool false):=(blk_cell BK115.out 1).trans rfl;have hfz8_0:=blk_frozen BK115.out 0;have hfz8_1:=blk_frozen BK115.out 1)|((with_reducible refine gate_callee (f:=62) rfl ?_);refine goesL_ (some 5) rfl rfl Try.func62 (by kernel_rfl) rfl #[.int .i64 a0_0,.int .i64 2,.int .i64 24] rfl gl ?_;(with_reducible refine (impl_within.calls a0_0 2 24 true _ A2.out).mono ?_);rintro e w' ⟨rfl,⟨nd,rfl⟩⟩;refine ⟨_,rfl,?_⟩))
 go_ret
 exact ⟨fe,h1 HB.out GE115.out⟩

/-! ### impl_isLine: function 45 -/
def impl_isLine.f (a0_0 : Int) (a0_1 : Bool) : Option (Bool):=(impl_IsRoad.f a0_0 a0_1).bind fun t118=>(if t118 = true then (some (!a0_1)) else (some false))
set_option maxHeartbeats 8000000 in
set_option maxRecDepth 100000 in
theorem impl_isLine.calls (a0_0 : Int) (a0_1 : Bool) (r : Bool) (w : World) (h : impl_isLine.f a0_0 a0_1 = some r) :
  Calls Try.prog 45 #[.agg #[.int .i64 a0_0,.bool a0_1]] w fun e w'=>e = .returned (.bool r) ∧ Below w.heap.size w w':=by
 have hu28:=Try.underlying28
 have HB:=Aside0.mk (Below.refl w.heap.size w)
 have H : ((impl_IsRoad.f a0_0 a0_1).bind fun t118=>(if t118 = true then (some (!a0_1)) else (some false))) = some r:=h
 clear h
 replace H:=Option.bind_eq_some_iff.mp H
 obtain ⟨t118,A20,H⟩:=H
 (try dsimp only at H)
 have A2:=Aside0.mk A20
 clear A20
 by_cases c3 : t118 = true
 rotate_left
 ·replace c3:=Bool.eq_false_iff.mpr c3
  subst c3
  rw [if_neg (show ¬ (false = true) by decide)] at H
  obtain rfl:=Option.some.inj H
  go_enter Try.func45,Try.ntmps45
  go_wp2_with (first|((with_reducible refine gate_dst (N:=1) rfl ?_);refine box_event ?hg (N:=1) ?hd (cs:=#[.int .i64 a0_0,.bool a0_1]) (t:=28) ?hr ?_;(case hd=>rfl);(case hg=>rfl);(case hr=>first|(go_simp;done)|(go_simp;rfl));intro gb117 hg w8 hbox hb;have BK117:=ak hbox;have GW117:=ak ((by rw [hg];exact (below_size (hm HB.out)) : w.heap.size ≤ gb117));have GE117:=ak ((by rw [hg];exact (below_size (hm HB.out)) : w.heap.size ≤ gb117));replace HB:=bs HB hb;clear hb hbox hg;have hcz9_0 : w8.cell? ⟨gb117,0,none⟩ = some (.int .i64 a0_0):=(blk_cell BK117.out 0).trans rfl;have hcz9_1 : w8.cell? ⟨gb117,1,none⟩ = some (.bool a0_1):=(blk_cell BK117.out 1).trans rfl;have hfz9_0:=blk_frozen BK117.out 0;have hfz9_1:=blk_frozen BK117.out 1)|((with_reducible refine gate_callee (f:=60) rfl ?_);refine goesL_ (some 4) rfl rfl Try.func60 (by kernel_rfl) rfl #[.agg #[.int .i64 a0_0,.bool a0_1]] rfl gl ?_;(with_reducible refine (impl_IsRoad.calls a0_0 a0_1 false _ A2.out).mono ?_);rintro e w10 ⟨rfl,hb⟩;refine ⟨_,rfl,?_⟩;replace BK117:=kb BK117 hb;replace HB:=ak (below_step (h1 HB.out GE117.out) hb);(try clear hb);(try clear hk);(try clear hi)))
  go_ret
  exact ⟨fe,h1 HB.out GE117.out⟩
 subst c3
 rw [if_pos rfl] at H
 obtain rfl:=Option.some.inj H
 go_enter Try.func45,Try.ntmps45
 go_wp2_with (first|((with_reducible refine gate_dst (N:=1) rfl ?_);refine box_event ?hg (N:=1) ?hd (cs:=#[.int .i64 a0_0,.bool a0_1]) (t:=28) ?hr ?_;(case hd=>rfl);(case hg=>rfl);(case hr=>first|(go_simp;done)|(go_simp;rfl));intro gb117 hg w4 hbox hb;have BK117:=ak hbox;have GW117:=ak ((by rw [hg];exact (below_size (hm HB.out)) : w.heap.size ≤ gb117));have GE117:=ak ((by rw [hg];exact (below_size (hm HB.out)) : w.heap.size ≤ gb117));replace HB:=bs HB hb;clear hb hbox hg;have hcz5_0 : w4.cell? ⟨gb117,0,none⟩ = some (.int .i64 a0_0):=(blk_cell BK117.out 0).trans rfl;have hcz5_1 : w4.cell? ⟨gb117,1,none⟩ = some (.bool a0_1):=(blk_cell BK117.out 1).trans rfl;have hfz5_0:=blk_frozen BK117.out 0;have hfz5_1:=blk_frozen BK117.out 1)|((with_reducible refine gate_callee (f:=60) rfl ?_);refine goesL_ (some 4) rfl rfl Try.func60 (by kernel_rfl) rfl #[.agg #[.int .i64 a0_0,.bool a0_1]] rfl gl ?_;(with_reducible refine (impl_IsRoad.calls a0_0 a0_1 true _ A2.out).mono ?_);rintro e w6 ⟨rfl,hb⟩;refine ⟨_,rfl,?_⟩;replace BK117:=kb BK117 hb;replace HB:=ak (below_step (h1 HB.out GE117.out) hb);(try clear hb);(try clear hk);(try clear hi);have hcz7_0 : w6.cell? ⟨gb117,0,none⟩ = some (.int .i64 a0_0):=(blk_cell BK117.out 0).trans rfl;have hcz7_1 : w6.cell? ⟨gb117,1,none⟩ = some (.bool a0_1):=(blk_cell BK117.out 1).trans rfl;have hfz7_0:=blk_frozen BK117.out 0;have hfz7_1:=blk_frozen BK117.out 1))
 go_ret
 exact ⟨fe,h1 HB.out GE117.out⟩

/-! ### impl_allWithin: function 68 -/
def impl_allWithin.l0 : Nat → Int → Int → List Int → Int → Int → Option (Bool)
 | 0,_,_,_,_,_=>none
 | k + 1,x1,x2,x9,x10,x11=>if x11 < x10 then (if 0 ≤ x11 then (if x11 < (x9.length : Int) then ((impl_within.f (rd x9 x11) x1 x2).bind fun t120=>(if t120 = true then (impl_allWithin.l0 k x1 x2 x9 x10 (wrap64 (x11 + 1))) else (some false))) else (none)) else (none)) else (some true)
def impl_allWithin.f (k : Nat) (l0 : List Int) (a1 : Int) (a2 : Int) : Option (Bool):=impl_allWithin.l0 k a1 a2 l0 (l0.length : Int) 0
theorem impl_allWithin.mono_l : ∀ k,(∀ y0 y1 y2 y3 y4,LeO (impl_allWithin.l0 k y0 y1 y2 y3 y4) (impl_allWithin.l0 (k + 1) y0 y1 y2 y3 y4))
 | 0=>by
  refine ?_<;>(intros;intro r h;simp [impl_allWithin.l0] at h)
 | k + 1=>by
  have ih0:=impl_allWithin.mono_l k
  refine ?_<;>intros<;>(first|unfold impl_allWithin.l0)<;>(repeat' first|(with_reducible exact ih0 ..)|(with_reducible exact LeO.refl _)|(with_reducible exact LeO.none _)|(with_reducible refine LeO.ite ?_ ?_)|(with_reducible refine LeO.bind ?_ (fun _=>?_))|exact ih0 ..|exact LeO.none _|refine LeO.ite ?_ ?_|refine LeO.bind ?_ (fun _=>?_))
theorem impl_allWithin.mono : ∀ a0 a1 a2 k,LeO (impl_allWithin.f k a0 a1 a2) (impl_allWithin.f (k + 1) a0 a1 a2):=by
 intro a0 a1 a2 k
 have ih0:=impl_allWithin.mono_l k
 unfold impl_allWithin.f
 repeat' first
   | (with_reducible exact ih0 _ _ _ _ _)
   | (with_reducible exact LeO.refl _)
   | (with_reducible exact LeO.none _)
   | (with_reducible refine LeO.ite ?_ ?_)
   | (with_reducible refine LeO.bind ?_ (fun _=>?_))
   | exact ih0 _ _ _ _ _
   | exact LeO.none _
   | refine LeO.ite ?_ ?_
   | refine LeO.bind ?_ (fun _=>?_)
set_option maxHeartbeats 8000000 in
set_option maxRecDepth 100000 in
theorem impl_allWithin.calls (k : Nat) (A0 : Option Addr) (c0 : Nat) (l0 : List Int) (a1 : Int) (a2 : Int) (r : Bool) (w : World) (hr0 : Kd.C (Kd.int .i64) w A0 l0.length l0) (hc0 : l0.length ≤ c0) (h : impl_allWithin.f k l0 a1 a2 = some r) :
  Calls Try.prog 68 #[.slice A0 l0.length c0,.int .i64 a1,.int .i64 a2] w fun e w'=>e = .returned (.bool r) ∧ Drawn0 w w':=by
 have HR0:=Aside0.mk hr0
 have HC0:=Aside0.mk hc0
 clear hr0 hc0
 have H : (impl_allWithin.l0 k a1 a2 l0 (l0.length : Int) 0) = some r:=h
 clear h
 have H':=Aside0.mk H
 clear H
 go_enter Try.func68,Try.ntmps68
 go_wp2
 go_loopg [11] k (fun kq v11 w'=>∃ (x11_1 : Int),v11 = .int .i64 x11_1 ∧ Aside0 (impl_allWithin.l0 kq a1 a2 l0 (l0.length : Int) x11_1 = some r) ∧ Aside0 (kq ≤ k) ∧ Drawn0 w w')
 case atStart=>exact ⟨(0),fd,H',⟨Nat.le_refl _⟩,by repeat (first|exact Drawn0.refl _|apply Drawn0.step)⟩
 clear H'
 try clear p2
 obtain ⟨x11_1,rfl,HA,HK1,⟨m1,rfl⟩⟩:=hrel
 cases gk with
 | zero=>exact absurd HA.out (by simp [impl_allWithin.l0])
 | succ k1 =>
  have H:=HA.out
  clear HA
  simp only [impl_allWithin.l0] at H
  by_cases c4 : x11_1 < (l0.length : Int)
  rotate_left
  ·rw [if_neg c4] at H
   have c4b0 : decide (x11_1 < (l0.length : Int)) = false:=decide_eq_false c4
   clear c4
   obtain rfl:=Option.some.inj H
   go_wp2
   go_ret
   exact ⟨by first|rfl|(simp;done)|(simp [*];done),by repeat (first|exact Drawn0.refl _|apply Drawn0.step)⟩
  rw [if_pos c4] at H
  have c4b0 : decide (x11_1 < (l0.length : Int)) = true:=decide_eq_true c4
  clear c4
  by_cases c5 : 0 ≤ x11_1
  rotate_left
  ·rw [if_neg c5] at H
   exact absurd H (by simp)
  rw [if_pos c5] at H
  have c5b0 : decide (0 ≤ x11_1) = true:=decide_eq_true c5
  clear c5
  by_cases c6 : x11_1 < (l0.length : Int)
  rotate_left
  ·rw [if_neg c6] at H
   exact absurd H (by simp)
  rw [if_pos c6] at H
  have c6b0 : decide (x11_1 < (l0.length : Int)) = true:=decide_eq_true c6
  clear c6
  replace H:=Option.bind_eq_some_iff.mp H
  obtain ⟨t120,A70,H⟩:=H
  (try dsimp only at H)
  have A7:=Aside0.mk A70
  clear A70
  by_cases c8 : t120 = true
  rotate_left
  ·replace c8:=Bool.eq_false_iff.mpr c8
   subst c8
   rw [if_neg (show ¬ (false = true) by decide)] at H
   obtain rfl:=Option.some.inj H
   have p119 : 0 ≤ (x11_1 : Int):=od
   have q119 : x11_1 < (l0.length : Int):=od
   obtain ⟨ad119,e119,hx119_0⟩:=Kd.at_int HR0.out x11_1 p119 q119
   cases e119
   replace p119:=eq_true p119
   replace q119:=eq_true q119
   go_wp2_with (first|((with_reducible refine gate_callee (f:=62) rfl ?_);refine goesL_ (some 18) rfl rfl Try.func62 (by kernel_rfl) rfl #[.int .i64 (rd l0 x11_1),.int .i64 a1,.int .i64 a2] rfl gl ?_;(with_reducible refine (impl_within.calls (rd l0 x11_1) a1 a2 false _ A7.out).mono ?_);rintro e w' ⟨rfl,⟨nd,rfl⟩⟩;refine ⟨_,rfl,?_⟩))
   go_ret
   exact ⟨by first|rfl|(simp;done)|(simp [*];done),by repeat (first|exact Drawn0.refl _|apply Drawn0.step)⟩
  subst c8
  rw [if_pos rfl] at H
  have H':=Aside0.mk H
  clear H
  have p119 : 0 ≤ (x11_1 : Int):=od
  have q119 : x11_1 < (l0.length : Int):=od
  obtain ⟨ad119,e119,hx119_0⟩:=Kd.at_int HR0.out x11_1 p119 q119
  cases e119
  replace p119:=eq_true p119
  replace q119:=eq_true q119
  go_wp2_with (first|((with_reducible refine gate_callee (f:=62) rfl ?_);refine goesL_ (some 18) rfl rfl Try.func62 (by kernel_rfl) rfl #[.int .i64 (rd l0 x11_1),.int .i64 a1,.int .i64 a2] rfl gl ?_;(with_reducible refine (impl_within.calls (rd l0 x11_1) a1 a2 true _ A7.out).mono ?_);rintro e w' ⟨rfl,⟨nd,rfl⟩⟩;refine ⟨_,rfl,?_⟩))
  go_roundg k1
  case measure=>have:=HK1.out;omega
  case rel=>exact ⟨(wrap64 (x11_1 + 1)),fd,H',⟨by have:=HK1.out;omega⟩,by repeat (first|exact Drawn0.refl _|apply Drawn0.step)⟩

/-! ### impl_Road_has: function 61 -/
def impl_Road_has.f (k : Nat) (a0_0 : Int) (a0_1 : Bool) (l1 : List Int) : Option (Bool):=(impl_allWithin.f k l1 0 (wrap64 (a0_0 - 1))).bind fun t122=>(some t122)
theorem impl_Road_has.mono : ∀ a0 a1 a2 k,LeO (impl_Road_has.f k a0 a1 a2) (impl_Road_has.f (k + 1) a0 a1 a2):=by
 intro a0 a1 a2 k
 unfold impl_Road_has.f
 repeat' first
   | (with_reducible exact impl_allWithin.mono _ _ _ _)
   | (with_reducible exact LeO.refl _)
   | (with_reducible exact LeO.none _)
   | (with_reducible refine LeO.ite ?_ ?_)
   | (with_reducible refine LeO.bind ?_ (fun _=>?_))
   | exact impl_allWithin.mono _ _ _ _
   | exact LeO.none _
   | refine LeO.ite ?_ ?_
   | refine LeO.bind ?_ (fun _=>?_)
set_option maxHeartbeats 8000000 in
set_option maxRecDepth 100000 in
theorem impl_Road_has.calls (k : Nat) (a0_0 : Int) (a0_1 : Bool) (A1 : Option Addr) (c1 : Nat) (l1 : List Int) (r : Bool) (w : World) (hr1 : Kd.C (Kd.int .i64) w A1 l1.length l1) (hc1 : l1.length ≤ c1) (h : impl_Road_has.f k a0_0 a0_1 l1 = some r) :
  Calls Try.prog 61 #[.agg #[.int .i64 a0_0,.bool a0_1],.slice A1 l1.length c1] w fun e w'=>e = .returned (.bool r) ∧ Below w.heap.size w w':=by
 have hu28:=Try.underlying28
 have HR1:=Aside0.mk hr1
 have HC1:=Aside0.mk hc1
 clear hr1 hc1
 have HB:=Aside0.mk (Below.refl w.heap.size w)
 have H : ((impl_allWithin.f k l1 0 (wrap64 (a0_0 - 1))).bind fun t122=>(some t122)) = some r:=h
 clear h
 replace H:=Option.bind_eq_some_iff.mp H
 obtain ⟨t122,A30,H⟩:=H
 (try dsimp only at H)
 have A3:=Aside0.mk A30
 clear A30
 obtain rfl:=Option.some.inj H
 go_enter Try.func61,Try.ntmps61
 go_wp2_with (first|((with_reducible refine gate_dst (N:=2) rfl ?_);refine box_event ?hg (N:=2) ?hd (cs:=#[.int .i64 a0_0,.bool a0_1]) (t:=28) ?hr ?_;(case hd=>rfl);(case hg=>rfl);(case hr=>first|(go_simp;done)|(go_simp;rfl));intro gb121 hg w4 hbox hb;have BK121:=ak hbox;have GW121:=ak ((by rw [hg];exact (below_size (hm HB.out)) : w.heap.size ≤ gb121));have GE121:=ak ((by rw [hg];exact (below_size (hm HB.out)) : w.heap.size ≤ gb121));replace HB:=bs HB hb;clear hb hbox hg;have hcz5_0 : w4.cell? ⟨gb121,0,none⟩ = some (.int .i64 a0_0):=(blk_cell BK121.out 0).trans rfl;have hcz5_1 : w4.cell? ⟨gb121,1,none⟩ = some (.bool a0_1):=(blk_cell BK121.out 1).trans rfl;have hfz5_0:=blk_frozen BK121.out 0;have hfz5_1:=blk_frozen BK121.out 1)|((with_reducible refine gate_callee (f:=68) rfl ?_);refine goesL_ (some 9) rfl rfl Try.func68 (by kernel_rfl) rfl #[.slice A1 l1.length c1,.int .i64 0,.int .i64 (wrap64 (a0_0 - 1))] rfl gl ?_;(with_reducible refine (impl_allWithin.calls k _ _ l1 0 (wrap64 (a0_0 - 1)) t122 _ ?side1 ?side2 A3.out).mono ?_);(case side1=>exact cm (C_below HR1.out HB.out));(case side2=>exact HC1.out);rintro e w' ⟨rfl,⟨nd,rfl⟩⟩;refine ⟨_,rfl,?_⟩))
 go_ret
 exact ⟨fe,h1 HB.out GE121.out⟩

/-! ### impl_Road_areSensors: function 46 -/
def impl_Road_areSensors.l0 : Nat → List (S59) → List (S59) → Int → Int → Int → Bool → Option (Bool)
 | 0,_,_,_,_,_,_=>none
 | k + 1,x1,x7,x8,x9,x124000,x124001=>if x9 < x8 then (if 0 ≤ x9 then (if x9 < (x7.length : Int) then ((impl_Road_has.f k x124000 x124001 (([(rd_T59 x7 x9).f0] : List Int))).bind fun t129=>(if t129 = true then ((impl_within.f ((rd_T59 x7 x9).f1) 0 12).bind fun t130=>(if t130 = true then (impl_Road_areSensors.l0 k x1 x7 x8 (wrap64 (x9 + 1)) x124000 x124001) else (some false))) else (some false))) else (none)) else (none)) else (some (decide ((x1.length : Int) ≤ 6)))
def impl_Road_areSensors.f (k : Nat) (a0_0 : Int) (a0_1 : Bool) (l1 : List (S59)) : Option (Bool):=impl_Road_areSensors.l0 k l1 l1 (l1.length : Int) 0 a0_0 a0_1
theorem impl_Road_areSensors.mono_l : ∀ k,(∀ y0 y1 y2 y3 y4 y5,LeO (impl_Road_areSensors.l0 k y0 y1 y2 y3 y4 y5) (impl_Road_areSensors.l0 (k + 1) y0 y1 y2 y3 y4 y5))
 | 0=>by
  refine ?_<;>(intros;intro r h;simp [impl_Road_areSensors.l0] at h)
 | k + 1=>by
  have ih0:=impl_Road_areSensors.mono_l k
  refine ?_<;>intros<;>(first|unfold impl_Road_areSensors.l0)<;>(repeat' first|(with_reducible exact ih0 ..)|(with_reducible exact impl_Road_has.mono _ _ _ _)|(with_reducible exact LeO.refl _)|(with_reducible exact LeO.none _)|(with_reducible refine LeO.ite ?_ ?_)|(with_reducible refine LeO.bind ?_ (fun _=>?_))|exact ih0 ..|exact impl_Road_has.mono _ _ _ _|exact LeO.none _|refine LeO.ite ?_ ?_|refine LeO.bind ?_ (fun _=>?_))
theorem impl_Road_areSensors.mono : ∀ a0 a1 a2 k,LeO (impl_Road_areSensors.f k a0 a1 a2) (impl_Road_areSensors.f (k + 1) a0 a1 a2):=by
 intro a0 a1 a2 k
 have ih0:=impl_Road_areSensors.mono_l k
 unfold impl_Road_areSensors.f
 repeat' first
   | (with_reducible exact ih0 _ _ _ _ _ _)
   | (with_reducible exact impl_Road_has.mono _ _ _ _)
   | (with_reducible exact LeO.refl _)
   | (with_reducible exact LeO.none _)
   | (with_reducible refine LeO.ite ?_ ?_)
   | (with_reducible refine LeO.bind ?_ (fun _=>?_))
   | exact ih0 _ _ _ _ _ _
   | exact impl_Road_has.mono _ _ _ _
   | exact LeO.none _
   | refine LeO.ite ?_ ?_
   | refine LeO.bind ?_ (fun _=>?_)
set_option maxHeartbeats 8000000 in
set_option maxRecDepth 100000 in
theorem impl_Road_areSensors.calls (k : Nat) (a0_0 : Int) (a0_1 : Bool) (A1 : Option Addr) (c1 : Nat) (l1 : List (S59)) (r : Bool) (w : World) (hr1 : Kd.C k59 w A1 l1.length l1) (hc1 : l1.length ≤ c1) (h : impl_Road_areSensors.f k a0_0 a0_1 l1 = some r) :
  Calls Try.prog 46 #[.agg #[.int .i64 a0_0,.bool a0_1],.slice A1 l1.length c1] w fun e w'=>e = .returned (.bool r) ∧ Below w.heap.size w w':=by
 have hu28:=Try.underlying28
 have hu59:=Try.underlying59
 have HR1:=Aside0.mk hr1
 have HC1:=Aside0.mk hc1
 clear hr1 hc1
 have HB:=Aside0.mk (Below.refl w.heap.size w)
 have H : (impl_Road_areSensors.l0 k l1 l1 (l1.length : Int) 0 a0_0 a0_1) = some r:=h
 clear h
 have H':=Aside0.mk H
 clear H
 go_enter Try.func46,Try.ntmps46
 go_wp2_with (first|((with_reducible refine gate_dst (N:=2) rfl ?_);refine box_event ?hg (N:=2) ?hd (cs:=#[.int .i64 a0_0,.bool a0_1]) (t:=28) ?hr ?_;(case hd=>rfl);(case hg=>rfl);(case hr=>first|(go_simp;done)|(go_simp;rfl));intro gb123 hg w3 hbox hb;have BK123:=ak hbox;have GW123:=ak ((by rw [hg];exact (below_size (hm HB.out)) : w.heap.size ≤ gb123));have GE123:=ak ((by rw [hg];exact (below_size (hm HB.out)) : w.heap.size ≤ gb123));replace HB:=bs HB hb;clear hb hbox hg))
 go_loopg [9] k (fun kq v9 w'=>∃ (x9_1 : Int),v9 = .int .i64 x9_1 ∧ Aside0 (impl_Road_areSensors.l0 kq l1 l1 (l1.length : Int) x9_1 a0_0 a0_1 = some r) ∧ Aside0 (kq ≤ k) ∧ Aside0 (w'.heap[gb123]? = some (.cells #[.int .i64 a0_0,.bool a0_1] 28 (0,0))) ∧ Aside0 (Below w.heap.size w w'))
 case atStart=>exact ⟨(0),fd,H',⟨Nat.le_refl _⟩,⟨bm BK123.out⟩,⟨h1 HB.out GE123.out⟩⟩
 clear H'
 try clear c1
 try clear p2
 obtain ⟨x9_1,rfl,HA,HK1,BK123,HB⟩:=hrel
 cases gk with
 | zero=>exact absurd HA.out (by simp [impl_Road_areSensors.l0])
 | succ k1 =>
  have H:=HA.out
  clear HA
  simp only [impl_Road_areSensors.l0] at H
  by_cases c4 : x9_1 < (l1.length : Int)
  rotate_left
  ·rw [if_neg c4] at H
   have c4b0 : decide (x9_1 < (l1.length : Int)) = false:=decide_eq_false c4
   clear c4
   obtain rfl:=Option.some.inj H
   go_wp2
   go_ret
   exact ⟨fe,h1 HB.out GE123.out⟩
  rw [if_pos c4] at H
  have c4b0 : decide (x9_1 < (l1.length : Int)) = true:=decide_eq_true c4
  clear c4
  by_cases c5 : 0 ≤ x9_1
  rotate_left
  ·rw [if_neg c5] at H
   exact absurd H (by simp)
  rw [if_pos c5] at H
  have c5b0 : decide (0 ≤ x9_1) = true:=decide_eq_true c5
  clear c5
  by_cases c6 : x9_1 < (l1.length : Int)
  rotate_left
  ·rw [if_neg c6] at H
   exact absurd H (by simp)
  rw [if_pos c6] at H
  have c6b0 : decide (x9_1 < (l1.length : Int)) = true:=decide_eq_true c6
  clear c6
  obtain ⟨y126,hy126⟩ : ∃ y_ : List Int,y_ = (([(rd_T59 l1 x9_1).f0] : List Int)):=⟨_,rfl⟩
  replace H : ((impl_Road_has.f k1 a0_0 a0_1 y126).bind fun t129=>(if t129 = true then ((impl_within.f ((rd_T59 l1 x9_1).f1) 0 12).bind fun t130=>(if t130 = true then (impl_Road_areSensors.l0 k1 l1 l1 (l1.length : Int) (wrap64 (x9_1 + 1)) a0_0 a0_1) else (some false))) else (some false))) = some r:=by first|(rw [hy126];with_reducible exact H)|(have H2_:=(Option.bind_some _ _).symm.trans H;rw [hy126];with_reducible exact H2_)|(have H2_:=(Option.bind_some _ _).symm.trans H;with_reducible exact H2_)|with_reducible exact H|(rw [hy126];exact H)|exact H
  have Ny126:=Aside0.mk hy126
  clear hy126
  replace H:=Option.bind_eq_some_iff.mp H
  obtain ⟨t129,A70,H⟩:=H
  (try dsimp only at H)
  have A7:=Aside0.mk A70
  clear A70
  by_cases c8 : t129 = true
  rotate_left
  ·replace c8:=Bool.eq_false_iff.mpr c8
   subst c8
   rw [if_neg (show ¬ (false = true) by decide)] at H
   obtain rfl:=Option.some.inj H
   have p124 : 0 ≤ (x9_1 : Int):=od
   have q124 : x9_1 < (l1.length : Int):=od
   obtain ⟨ad124,e124,hx124_0,hx124_1⟩:=at_T59 HR1.out x9_1 p124 q124
   cases e124
   replace hx124_0:=(HB.out.cell (World.block_lt_of_cell? w _ hx124_0)).trans hx124_0
   replace hx124_1:=(HB.out.cell (World.block_lt_of_cell? w _ hx124_1)).trans hx124_1
   replace p124:=eq_true p124
   replace q124:=eq_true q124
   go_wp2_with (first|((with_reducible refine gate_dst (N:=6) rfl ?_);refine box_event ?hg (N:=6) ?hd (cs:=#[.int .i64 0,.int .i64 0]) (t:=59) ?hr ?_;(case hd=>rfl);(case hg=>rfl);(case hr=>first|(go_simp;done)|(go_simp;rfl));intro gb125 hg w29 hbox hb;have BK125:=ak hbox;have GW125:=ak ((by rw [hg];exact (below_size (h1 HB.out GE123.out)) : w.heap.size ≤ gb125));have GE125:=ak ((by rw [hg];exact (below_size (h1 HB.out GE123.out)) : w.heap.size ≤ gb125));replace HB:=ak (below_step (h1 HB.out GE123.out) hb);have NB123_125:=ak ((by rw [hg];exact Nat.ne_of_lt (blk_lt (g:=gb123) (o:=.cells #[.int .i64 a0_0,.bool a0_1] 28 (0,0)) (bm BK123.out)) : gb123 ≠ gb125));have NB125_123:=ak ((by rw [hg];exact Nat.ne_of_gt (blk_lt (g:=gb123) (o:=.cells #[.int .i64 a0_0,.bool a0_1] 28 (0,0)) (bm BK123.out)) : gb125 ≠ gb123));replace BK123:=kb BK123 hb;clear hb hbox hg;have hnb30:=NB125_123.out;have hnc30:=NB123_125.out;have hcz31_0 : w29.cell? ⟨gb125,0,none⟩ = some (.int .i64 0):=(blk_cell BK125.out 0).trans rfl;have hcz31_1 : w29.cell? ⟨gb125,1,none⟩ = some (.int .i64 0):=(blk_cell BK125.out 1).trans rfl;have hfz31_0:=blk_frozen BK125.out 0;have hfz31_1:=blk_frozen BK125.out 1;have hcz32_0 : w29.cell? ⟨gb123,0,none⟩ = some (.int .i64 a0_0):=(blk_cell BK123.out 0).trans rfl;have hcz32_1 : w29.cell? ⟨gb123,1,none⟩ = some (.bool a0_1):=(blk_cell BK123.out 1).trans rfl;have hfz32_0:=blk_frozen BK123.out 0;have hfz32_1:=blk_frozen BK123.out 1)|((with_reducible refine gate_dst (N:=16) rfl ?_);refine R_lit (Kd.int .i64) _ 3 ?hg (N:=16) ?hd (xs:=([(rd_T59 l1 x9_1).f0] : List Int)) (inner:=[.int .i64 ((rd_T59 l1 x9_1).f0)]) (ok:=fun _=>True) (okp:=fun _=>True) ?hr ?hp (fun _ hk=>hk) trivial (Below.refl _ _) (Nat.le_refl _) (by simp) ?_;(case hd=>rfl);(case hg=>rfl);(case hr=>first|(go_simp;done)|(go_simp;rfl));(case hp=>exact (Reps.one (show Kd.M (Kd.int .i64) _ _ _ ((rd_T59 l1 x9_1).f0) [.int .i64 ((rd_T59 l1 x9_1).f0)] from rfl) (Reps.none _ _)));intro v127 w33 ho34 hb hg_ hnew_;clear hg_ hnew_;(first|rw [← Ny126.out] at ho34|(simp only [Int.reduceToNat] at ho34;rw [← Ny126.out] at ho34));have HO128:=ak (R_lower ho34 (below_size (h2 HB.out GE123.out GE125.out)));replace BK123:=ak (blk_below (g:=gb123) (o:=.cells #[.int .i64 a0_0,.bool a0_1] 28 (0,0)) (by (with_reducible repeat (first|apply blk_drewN|apply blk_drew|apply blk_alloc));refine blk_far ?_ NB123_125.out _;(with_reducible repeat (first|apply blk_drewN|apply blk_drew|apply blk_alloc));refine blk_far ?_ NB123_125.out _;exact bm BK123.out) hb);replace BK125:=ak (blk_below (g:=gb125) (o:=.cells #[.int .i64 ((rd_T59 l1 x9_1).f0),.int .i64 ((rd_T59 l1 x9_1).f1)] 59 (0,0)) (by (with_reducible repeat (first|apply blk_drewN|apply blk_drew|apply blk_alloc));refine blk_put (cs:=#[.int .i64 ((rd_T59 l1 x9_1).f0),.int .i64 0]) ?_ 1 _ rfl;(with_reducible repeat (first|apply blk_drewN|apply blk_drew|apply blk_alloc));refine blk_put (cs:=#[.int .i64 0,.int .i64 0]) ?_ 0 _ rfl;exact bm BK125.out) hb);replace HB:=ak (below_step (h2 HB.out GE123.out GE125.out) hb);clear hb ho34;obtain ⟨Ao35,co35,eo35⟩:=R_slice HO128.out;subst eo35)|((with_reducible refine gate_callee (f:=61) rfl ?_);refine goesL_ (some 17) rfl rfl Try.func61 (by kernel_rfl) rfl #[.agg #[.int .i64 a0_0,.bool a0_1],.slice Ao35 y126.length co35] rfl gl ?_;(with_reducible refine (impl_Road_has.calls k1 a0_0 a0_1 _ _ y126 false _ ?side1 ?side2 A7.out).mono ?_);(case side1=>exact cm (R_reads' HO128.out).2.2);(case side2=>exact (R_reads' HO128.out).2.1);rintro e w36 ⟨rfl,hb⟩;refine ⟨_,rfl,?_⟩;replace HO128:=rb HO128 hb;replace BK123:=kb BK123 hb;replace BK125:=kb BK125 hb;replace HB:=ak (below_step (h2 HB.out GE123.out GE125.out) hb);(try clear hb);(try clear hk);(try clear hi)))
   go_ret
   exact ⟨fe,h2 HB.out GE123.out GE125.out⟩
  subst c8
  rw [if_pos rfl] at H
  replace H:=Option.bind_eq_some_iff.mp H
  obtain ⟨t130,A90,H⟩:=H
  (try dsimp only at H)
  have A9:=Aside0.mk A90
  clear A90
  by_cases c10 : t130 = true
  rotate_left
  ·replace c10:=Bool.eq_false_iff.mpr c10
   subst c10
   rw [if_neg (show ¬ (false = true) by decide)] at H
   obtain rfl:=Option.some.inj H
   have p124 : 0 ≤ (x9_1 : Int):=od
   have q124 : x9_1 < (l1.length : Int):=od
   obtain ⟨ad124,e124,hx124_0,hx124_1⟩:=at_T59 HR1.out x9_1 p124 q124
   cases e124
   replace hx124_0:=(HB.out.cell (World.block_lt_of_cell? w _ hx124_0)).trans hx124_0
   replace hx124_1:=(HB.out.cell (World.block_lt_of_cell? w _ hx124_1)).trans hx124_1
   replace p124:=eq_true p124
   replace q124:=eq_true q124
   go_wp2_with (first|((with_reducible refine gate_dst (N:=6) rfl ?_);refine box_event ?hg (N:=6) ?hd (cs:=#[.int .i64 0,.int .i64 0]) (t:=59) ?hr ?_;(case hd=>rfl);(case hg=>rfl);(case hr=>first|(go_simp;done)|(go_simp;rfl));intro gb125 hg w20 hbox hb;have BK125:=ak hbox;have GW125:=ak ((by rw [hg];exact (below_size (h1 HB.out GE123.out)) : w.heap.size ≤ gb125));have GE125:=ak ((by rw [hg];exact (below_size (h1 HB.out GE123.out)) : w.heap.size ≤ gb125));replace HB:=ak (below_step (h1 HB.out GE123.out) hb);have NB123_125:=ak ((by rw [hg];exact Nat.ne_of_lt (blk_lt (g:=gb123) (o:=.cells #[.int .i64 a0_0,.bool a0_1] 28 (0,0)) (bm BK123.out)) : gb123 ≠ gb125));have NB125_123:=ak ((by rw [hg];exact Nat.ne_of_gt (blk_lt (g:=gb123) (o:=.cells #[.int .i64 a0_0,.bool a0_1] 28 (0,0)) (bm BK123.out)) : gb125 ≠ gb123));replace BK123:=kb BK123 hb;clear hb hbox hg;have hnb21:=NB125_123.out;have hnc21:=NB123_125.out;have hcz22_0 : w20.cell? ⟨gb125,0,none⟩ = some (.int .i64 0):=(blk_cell BK125.out 0).trans rfl;have hcz22_1 : w20.cell? ⟨gb125,1,none⟩ = some (.int .i64 0):=(blk_cell BK125.out 1).trans rfl;have hfz22_0:=blk_frozen BK125.out 0;have hfz22_1:=blk_frozen BK125.out 1;have hcz23_0 : w20.cell? ⟨gb123,0,none⟩ = some (.int .i64 a0_0):=(blk_cell BK123.out 0).trans rfl;have hcz23_1 : w20.cell? ⟨gb123,1,none⟩ = some (.bool a0_1):=(blk_cell BK123.out 1).trans rfl;have hfz23_0:=blk_frozen BK123.out 0;have hfz23_1:=blk_frozen BK123.out 1)|((with_reducible refine gate_dst (N:=16) rfl ?_);refine R_lit (Kd.int .i64) _ 3 ?hg (N:=16) ?hd (xs:=([(rd_T59 l1 x9_1).f0] : List Int)) (inner:=[.int .i64 ((rd_T59 l1 x9_1).f0)]) (ok:=fun _=>True) (okp:=fun _=>True) ?hr ?hp (fun _ hk=>hk) trivial (Below.refl _ _) (Nat.le_refl _) (by simp) ?_;(case hd=>rfl);(case hg=>rfl);(case hr=>first|(go_simp;done)|(go_simp;rfl));(case hp=>exact (Reps.one (show Kd.M (Kd.int .i64) _ _ _ ((rd_T59 l1 x9_1).f0) [.int .i64 ((rd_T59 l1 x9_1).f0)] from rfl) (Reps.none _ _)));intro v127 w24 ho25 hb hg_ hnew_;clear hg_ hnew_;(first|rw [← Ny126.out] at ho25|(simp only [Int.reduceToNat] at ho25;rw [← Ny126.out] at ho25));have HO128:=ak (R_lower ho25 (below_size (h2 HB.out GE123.out GE125.out)));replace BK123:=ak (blk_below (g:=gb123) (o:=.cells #[.int .i64 a0_0,.bool a0_1] 28 (0,0)) (by (with_reducible repeat (first|apply blk_drewN|apply blk_drew|apply blk_alloc));refine blk_far ?_ NB123_125.out _;(with_reducible repeat (first|apply blk_drewN|apply blk_drew|apply blk_alloc));refine blk_far ?_ NB123_125.out _;exact bm BK123.out) hb);replace BK125:=ak (blk_below (g:=gb125) (o:=.cells #[.int .i64 ((rd_T59 l1 x9_1).f0),.int .i64 ((rd_T59 l1 x9_1).f1)] 59 (0,0)) (by (with_reducible repeat (first|apply blk_drewN|apply blk_drew|apply blk_alloc));refine blk_put (cs:=#[.int .i64 ((rd_T59 l1 x9_1).f0),.int .i64 0]) ?_ 1 _ rfl;(with_reducible repeat (first|apply blk_drewN|apply blk_drew|apply blk_alloc));refine blk_put (cs:=#[.int .i64 0,.int .i64 0]) ?_ 0 _ rfl;exact bm BK125.out) hb);replace HB:=ak (below_step (h2 HB.out GE123.out GE125.out) hb);clear hb ho25;obtain ⟨Ao26,co26,eo26⟩:=R_slice HO128.out;subst eo26)|((with_reducible refine gate_callee (f:=61) rfl ?_);refine goesL_ (some 17) rfl rfl Try.func61 (by kernel_rfl) rfl #[.agg #[.int .i64 a0_0,.bool a0_1],.slice Ao26 y126.length co26] rfl gl ?_;(with_reducible refine (impl_Road_has.calls k1 a0_0 a0_1 _ _ y126 true _ ?side1 ?side2 A7.out).mono ?_);(case side1=>exact cm (R_reads' HO128.out).2.2);(case side2=>exact (R_reads' HO128.out).2.1);rintro e w27 ⟨rfl,hb⟩;refine ⟨_,rfl,?_⟩;replace HO128:=rb HO128 hb;replace BK123:=kb BK123 hb;replace BK125:=kb BK125 hb;replace HB:=ak (below_step (h2 HB.out GE123.out GE125.out) hb);(try clear hb);(try clear hk);(try clear hi);have hcz28_0 : w27.cell? ⟨gb125,0,none⟩ = some (.int .i64 ((rd_T59 l1 x9_1).f0)):=(blk_cell BK125.out 0).trans rfl;have hcz28_1 : w27.cell? ⟨gb125,1,none⟩ = some (.int .i64 ((rd_T59 l1 x9_1).f1)):=(blk_cell BK125.out 1).trans rfl;have hfz28_0:=blk_frozen BK125.out 0;have hfz28_1:=blk_frozen BK125.out 1)|(go_at_call 62;(with_reducible refine (impl_within.calls ((rd_T59 l1 x9_1).f1) 0 12 false _ A9.out).mono ?_);rintro e w' ⟨rfl,⟨nd,rfl⟩⟩))
   go_ret
   exact ⟨fe,h2 HB.out GE123.out GE125.out⟩
  subst c10
  rw [if_pos rfl] at H
  have H':=Aside0.mk H
  clear H
  have p124 : 0 ≤ (x9_1 : Int):=od
  have q124 : x9_1 < (l1.length : Int):=od
  obtain ⟨ad124,e124,hx124_0,hx124_1⟩:=at_T59 HR1.out x9_1 p124 q124
  cases e124
  replace hx124_0:=(HB.out.cell (World.block_lt_of_cell? w _ hx124_0)).trans hx124_0
  replace hx124_1:=(HB.out.cell (World.block_lt_of_cell? w _ hx124_1)).trans hx124_1
  replace p124:=eq_true p124
  replace q124:=eq_true q124
  go_wp2_with (first|((with_reducible refine gate_dst (N:=6) rfl ?_);refine box_event ?hg (N:=6) ?hd (cs:=#[.int .i64 0,.int .i64 0]) (t:=59) ?hr ?_;(case hd=>rfl);(case hg=>rfl);(case hr=>first|(go_simp;done)|(go_simp;rfl));intro gb125 hg w11 hbox hb;have BK125:=ak hbox;have GW125:=ak ((by rw [hg];exact (below_size (h1 HB.out GE123.out)) : w.heap.size ≤ gb125));have GE125:=ak ((by rw [hg];exact (below_size (h1 HB.out GE123.out)) : w.heap.size ≤ gb125));replace HB:=ak (below_step (h1 HB.out GE123.out) hb);have NB123_125:=ak ((by rw [hg];exact Nat.ne_of_lt (blk_lt (g:=gb123) (o:=.cells #[.int .i64 a0_0,.bool a0_1] 28 (0,0)) (bm BK123.out)) : gb123 ≠ gb125));have NB125_123:=ak ((by rw [hg];exact Nat.ne_of_gt (blk_lt (g:=gb123) (o:=.cells #[.int .i64 a0_0,.bool a0_1] 28 (0,0)) (bm BK123.out)) : gb125 ≠ gb123));replace BK123:=kb BK123 hb;clear hb hbox hg;have hnb12:=NB125_123.out;have hnc12:=NB123_125.out;have hcz13_0 : w11.cell? ⟨gb125,0,none⟩ = some (.int .i64 0):=(blk_cell BK125.out 0).trans rfl;have hcz13_1 : w11.cell? ⟨gb125,1,none⟩ = some (.int .i64 0):=(blk_cell BK125.out 1).trans rfl;have hfz13_0:=blk_frozen BK125.out 0;have hfz13_1:=blk_frozen BK125.out 1;have hcz14_0 : w11.cell? ⟨gb123,0,none⟩ = some (.int .i64 a0_0):=(blk_cell BK123.out 0).trans rfl;have hcz14_1 : w11.cell? ⟨gb123,1,none⟩ = some (.bool a0_1):=(blk_cell BK123.out 1).trans rfl;have hfz14_0:=blk_frozen BK123.out 0;have hfz14_1:=blk_frozen BK123.out 1)|((with_reducible refine gate_dst (N:=16) rfl ?_);refine R_lit (Kd.int .i64) _ 3 ?hg (N:=16) ?hd (xs:=([(rd_T59 l1 x9_1).f0] : List Int)) (inner:=[.int .i64 ((rd_T59 l1 x9_1).f0)]) (ok:=fun _=>True) (okp:=fun _=>True) ?hr ?hp (fun _ hk=>hk) trivial (Below.refl _ _) (Nat.le_refl _) (by simp) ?_;(case hd=>rfl);(case hg=>rfl);(case hr=>first|(go_simp;done)|(go_simp;rfl));(case hp=>exact (Reps.one (show Kd.M (Kd.int .i64) _ _ _ ((rd_T59 l1 x9_1).f0) [.int .i64 ((rd_T59 l1 x9_1).f0)] from rfl) (Reps.none _ _)));intro v127 w15 ho16 hb hg_ hnew_;clear hg_ hnew_;(first|rw [← Ny126.out] at ho16|(simp only [Int.reduceToNat] at ho16;rw [← Ny126.out] at ho16));have HO128:=ak (R_lower ho16 (below_size (h2 HB.out GE123.out GE125.out)));replace BK123:=ak (blk_below (g:=gb123) (o:=.cells #[.int .i64 a0_0,.bool a0_1] 28 (0,0)) (by (with_reducible repeat (first|apply blk_drewN|apply blk_drew|apply blk_alloc));refine blk_far ?_ NB123_125.out _;(with_reducible repeat (first|apply blk_drewN|apply blk_drew|apply blk_alloc));refine blk_far ?_ NB123_125.out _;exact bm BK123.out) hb);replace BK125:=ak (blk_below (g:=gb125) (o:=.cells #[.int .i64 ((rd_T59 l1 x9_1).f0),.int .i64 ((rd_T59 l1 x9_1).f1)] 59 (0,0)) (by (with_reducible repeat (first|apply blk_drewN|apply blk_drew|apply blk_alloc));refine blk_put (cs:=#[.int .i64 ((rd_T59 l1 x9_1).f0),.int .i64 0]) ?_ 1 _ rfl;(with_reducible repeat (first|apply blk_drewN|apply blk_drew|apply blk_alloc));refine blk_put (cs:=#[.int .i64 0,.int .i64 0]) ?_ 0 _ rfl;exact bm BK125.out) hb);replace HB:=ak (below_step (h2 HB.out GE123.out GE125.out) hb);clear hb ho16;obtain ⟨Ao17,co17,eo17⟩:=R_slice HO128.out;subst eo17)|((with_reducible refine gate_callee (f:=61) rfl ?_);refine goesL_ (some 17) rfl rfl Try.func61 (by kernel_rfl) rfl #[.agg #[.int .i64 a0_0,.bool a0_1],.slice Ao17 y126.length co17] rfl gl ?_;(with_reducible refine (impl_Road_has.calls k1 a0_0 a0_1 _ _ y126 true _ ?side1 ?side2 A7.out).mono ?_);(case side1=>exact cm (R_reads' HO128.out).2.2);(case side2=>exact (R_reads' HO128.out).2.1);rintro e w18 ⟨rfl,hb⟩;refine ⟨_,rfl,?_⟩;replace HO128:=rb HO128 hb;replace BK123:=kb BK123 hb;replace BK125:=kb BK125 hb;replace HB:=ak (below_step (h2 HB.out GE123.out GE125.out) hb);(try clear hb);(try clear hk);(try clear hi);have hcz19_0 : w18.cell? ⟨gb125,0,none⟩ = some (.int .i64 ((rd_T59 l1 x9_1).f0)):=(blk_cell BK125.out 0).trans rfl;have hcz19_1 : w18.cell? ⟨gb125,1,none⟩ = some (.int .i64 ((rd_T59 l1 x9_1).f1)):=(blk_cell BK125.out 1).trans rfl;have hfz19_0:=blk_frozen BK125.out 0;have hfz19_1:=blk_frozen BK125.out 1)|(go_at_call 62;(with_reducible refine (impl_within.calls ((rd_T59 l1 x9_1).f1) 0 12 true _ A9.out).mono ?_);rintro e w' ⟨rfl,⟨nd,rfl⟩⟩))
  go_roundg k1
  case measure=>have:=HK1.out;omega
  case rel=>exact ⟨(wrap64 (x9_1 + 1)),fd,H',⟨by have:=HK1.out;omega⟩,⟨bm BK123.out⟩,⟨h2 HB.out GE123.out GE125.out⟩⟩

/-! ### impl_AreSensors: function 14 -/
def impl_AreSensors.f (k : Nat) (a0_0 : Int) (a0_1 : Bool) (l1 : List (S59)) : Option (Bool × Bool):=(impl_isLine.f a0_0 a0_1).bind fun t132=>(if t132 = true then ((impl_Road_areSensors.f k a0_0 a0_1 l1).bind fun t133=>(some (t133,true))) else (some (false,false)))
theorem impl_AreSensors.mono : ∀ a0 a1 a2 k,LeO (impl_AreSensors.f k a0 a1 a2) (impl_AreSensors.f (k + 1) a0 a1 a2):=by
 intro a0 a1 a2 k
 unfold impl_AreSensors.f
 repeat' first
   | (with_reducible exact impl_Road_areSensors.mono _ _ _ _)
   | (with_reducible exact LeO.refl _)
   | (with_reducible exact LeO.none _)
   | (with_reducible refine LeO.ite ?_ ?_)
   | (with_reducible refine LeO.bind ?_ (fun _=>?_))
   | exact impl_Road_areSensors.mono _ _ _ _
   | exact LeO.none _
   | refine LeO.ite ?_ ?_
   | refine LeO.bind ?_ (fun _=>?_)
set_option maxHeartbeats 8000000 in
set_option maxRecDepth 100000 in
theorem impl_AreSensors.calls (k : Nat) (a0_0 : Int) (a0_1 : Bool) (A1 : Option Addr) (c1 : Nat) (l1 : List (S59)) (r1 : Bool) (r2 : Bool) (w : World) (hr1 : Kd.C k59 w A1 l1.length l1) (hc1 : l1.length ≤ c1) (h : impl_AreSensors.f k a0_0 a0_1 l1 = some (r1,r2)) :
  Calls Try.prog 14 #[.agg #[.int .i64 a0_0,.bool a0_1],.slice A1 l1.length c1] w fun e w'=>e = .returned (.tuple #[.bool r1,.bool r2]) ∧ Below w.heap.size w w':=by
 have hu28:=Try.underlying28
 have HR1:=Aside0.mk hr1
 have HC1:=Aside0.mk hc1
 clear hr1 hc1
 have HB:=Aside0.mk (Below.refl w.heap.size w)
 have H : ((impl_isLine.f a0_0 a0_1).bind fun t132=>(if t132 = true then ((impl_Road_areSensors.f k a0_0 a0_1 l1).bind fun t133=>(some (t133,true))) else (some (false,false)))) = some (r1,r2):=h
 clear h
 replace H:=Option.bind_eq_some_iff.mp H
 obtain ⟨t132,A30,H⟩:=H
 (try dsimp only at H)
 have A3:=Aside0.mk A30
 clear A30
 by_cases c4 : t132 = true
 rotate_left
 ·replace c4:=Bool.eq_false_iff.mpr c4
  subst c4
  rw [if_neg (show ¬ (false = true) by decide)] at H
  simp only [Option.some.injEq,Prod.mk.injEq] at H
  obtain ⟨rfl,rfl⟩:=H
  go_enter Try.func14,Try.ntmps14
  go_wp2_with (first|((with_reducible refine gate_dst (N:=2) rfl ?_);refine box_event ?hg (N:=2) ?hd (cs:=#[.int .i64 a0_0,.bool a0_1]) (t:=28) ?hr ?_;(case hd=>rfl);(case hg=>rfl);(case hr=>first|(go_simp;done)|(go_simp;rfl));intro gb131 hg w11 hbox hb;have BK131:=ak hbox;have GW131:=ak ((by rw [hg];exact (below_size (hm HB.out)) : w.heap.size ≤ gb131));have GE131:=ak ((by rw [hg];exact (below_size (hm HB.out)) : w.heap.size ≤ gb131));replace HB:=bs HB hb;clear hb hbox hg;have hcz12_0 : w11.cell? ⟨gb131,0,none⟩ = some (.int .i64 a0_0):=(blk_cell BK131.out 0).trans rfl;have hcz12_1 : w11.cell? ⟨gb131,1,none⟩ = some (.bool a0_1):=(blk_cell BK131.out 1).trans rfl;have hfz12_0:=blk_frozen BK131.out 0;have hfz12_1:=blk_frozen BK131.out 1)|((with_reducible refine gate_callee (f:=45) rfl ?_);refine goesL_ (some 7) rfl rfl Try.func45 (by kernel_rfl) rfl #[.agg #[.int .i64 a0_0,.bool a0_1]] rfl gl ?_;(with_reducible refine (impl_isLine.calls a0_0 a0_1 false _ A3.out).mono ?_);rintro e w13 ⟨rfl,hb⟩;refine ⟨_,rfl,?_⟩;replace BK131:=kb BK131 hb;replace HB:=ak (below_step (h1 HB.out GE131.out) hb);(try clear hb);(try clear hk);(try clear hi)))
  go_ret2
  exact ⟨fe,h1 HB.out GE131.out⟩
 subst c4
 rw [if_pos rfl] at H
 replace H:=Option.bind_eq_some_iff.mp H
 obtain ⟨t133,A50,H⟩:=H
 (try dsimp only at H)
 have A5:=Aside0.mk A50
 clear A50
 simp only [Option.some.injEq,Prod.mk.injEq] at H
 obtain ⟨rfl,rfl⟩:=H
 go_enter Try.func14,Try.ntmps14
 go_wp2_with (first|((with_reducible refine gate_dst (N:=2) rfl ?_);refine box_event ?hg (N:=2) ?hd (cs:=#[.int .i64 a0_0,.bool a0_1]) (t:=28) ?hr ?_;(case hd=>rfl);(case hg=>rfl);(case hr=>first|(go_simp;done)|(go_simp;rfl));intro gb131 hg w6 hbox hb;have BK131:=ak hbox;have GW131:=ak ((by rw [hg];exact (below_size (hm HB.out)) : w.heap.size ≤ gb131));have GE131:=ak ((by rw [hg];exact (below_size (hm HB.out)) : w.heap.size ≤ gb131));replace HB:=bs HB hb;clear hb hbox hg;have hcz7_0 : w6.cell? ⟨gb131,0,none⟩ = some (.int .i64 a0_0):=(blk_cell BK131.out 0).trans rfl;have hcz7_1 : w6.cell? ⟨gb131,1,none⟩ = some (.bool a0_1):=(blk_cell BK131.out 1).trans rfl;have hfz7_0:=blk_frozen BK131.out 0;have hfz7_1:=blk_frozen BK131.out 1)|((with_reducible refine gate_callee (f:=45) rfl ?_);refine goesL_ (some 7) rfl rfl Try.func45 (by kernel_rfl) rfl #[.agg #[.int .i64 a0_0,.bool a0_1]] rfl gl ?_;(with_reducible refine (impl_isLine.calls a0_0 a0_1 true _ A3.out).mono ?_);rintro e w8 ⟨rfl,hb⟩;refine ⟨_,rfl,?_⟩;replace BK131:=kb BK131 hb;replace HB:=ak (below_step (h1 HB.out GE131.out) hb);(try clear hb);(try clear hk);(try clear hi);have hcz9_0 : w8.cell? ⟨gb131,0,none⟩ = some (.int .i64 a0_0):=(blk_cell BK131.out 0).trans rfl;have hcz9_1 : w8.cell? ⟨gb131,1,none⟩ = some (.bool a0_1):=(blk_cell BK131.out 1).trans rfl;have hfz9_0:=blk_frozen BK131.out 0;have hfz9_1:=blk_frozen BK131.out 1)|((with_reducible refine gate_callee (f:=46) rfl ?_);refine goesL_ (some 11) rfl rfl Try.func46 (by kernel_rfl) rfl #[.agg #[.int .i64 a0_0,.bool a0_1],.slice A1 l1.length c1] rfl gl ?_;(with_reducible refine (impl_Road_areSensors.calls k a0_0 a0_1 _ _ l1 t133 _ ?side1 ?side2 A5.out).mono ?_);(case side1=>exact cm (C_below HR1.out HB.out));(case side2=>exact HC1.out);rintro e w10 ⟨rfl,hb⟩;refine ⟨_,rfl,?_⟩;replace BK131:=kb BK131 hb;replace HB:=ak (below_step (h1 HB.out GE131.out) hb);(try clear hb);(try clear hk);(try clear hi)))
 go_ret2
 exact ⟨fe,h1 HB.out GE131.out⟩


end
end Go.Proofs.Ytknfhoghimnieaa.QFnSensors
