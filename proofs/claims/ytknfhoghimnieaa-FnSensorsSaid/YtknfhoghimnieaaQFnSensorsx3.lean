/- Functions that the law FnSensors comes to, as Lean functions, with the proof that the Go code does what they say: written by a program of this session over the kit's print. No condition but those named. -/
import Derived.Test.YtknfhoghimnieaaQFnSensorsx0
namespace Go.Proofs.Ytknfhoghimnieaa.QFnSensors
open Go.RowKit Go.Proofs.YtknfhoghimnieaaW.PrintWords Go.Proofs.YtknfhoghimnieaaW.PrintLast Go.Proofs.YtknfhoghimnieaaW.PrintMore Go.Proofs.Ytknfhoghimnieaa.Short
attribute [local go_sem] max2_int min2_int max_two min_two max_three min_three max_four min_four   -- for this text's walks alone
set_option linter.unusedVariables false
set_option linter.unusedSimpArgs false

section
open Kd
/-! ### spec_l1In: function 58 -/
def spec_l1In.f (a0 : Int) (a1 : Int) (a2 : Int) : Option (Bool):=if a0 ≥ a1 then (some (decide (a0 ≤ a2))) else (some false)
set_option maxHeartbeats 8000000 in
set_option maxRecDepth 100000 in
theorem spec_l1In.calls (a0 : Int) (a1 : Int) (a2 : Int) (r : Bool) (w : World) (h : spec_l1In.f a0 a1 a2 = some r) :
  Calls Try.prog 58 #[.int .i64 a0,.int .i64 a1,.int .i64 a2] w fun e w'=>e = .returned (.bool r) ∧ Drawn0 w w':=by
 have H : (if a0 ≥ a1 then (some (decide (a0 ≤ a2))) else (some false)) = some r:=h
 clear h
 by_cases c4 : a0 ≥ a1
 ·rw [if_pos c4] at H
  have c4b0 : decide (a1 ≤ a0) = true:=decide_eq_true c4
  clear c4
  obtain rfl:=Option.some.inj H
  go_enter Try.func58,Try.ntmps58
  go_wp2
  go_ret
  exact ⟨by first|rfl|(simp;done)|(simp [*];done),by repeat (first|exact Drawn0.refl _|apply Drawn0.step)⟩
 rw [if_neg c4] at H
 have c4b0 : decide (a1 ≤ a0) = false:=decide_eq_false c4
 clear c4
 obtain rfl:=Option.some.inj H
 go_enter Try.func58,Try.ntmps58
 go_wp2
 go_ret
 exact ⟨by first|rfl|(simp;done)|(simp [*];done),by repeat (first|exact Drawn0.refl _|apply Drawn0.step)⟩

/-! ### spec_l2Road: function 42 -/
def spec_l2Road.f (a0_0 : Int) (a0_1 : Bool) : Option (Bool):=(spec_l1In.f a0_0 2 24).bind fun t102=>(if t102 = true then (if a0_1 = true then (some (decide (a0_0 > 2))) else (some true)) else (some false))
set_option maxHeartbeats 8000000 in
set_option maxRecDepth 100000 in
theorem spec_l2Road.calls (a0_0 : Int) (a0_1 : Bool) (r : Bool) (w : World) (h : spec_l2Road.f a0_0 a0_1 = some r) :
  Calls Try.prog 42 #[.agg #[.int .i64 a0_0,.bool a0_1]] w fun e w'=>e = .returned (.bool r) ∧ Below w.heap.size w w':=by
 have hu28:=Try.underlying28
 have HB:=Aside0.mk (Below.refl w.heap.size w)
 have H : ((spec_l1In.f a0_0 2 24).bind fun t102=>(if t102 = true then (if a0_1 = true then (some (decide (a0_0 > 2))) else (some true)) else (some false))) = some r:=h
 clear h
 replace H:=Option.bind_eq_some_iff.mp H
 obtain ⟨t102,A20,H⟩:=H
 (try dsimp only at H)
 have A2:=Aside0.mk A20
 clear A20
 by_cases c3 : t102 = true
 rotate_left
 ·replace c3:=Bool.eq_false_iff.mpr c3
  subst c3
  rw [if_neg (show ¬ (false = true) by decide)] at H
  obtain rfl:=Option.some.inj H
  go_enter Try.func42,Try.ntmps42
  go_wp2_with (first|((with_reducible refine gate_dst (N:=1) rfl ?_);refine box_event ?hg (N:=1) ?hd (cs:=#[.int .i64 a0_0,.bool a0_1]) (t:=28) ?hr ?_;(case hd=>rfl);(case hg=>rfl);(case hr=>first|(go_simp;done)|(go_simp;rfl));intro gb101 hg w9 hbox hb;have BK101:=ak hbox;have GW101:=ak ((by rw [hg];exact (below_size (hm HB.out)) : w.heap.size ≤ gb101));have GE101:=ak ((by rw [hg];exact (below_size (hm HB.out)) : w.heap.size ≤ gb101));replace HB:=bs HB hb;clear hb hbox hg;have hcz10_0 : w9.cell? ⟨gb101,0,none⟩ = some (.int .i64 a0_0):=(blk_cell BK101.out 0).trans rfl;have hcz10_1 : w9.cell? ⟨gb101,1,none⟩ = some (.bool a0_1):=(blk_cell BK101.out 1).trans rfl;have hfz10_0:=blk_frozen BK101.out 0;have hfz10_1:=blk_frozen BK101.out 1)|((with_reducible refine gate_callee (f:=58) rfl ?_);refine goesL_ (some 5) rfl rfl Try.func58 (by kernel_rfl) rfl #[.int .i64 a0_0,.int .i64 2,.int .i64 24] rfl gl ?_;(with_reducible refine (spec_l1In.calls a0_0 2 24 false _ A2.out).mono ?_);rintro e w' ⟨rfl,⟨nd,rfl⟩⟩;refine ⟨_,rfl,?_⟩))
  go_ret
  exact ⟨fe,h1 HB.out GE101.out⟩
 subst c3
 rw [if_pos rfl] at H
 by_cases c4 : a0_1 = true
 ·subst c4
  rw [if_pos rfl] at H
  obtain rfl:=Option.some.inj H
  go_enter Try.func42,Try.ntmps42
  go_wp2_with (first|((with_reducible refine gate_dst (N:=1) rfl ?_);refine box_event ?hg (N:=1) ?hd (cs:=#[.int .i64 a0_0,.bool true]) (t:=28) ?hr ?_;(case hd=>rfl);(case hg=>rfl);(case hr=>first|(go_simp;done)|(go_simp;rfl));intro gb101 hg w5 hbox hb;have BK101:=ak hbox;have GW101:=ak ((by rw [hg];exact (below_size (hm HB.out)) : w.heap.size ≤ gb101));have GE101:=ak ((by rw [hg];exact (below_size (hm HB.out)) : w.heap.size ≤ gb101));replace HB:=bs HB hb;clear hb hbox hg;have hcz6_0 : w5.cell? ⟨gb101,0,none⟩ = some (.int .i64 a0_0):=(blk_cell BK101.out 0).trans rfl;have hcz6_1 : w5.cell? ⟨gb101,1,none⟩ = some (.bool true):=(blk_cell BK101.out 1).trans rfl;have hfz6_0:=blk_frozen BK101.out 0;have hfz6_1:=blk_frozen BK101.out 1)|((with_reducible refine gate_callee (f:=58) rfl ?_);refine goesL_ (some 5) rfl rfl Try.func58 (by kernel_rfl) rfl #[.int .i64 a0_0,.int .i64 2,.int .i64 24] rfl gl ?_;(with_reducible refine (spec_l1In.calls a0_0 2 24 true _ A2.out).mono ?_);rintro e w' ⟨rfl,⟨nd,rfl⟩⟩;refine ⟨_,rfl,?_⟩))
  go_ret
  exact ⟨fe,h1 HB.out GE101.out⟩
 replace c4:=Bool.eq_false_iff.mpr c4
 subst c4
 rw [if_neg (show ¬ (false = true) by decide)] at H
 obtain rfl:=Option.some.inj H
 go_enter Try.func42,Try.ntmps42
 go_wp2_with (first|((with_reducible refine gate_dst (N:=1) rfl ?_);refine box_event ?hg (N:=1) ?hd (cs:=#[.int .i64 a0_0,.bool false]) (t:=28) ?hr ?_;(case hd=>rfl);(case hg=>rfl);(case hr=>first|(go_simp;done)|(go_simp;rfl));intro gb101 hg w7 hbox hb;have BK101:=ak hbox;have GW101:=ak ((by rw [hg];exact (below_size (hm HB.out)) : w.heap.size ≤ gb101));have GE101:=ak ((by rw [hg];exact (below_size (hm HB.out)) : w.heap.size ≤ gb101));replace HB:=bs HB hb;clear hb hbox hg;have hcz8_0 : w7.cell? ⟨gb101,0,none⟩ = some (.int .i64 a0_0):=(blk_cell BK101.out 0).trans rfl;have hcz8_1 : w7.cell? ⟨gb101,1,none⟩ = some (.bool false):=(blk_cell BK101.out 1).trans rfl;have hfz8_0:=blk_frozen BK101.out 0;have hfz8_1:=blk_frozen BK101.out 1)|((with_reducible refine gate_callee (f:=58) rfl ?_);refine goesL_ (some 5) rfl rfl Try.func58 (by kernel_rfl) rfl #[.int .i64 a0_0,.int .i64 2,.int .i64 24] rfl gl ?_;(with_reducible refine (spec_l1In.calls a0_0 2 24 true _ A2.out).mono ?_);rintro e w' ⟨rfl,⟨nd,rfl⟩⟩;refine ⟨_,rfl,?_⟩))
 go_ret
 exact ⟨fe,h1 HB.out GE101.out⟩

/-! ### spec_l3Line: function 59 -/
def spec_l3Line.f (a0_0 : Int) (a0_1 : Bool) (a1 : Int) : Option (Bool):=(spec_l2Road.f a0_0 a0_1).bind fun t104=>(if t104 = true then (if a0_1 = true then (some false) else ((spec_l1In.f a1 0 (wrap64 (a0_0 - 1))).bind fun t105=>(some t105))) else (some false))
set_option maxHeartbeats 8000000 in
set_option maxRecDepth 100000 in
theorem spec_l3Line.calls (a0_0 : Int) (a0_1 : Bool) (a1 : Int) (r : Bool) (w : World) (h : spec_l3Line.f a0_0 a0_1 a1 = some r) :
  Calls Try.prog 59 #[.agg #[.int .i64 a0_0,.bool a0_1],.int .i64 a1] w fun e w'=>e = .returned (.bool r) ∧ Below w.heap.size w w':=by
 have hu28:=Try.underlying28
 have HB:=Aside0.mk (Below.refl w.heap.size w)
 have H : ((spec_l2Road.f a0_0 a0_1).bind fun t104=>(if t104 = true then (if a0_1 = true then (some false) else ((spec_l1In.f a1 0 (wrap64 (a0_0 - 1))).bind fun t105=>(some t105))) else (some false))) = some r:=h
 clear h
 replace H:=Option.bind_eq_some_iff.mp H
 obtain ⟨t104,A30,H⟩:=H
 (try dsimp only at H)
 have A3:=Aside0.mk A30
 clear A30
 by_cases c4 : t104 = true
 rotate_left
 ·replace c4:=Bool.eq_false_iff.mpr c4
  subst c4
  rw [if_neg (show ¬ (false = true) by decide)] at H
  obtain rfl:=Option.some.inj H
  go_enter Try.func59,Try.ntmps59
  go_wp2_with (first|((with_reducible refine gate_dst (N:=2) rfl ?_);refine box_event ?hg (N:=2) ?hd (cs:=#[.int .i64 a0_0,.bool a0_1]) (t:=28) ?hr ?_;(case hd=>rfl);(case hg=>rfl);(case hr=>first|(go_simp;done)|(go_simp;rfl));intro gb103 hg w15 hbox hb;have BK103:=ak hbox;have GW103:=ak ((by rw [hg];exact (below_size (hm HB.out)) : w.heap.size ≤ gb103));have GE103:=ak ((by rw [hg];exact (below_size (hm HB.out)) : w.heap.size ≤ gb103));replace HB:=bs HB hb;clear hb hbox hg;have hcz16_0 : w15.cell? ⟨gb103,0,none⟩ = some (.int .i64 a0_0):=(blk_cell BK103.out 0).trans rfl;have hcz16_1 : w15.cell? ⟨gb103,1,none⟩ = some (.bool a0_1):=(blk_cell BK103.out 1).trans rfl;have hfz16_0:=blk_frozen BK103.out 0;have hfz16_1:=blk_frozen BK103.out 1)|((with_reducible refine gate_callee (f:=42) rfl ?_);refine goesL_ (some 6) rfl rfl Try.func42 (by kernel_rfl) rfl #[.agg #[.int .i64 a0_0,.bool a0_1]] rfl gl ?_;(with_reducible refine (spec_l2Road.calls a0_0 a0_1 false _ A3.out).mono ?_);rintro e w17 ⟨rfl,hb⟩;refine ⟨_,rfl,?_⟩;replace BK103:=kb BK103 hb;replace HB:=ak (below_step (h1 HB.out GE103.out) hb);(try clear hb);(try clear hk);(try clear hi)))
  go_ret
  exact ⟨fe,h1 HB.out GE103.out⟩
 subst c4
 rw [if_pos rfl] at H
 by_cases c5 : a0_1 = true
 ·subst c5
  rw [if_pos rfl] at H
  obtain rfl:=Option.some.inj H
  go_enter Try.func59,Try.ntmps59
  go_wp2_with (first|((with_reducible refine gate_dst (N:=2) rfl ?_);refine box_event ?hg (N:=2) ?hd (cs:=#[.int .i64 a0_0,.bool true]) (t:=28) ?hr ?_;(case hd=>rfl);(case hg=>rfl);(case hr=>first|(go_simp;done)|(go_simp;rfl));intro gb103 hg w6 hbox hb;have BK103:=ak hbox;have GW103:=ak ((by rw [hg];exact (below_size (hm HB.out)) : w.heap.size ≤ gb103));have GE103:=ak ((by rw [hg];exact (below_size (hm HB.out)) : w.heap.size ≤ gb103));replace HB:=bs HB hb;clear hb hbox hg;have hcz7_0 : w6.cell? ⟨gb103,0,none⟩ = some (.int .i64 a0_0):=(blk_cell BK103.out 0).trans rfl;have hcz7_1 : w6.cell? ⟨gb103,1,none⟩ = some (.bool true):=(blk_cell BK103.out 1).trans rfl;have hfz7_0:=blk_frozen BK103.out 0;have hfz7_1:=blk_frozen BK103.out 1)|((with_reducible refine gate_callee (f:=42) rfl ?_);refine goesL_ (some 6) rfl rfl Try.func42 (by kernel_rfl) rfl #[.agg #[.int .i64 a0_0,.bool true]] rfl gl ?_;(with_reducible refine (spec_l2Road.calls a0_0 true true _ A3.out).mono ?_);rintro e w8 ⟨rfl,hb⟩;refine ⟨_,rfl,?_⟩;replace BK103:=kb BK103 hb;replace HB:=ak (below_step (h1 HB.out GE103.out) hb);(try clear hb);(try clear hk);(try clear hi);have hcz9_0 : w8.cell? ⟨gb103,0,none⟩ = some (.int .i64 a0_0):=(blk_cell BK103.out 0).trans rfl;have hcz9_1 : w8.cell? ⟨gb103,1,none⟩ = some (.bool true):=(blk_cell BK103.out 1).trans rfl;have hfz9_0:=blk_frozen BK103.out 0;have hfz9_1:=blk_frozen BK103.out 1))
  go_ret
  exact ⟨fe,h1 HB.out GE103.out⟩
 replace c5:=Bool.eq_false_iff.mpr c5
 subst c5
 rw [if_neg (show ¬ (false = true) by decide)] at H
 replace H:=Option.bind_eq_some_iff.mp H
 obtain ⟨t105,A100,H⟩:=H
 (try dsimp only at H)
 have A10:=Aside0.mk A100
 clear A100
 obtain rfl:=Option.some.inj H
 go_enter Try.func59,Try.ntmps59
 go_wp2_with (first|((with_reducible refine gate_dst (N:=2) rfl ?_);refine box_event ?hg (N:=2) ?hd (cs:=#[.int .i64 a0_0,.bool false]) (t:=28) ?hr ?_;(case hd=>rfl);(case hg=>rfl);(case hr=>first|(go_simp;done)|(go_simp;rfl));intro gb103 hg w11 hbox hb;have BK103:=ak hbox;have GW103:=ak ((by rw [hg];exact (below_size (hm HB.out)) : w.heap.size ≤ gb103));have GE103:=ak ((by rw [hg];exact (below_size (hm HB.out)) : w.heap.size ≤ gb103));replace HB:=bs HB hb;clear hb hbox hg;have hcz12_0 : w11.cell? ⟨gb103,0,none⟩ = some (.int .i64 a0_0):=(blk_cell BK103.out 0).trans rfl;have hcz12_1 : w11.cell? ⟨gb103,1,none⟩ = some (.bool false):=(blk_cell BK103.out 1).trans rfl;have hfz12_0:=blk_frozen BK103.out 0;have hfz12_1:=blk_frozen BK103.out 1)|((with_reducible refine gate_callee (f:=42) rfl ?_);refine goesL_ (some 6) rfl rfl Try.func42 (by kernel_rfl) rfl #[.agg #[.int .i64 a0_0,.bool false]] rfl gl ?_;(with_reducible refine (spec_l2Road.calls a0_0 false true _ A3.out).mono ?_);rintro e w13 ⟨rfl,hb⟩;refine ⟨_,rfl,?_⟩;replace BK103:=kb BK103 hb;replace HB:=ak (below_step (h1 HB.out GE103.out) hb);(try clear hb);(try clear hk);(try clear hi);have hcz14_0 : w13.cell? ⟨gb103,0,none⟩ = some (.int .i64 a0_0):=(blk_cell BK103.out 0).trans rfl;have hcz14_1 : w13.cell? ⟨gb103,1,none⟩ = some (.bool false):=(blk_cell BK103.out 1).trans rfl;have hfz14_0:=blk_frozen BK103.out 0;have hfz14_1:=blk_frozen BK103.out 1)|(go_at_call 58;(try simp only [Go.IntWalk.i64_left]);(with_reducible refine (spec_l1In.calls a1 0 (wrap64 (a0_0 - 1)) t105 _ A10.out).mono ?_);rintro e w' ⟨rfl,⟨nd,rfl⟩⟩))
 go_ret
 exact ⟨fe,h1 HB.out GE103.out⟩

/-! ### spec_l9Sensors: function 43 -/
def spec_l9Sensors.l0 : Nat → List (S59) → Int → Int → Bool → Option (Bool)
 | 0,_,_,_,_=>none
 | k + 1,x1,x5,x107000,x107001=>if x5 < (x1.length : Int) then (if 0 ≤ x5 then ((spec_l3Line.f x107000 x107001 ((rd_T59 x1 x5).f0)).bind fun t109=>(if t109 = true then ((spec_l1In.f ((rd_T59 x1 x5).f1) 0 12).bind fun t111=>(if t111 = true then (spec_l9Sensors.l0 k x1 (wrap64 (x5 + 1)) x107000 x107001) else (some false))) else (some false))) else (none)) else ((spec_l2Road.f x107000 x107001).bind fun t107=>(if t107 = true then (if x107001 = true then (some false) else (some (decide ((x1.length : Int) ≤ 6)))) else (some false)))
def spec_l9Sensors.f (k : Nat) (a0_0 : Int) (a0_1 : Bool) (l1 : List (S59)) : Option (Bool):=spec_l9Sensors.l0 k l1 0 a0_0 a0_1
theorem spec_l9Sensors.mono_l : ∀ k,(∀ y0 y1 y2 y3,LeO (spec_l9Sensors.l0 k y0 y1 y2 y3) (spec_l9Sensors.l0 (k + 1) y0 y1 y2 y3))
 | 0=>by
  refine ?_<;>(intros;intro r h;simp [spec_l9Sensors.l0] at h)
 | k + 1=>by
  have ih0:=spec_l9Sensors.mono_l k
  refine ?_<;>intros<;>(first|unfold spec_l9Sensors.l0)<;>(repeat' first|(with_reducible exact ih0 ..)|(with_reducible exact LeO.refl _)|(with_reducible exact LeO.none _)|(with_reducible refine LeO.ite ?_ ?_)|(with_reducible refine LeO.bind ?_ (fun _=>?_))|exact ih0 ..|exact LeO.none _|refine LeO.ite ?_ ?_|refine LeO.bind ?_ (fun _=>?_))
theorem spec_l9Sensors.mono : ∀ a0 a1 a2 k,LeO (spec_l9Sensors.f k a0 a1 a2) (spec_l9Sensors.f (k + 1) a0 a1 a2):=by
 intro a0 a1 a2 k
 have ih0:=spec_l9Sensors.mono_l k
 unfold spec_l9Sensors.f
 repeat' first
   | (with_reducible exact ih0 _ _ _ _)
   | (with_reducible exact LeO.refl _)
   | (with_reducible exact LeO.none _)
   | (with_reducible refine LeO.ite ?_ ?_)
   | (with_reducible refine LeO.bind ?_ (fun _=>?_))
   | exact ih0 _ _ _ _
   | exact LeO.none _
   | refine LeO.ite ?_ ?_
   | refine LeO.bind ?_ (fun _=>?_)
def spec_l9Sensors.T4 : Bool × List (List Nat × List Nat):=(true,[([],[]),([],[]),([],[]),([1,2],[1,2]),([3],[3]),([4],[4]),([0,5],[0,5]),([6],[6]),([7,6],[7]),([8],[8]),([8],[8]),([9,10,8],[8,9,10]),([11,8],[8,11]),([12,8],[8,12]),([13,8,8],[8,13]),([14,8],[8,14]),([8,15],[8,15])])
def spec_l9Sensors.B4 : List Nat:=[0,0,0,6,14,30,63,127,255,511,511,2047,4095,8191,16383,32767,65535]
theorem spec_l9Sensors.tab4 : rtab .any (opsOf Try.f43 4) = spec_l9Sensors.T4:=by kernel_rfl
theorem spec_l9Sensors.bits4 : waitsOk spec_l9Sensors.T4.2 spec_l9Sensors.B4 = true:=by kernel_rfl
set_option maxHeartbeats 8000000 in
set_option maxRecDepth 100000 in
theorem spec_l9Sensors.calls (k : Nat) (a0_0 : Int) (a0_1 : Bool) (A1 : Option Addr) (c1 : Nat) (l1 : List (S59)) (r : Bool) (w : World) (hr1 : Kd.C k59 w A1 l1.length l1) (hc1 : l1.length ≤ c1) (h : spec_l9Sensors.f k a0_0 a0_1 l1 = some r) :
  Calls Try.prog 43 #[.agg #[.int .i64 a0_0,.bool a0_1],.slice A1 l1.length c1] w fun e w'=>e = .returned (.bool r) ∧ Below w.heap.size w w':=by
 have hu28:=Try.underlying28
 have HR1:=Aside0.mk hr1
 have HC1:=Aside0.mk hc1
 clear hr1 hc1
 have HB:=Aside0.mk (Below.refl w.heap.size w)
 have H : (spec_l9Sensors.l0 k l1 0 a0_0 a0_1) = some r:=h
 clear h
 have H':=Aside0.mk H
 clear H
 go_enter Try.func43,Try.ntmps43
 go_wp2_with (first|((with_reducible refine gate_dst (N:=2) rfl ?_);(try (refine gate_guard (by rfl) ?_;dsimp only));refine box_event ?hg (N:=2) ?hd (cs:=#[.int .i64 a0_0,.bool a0_1]) (t:=28) ?hr ?_;(case hd=>rfl);(case hg=>rfl);(case hr=>first|(go_simp;done)|(go_simp;rfl));intro gb106 hg w3 hbox hb;have BK106:=ak hbox;have GW106:=ak ((by rw [hg];exact (below_size (hm HB.out)) : w.heap.size ≤ gb106));have GE106:=ak ((by rw [hg];exact (below_size (hm HB.out)) : w.heap.size ≤ gb106));replace HB:=bs HB hb;clear hb hbox hg))
 go_loopg [5] k (fun kq v5 w'=>∃ (x5_1 : Int),v5 = .int .i64 x5_1 ∧ Aside0 (spec_l9Sensors.l0 kq l1 x5_1 a0_0 a0_1 = some r) ∧ Aside0 (kq ≤ k) ∧ Aside0 (w'.heap[gb106]? = some (.cells #[.int .i64 a0_0,.bool a0_1] 28 (0,0))) ∧ Aside0 (Below w.heap.size w w'))
 case atStart=>exact ⟨(0),fd,H',⟨Nat.le_refl _⟩,⟨bm BK106.out⟩,⟨h1 HB.out GE106.out⟩⟩
 clear H'
 try clear c1
 try clear p2
 obtain ⟨x5_1,rfl,HA,HK1,BK106,HB⟩:=hrel
 cases gk with
 | zero=>exact absurd HA.out (by simp [spec_l9Sensors.l0])
 | succ k1 =>
  have H:=HA.out
  clear HA
  simp only [spec_l9Sensors.l0] at H
  by_cases c4 : x5_1 < (l1.length : Int)
  rotate_left
  ·rw [if_neg c4] at H
   have c4b0 : decide (x5_1 < (l1.length : Int)) = false:=decide_eq_false c4
   clear c4
   replace H:=Option.bind_eq_some_iff.mp H
   obtain ⟨t107,A160,H⟩:=H
   (try dsimp only at H)
   have A16:=Aside0.mk A160
   clear A160
   by_cases c17 : t107 = true
   rotate_left
   ·replace c17:=Bool.eq_false_iff.mpr c17
    subst c17
    rw [if_neg (show ¬ (false = true) by decide)] at H
    obtain rfl:=Option.some.inj H
    have hcz25_0 : wr.cell? ⟨gb106,0,none⟩ = some (.int .i64 a0_0):=(blk_cell BK106.out 0).trans rfl
    have hcz25_1 : wr.cell? ⟨gb106,1,none⟩ = some (.bool a0_1):=(blk_cell BK106.out 1).trans rfl
    have hfz25_0:=blk_frozen BK106.out 0
    have hfz25_1:=blk_frozen BK106.out 1
    go_wp2_with (first|((with_reducible refine gate_callee (f:=42) rfl ?_);refine goesL_ (some 30) rfl rfl Try.func42 (by kernel_rfl) rfl #[.agg #[.int .i64 a0_0,.bool a0_1]] rfl gl ?_;(with_reducible refine (spec_l2Road.calls a0_0 a0_1 false _ A16.out).mono ?_);rintro e w26 ⟨rfl,hb⟩;refine ⟨_,rfl,?_⟩;replace BK106:=kb BK106 hb;replace HB:=ak (below_step (h1 HB.out GE106.out) hb);(try clear hb);(try clear hk);(try clear hi)))
    go_ret
    exact ⟨fe,h1 HB.out GE106.out⟩
   subst c17
   rw [if_pos rfl] at H
   by_cases c18 : a0_1 = true
   ·subst c18
    rw [if_pos rfl] at H
    obtain rfl:=Option.some.inj H
    have hcz19_0 : wr.cell? ⟨gb106,0,none⟩ = some (.int .i64 a0_0):=(blk_cell BK106.out 0).trans rfl
    have hcz19_1 : wr.cell? ⟨gb106,1,none⟩ = some (.bool true):=(blk_cell BK106.out 1).trans rfl
    have hfz19_0:=blk_frozen BK106.out 0
    have hfz19_1:=blk_frozen BK106.out 1
    go_wp2_with (first|((with_reducible refine gate_callee (f:=42) rfl ?_);refine goesL_ (some 30) rfl rfl Try.func42 (by kernel_rfl) rfl #[.agg #[.int .i64 a0_0,.bool true]] rfl gl ?_;(with_reducible refine (spec_l2Road.calls a0_0 true true _ A16.out).mono ?_);rintro e w20 ⟨rfl,hb⟩;refine ⟨_,rfl,?_⟩;replace BK106:=kb BK106 hb;replace HB:=ak (below_step (h1 HB.out GE106.out) hb);(try clear hb);(try clear hk);(try clear hi);have hcz21_0 : w20.cell? ⟨gb106,0,none⟩ = some (.int .i64 a0_0):=(blk_cell BK106.out 0).trans rfl;have hcz21_1 : w20.cell? ⟨gb106,1,none⟩ = some (.bool true):=(blk_cell BK106.out 1).trans rfl;have hfz21_0:=blk_frozen BK106.out 0;have hfz21_1:=blk_frozen BK106.out 1))
    go_ret
    exact ⟨fe,h1 HB.out GE106.out⟩
   replace c18:=Bool.eq_false_iff.mpr c18
   subst c18
   rw [if_neg (show ¬ (false = true) by decide)] at H
   obtain rfl:=Option.some.inj H
   have hcz22_0 : wr.cell? ⟨gb106,0,none⟩ = some (.int .i64 a0_0):=(blk_cell BK106.out 0).trans rfl
   have hcz22_1 : wr.cell? ⟨gb106,1,none⟩ = some (.bool false):=(blk_cell BK106.out 1).trans rfl
   have hfz22_0:=blk_frozen BK106.out 0
   have hfz22_1:=blk_frozen BK106.out 1
   go_wp2_with (first|((with_reducible refine gate_callee (f:=42) rfl ?_);refine goesL_ (some 30) rfl rfl Try.func42 (by kernel_rfl) rfl #[.agg #[.int .i64 a0_0,.bool false]] rfl gl ?_;(with_reducible refine (spec_l2Road.calls a0_0 false true _ A16.out).mono ?_);rintro e w23 ⟨rfl,hb⟩;refine ⟨_,rfl,?_⟩;replace BK106:=kb BK106 hb;replace HB:=ak (below_step (h1 HB.out GE106.out) hb);(try clear hb);(try clear hk);(try clear hi);have hcz24_0 : w23.cell? ⟨gb106,0,none⟩ = some (.int .i64 a0_0):=(blk_cell BK106.out 0).trans rfl;have hcz24_1 : w23.cell? ⟨gb106,1,none⟩ = some (.bool false):=(blk_cell BK106.out 1).trans rfl;have hfz24_0:=blk_frozen BK106.out 0;have hfz24_1:=blk_frozen BK106.out 1))
   go_ret
   exact ⟨fe,h1 HB.out GE106.out⟩
  rw [if_pos c4] at H
  have c4b0 : decide (x5_1 < (l1.length : Int)) = true:=decide_eq_true c4
  clear c4
  by_cases c5 : 0 ≤ x5_1
  rotate_left
  ·rw [if_neg c5] at H
   exact absurd H (by simp)
  rw [if_pos c5] at H
  have c5b0 : decide (0 ≤ x5_1) = true:=decide_eq_true c5
  clear c5
  replace H:=Option.bind_eq_some_iff.mp H
  obtain ⟨t109,A60,H⟩:=H
  (try dsimp only at H)
  have A6:=Aside0.mk A60
  clear A60
  by_cases c7 : t109 = true
  rotate_left
  ·replace c7:=Bool.eq_false_iff.mpr c7
   subst c7
   rw [if_neg (show ¬ (false = true) by decide)] at H
   obtain rfl:=Option.some.inj H
   try go_wp2
   replace BK106:=ak (blk_drew BK106.out)
   replace HB:=ak (below_drew1 HB.out)
   have p108 : 0 ≤ (x5_1 : Int):=od
   have q108 : x5_1 < (l1.length : Int):=od
   obtain ⟨ad108,e108,hx108_0,hx108_1⟩:=at_T59 HR1.out x5_1 p108 q108
   have hw108_1:=hx108_1
   have hw108_0:=hx108_0
   cases e108
   replace hx108_0:=(HB.out.cell (World.block_lt_of_cell? w _ hx108_0)).trans hx108_0
   replace hx108_1:=(HB.out.cell (World.block_lt_of_cell? w _ hx108_1)).trans hx108_1
   replace p108:=eq_true p108
   replace q108:=eq_true q108
   refine start_ (n:=17) (S:=fun w'=>w'.cell? ⟨gb106,0,none⟩ = some (.int .i64 a0_0) ∧ w'.cell? ⟨gb106,1,none⟩ = some (.bool a0_1) ∧ w'.cell? (ad108.add ((x5_1).toNat * 2)) = some (.int .i64 ((rd_T59 l1 x5_1).f0)) ∧ w'.cell? ⟨(ad108.add ((x5_1).toNat * 2)).block,(ad108.add ((x5_1).toNat * 2)).off + 1,none⟩ = some (.int .i64 ((rd_T59 l1 x5_1).f1))) (ds:=[]) (lb 17 0) (by kernel_rfl) rfl rfl ⟨(blk_cell BK106.out 0).trans rfl,(blk_cell BK106.out 1).trans rfl,((HB.out.cell (World.block_lt_of_cell? w _ hw108_0)).trans hw108_0),((HB.out.cell (World.block_lt_of_cell? w _ hw108_1)).trans hw108_1)⟩ (fun hHeld=>?_);refine with_tabW spec_l9Sensors.tab4 spec_l9Sensors.bits4 (fun HT_ HW_=>?_)
   generalize wr.drew = w14 at BK106 HB hx108_0 hx108_1 hHeld ⊢
   refine pu 1 (N:=some 13) (v:=?_) (a':=?_) (lb 17 2) HT_ (by kernel_rfl) rfl rfl rfl (fun _ _ _ h=>h) ?_ ?_ ?_
   rotate_left
   ·intro w'
    go_simp
    with_reducible rfl
   rotate_left
   ·simp only [ap]
    rfl
   refine pu 2 (N:=some 14) (v:=?_) (a':=?_) (lb 17 6) HT_ (by kernel_rfl) rfl rfl rfl (fun _ _ _ h=>h) ?_ ?_ ?_
   rotate_left
   ·intro w'
    go_simp
    with_reducible rfl
   rotate_left
   ·simp only [ap]
    rfl
   refine pu 3 (N:=some 15) (v:=?_) (a':=?_) (lb 17 14) HT_ (by kernel_rfl) rfl rfl rfl (fun _ _ _ h=>h) ?_ ?_ ?_
   rotate_left
   ·intro w'
    go_simp
    with_reducible rfl
   rotate_left
   ·simp only [ap]
    rfl
   refine pu 4 (N:=some 16) (v:=?_) (a':=?_) (lb 17 30) HT_ (by kernel_rfl) rfl rfl rfl (fun _ _ _ h=>h) ?_ ?_ ?_
   rotate_left
   ·intro w'
    go_simp
    with_reducible rfl
   rotate_left
   ·simp only [ap]
    rfl
   refine take_ (i:=0) (N:=some 12) (v:=?_) (a':=?_) (lb 17 31) rfl rfl (take_ofW HT_.out HW_.out (by kernel_rfl)) (fun _ _ _ h=>h) (Or.inl ⟨by rfl,?_⟩) hHeld ?_ ?_
   rotate_left
   ·rintro w' ⟨s0,s1,s2,s3⟩
    go_simp
    with_reducible rfl
   rotate_left
   ·simp only [ap]
    rfl
   refine take_ (i:=5) (N:=some 17) (v:=?_) (a':=?_) (lb 17 63) rfl rfl (take_ofW HT_.out HW_.out (by kernel_rfl)) (fun _ _ _ h=>h) (Or.inl ⟨by rfl,?_⟩) hHeld ?_ ?_
   rotate_left
   ·rintro w' ⟨s0,s1,s2,s3⟩
    go_simp
    with_reducible rfl
   rotate_left
   ·simp only [ap]
    rfl
   refine one_ (i:=6) (N:=some 18) (lb 17 127) rfl rfl (one_of HT_.out (by kernel_rfl)) (by decide) (fun K hK=>?_)
   refine goes_ Try.func59 (by kernel_rfl) rfl #[.agg #[.int .i64 a0_0,.bool a0_1],.int .i64 ((rd_T59 l1 x5_1).f0)] (by rfl) rfl rfl gl ?_
   with_reducible refine (spec_l3Line.calls a0_0 a0_1 ((rd_T59 l1 x5_1).f0) false _ A6.out).mono ?_
   rintro e w15 ⟨rfl,hb⟩
   refine ⟨_,rfl,?_⟩
   replace BK106:=kb BK106 hb
   replace HB:=ak (below_step (h1 HB.out GE106.out) hb)
   (try clear hb)
   (try clear hb2)
   (try clear hk)
   (try clear hi)
   refine hK.out _ _ ⟨(blk_cell BK106.out 0).trans rfl,(blk_cell BK106.out 1).trans rfl,((HB.out.cell (World.block_lt_of_cell? w _ hw108_0)).trans hw108_0),((HB.out.cell (World.block_lt_of_cell? w _ hw108_1)).trans hw108_1)⟩ (fun hHeld=>?_)
   clear hK K
   refine norm_ (a':=?_) ?_ ?_
   rotate_left
   ·show Act.put _ (some 18) _ = _
    simp only [ap]
    rfl
   refine pu 7 (N:=some 19) (v:=?_) (a':=?_) (lb 17 255) HT_ (by kernel_rfl) rfl rfl rfl (fun _ _ _ h=>h) ?_ ?_ ?_
   rotate_left
   ·intro w'
    go_simp
    with_reducible rfl
   rotate_left
   ·simp only [ap]
    rfl
   refine pu 8 (N:=some 20) (v:=?_) (a':=?_) (lb 17 511) HT_ (by kernel_rfl) rfl rfl rfl (fun _ _ _ h=>h) ?_ ?_ ?_
   rotate_left
   ·intro w'
    go_simp
    with_reducible rfl
   rotate_left
   ·simp only [ap]
    rfl
   refine pure_ (i:=9) (N:=some 21) (v:=undef) (a':=?_) (lb 17 1023) rfl rfl (any_of HT_.out (by kernel_rfl)) (fun _ _ _ h=>h) (Or.inr ⟨by rfl,rfl⟩) ?_ ?_
   rotate_left
   ·simp only [ap]
    rfl
   refine pure_ (i:=10) (N:=some 22) (v:=undef) (a':=?_) (lb 17 2047) rfl rfl (any_of HT_.out (by kernel_rfl)) (fun _ _ _ h=>h) (Or.inr ⟨by rfl,rfl⟩) ?_ ?_
   rotate_left
   ·simp only [ap]
    rfl
   refine pure_ (i:=11) (N:=some 23) (v:=undef) (a':=?_) (lb 17 4095) rfl rfl (any_of HT_.out (by kernel_rfl)) (fun _ _ _ h=>h) (Or.inr ⟨by rfl,rfl⟩) ?_ ?_
   rotate_left
   ·simp only [ap]
    rfl
   refine pure_ (i:=12) (N:=some 24) (v:=undef) (a':=?_) (lb 17 8191) rfl rfl (any_of HT_.out (by kernel_rfl)) (fun _ _ _ h=>h) (Or.inr ⟨by rfl,rfl⟩) ?_ ?_
   rotate_left
   ·simp only [ap]
    rfl
   refine pure_ (i:=13) (N:=some 25) (v:=undef) (a':=?_) (lb 17 16383) rfl rfl (any_of HT_.out (by kernel_rfl)) (fun _ _ _ h=>h) (Or.inr ⟨by rfl,rfl⟩) ?_ ?_
   rotate_left
   ·simp only [ap]
    rfl
   refine pure_ (i:=14) (N:=some 26) (v:=undef) (a':=?_) (lb 17 32767) rfl rfl (any_of HT_.out (by kernel_rfl)) (fun _ _ _ h=>h) (Or.inr ⟨by rfl,rfl⟩) ?_ ?_
   rotate_left
   ·simp only [ap]
    rfl
   refine pure_ (i:=15) (N:=some 27) (v:=undef) (a':=?_) (lb 17 65535) rfl rfl (any_of HT_.out (by kernel_rfl)) (fun _ _ _ h=>h) (Or.inr ⟨by rfl,rfl⟩) ?_ ?_
   rotate_left
   ·simp only [ap]
    rfl
   refine pu 16 (N:=some 28) (v:=?_) (a':=?_) (lb 17 131071) HT_ (by kernel_rfl) rfl rfl rfl (fun _ _ _ h=>h) ?_ ?_ ?_
   rotate_left
   ·intro w'
    go_simp
    with_reducible rfl
   rotate_left
   ·simp only [ap]
    rfl
   refine done_ (done_of HT_.out (by kernel_rfl)) ?_
   try go_wp2
   go_ret
   exact ⟨fe,h1 HB.out GE106.out⟩
  subst c7
  rw [if_pos rfl] at H
  replace H:=Option.bind_eq_some_iff.mp H
  obtain ⟨t111,A80,H⟩:=H
  (try dsimp only at H)
  have A8:=Aside0.mk A80
  clear A80
  by_cases c9 : t111 = true
  rotate_left
  ·replace c9:=Bool.eq_false_iff.mpr c9
   subst c9
   rw [if_neg (show ¬ (false = true) by decide)] at H
   obtain rfl:=Option.some.inj H
   try go_wp2
   replace BK106:=ak (blk_drew BK106.out)
   replace HB:=ak (below_drew1 HB.out)
   have p108 : 0 ≤ (x5_1 : Int):=od
   have q108 : x5_1 < (l1.length : Int):=od
   obtain ⟨ad108,e108,hx108_0,hx108_1⟩:=at_T59 HR1.out x5_1 p108 q108
   have hw108_1:=hx108_1
   have hw108_0:=hx108_0
   cases e108
   replace hx108_0:=(HB.out.cell (World.block_lt_of_cell? w _ hx108_0)).trans hx108_0
   replace hx108_1:=(HB.out.cell (World.block_lt_of_cell? w _ hx108_1)).trans hx108_1
   replace p108:=eq_true p108
   replace q108:=eq_true q108
   have p110 : 0 ≤ (x5_1 : Int):=od
   have q110 : x5_1 < (l1.length : Int):=od
   obtain ⟨ad110,e110,hx110_0,hx110_1⟩:=at_T59 HR1.out x5_1 p110 q110
   have hw110_1:=hx110_1
   have hw110_0:=hx110_0
   obtain rfl : ad108 = ad110:=(by injection e110)
   replace hx110_0:=(HB.out.cell (World.block_lt_of_cell? w _ hx110_0)).trans hx110_0
   replace hx110_1:=(HB.out.cell (World.block_lt_of_cell? w _ hx110_1)).trans hx110_1
   replace p110:=eq_true p110
   replace q110:=eq_true q110
   refine start_ (n:=17) (S:=fun w'=>w'.cell? ⟨gb106,0,none⟩ = some (.int .i64 a0_0) ∧ w'.cell? ⟨gb106,1,none⟩ = some (.bool a0_1) ∧ w'.cell? (ad108.add ((x5_1).toNat * 2)) = some (.int .i64 ((rd_T59 l1 x5_1).f0)) ∧ w'.cell? ⟨(ad108.add ((x5_1).toNat * 2)).block,(ad108.add ((x5_1).toNat * 2)).off + 1,none⟩ = some (.int .i64 ((rd_T59 l1 x5_1).f1)) ∧ w'.cell? (ad108.add ((x5_1).toNat * 2)) = some (.int .i64 ((rd_T59 l1 x5_1).f0)) ∧ w'.cell? ⟨(ad108.add ((x5_1).toNat * 2)).block,(ad108.add ((x5_1).toNat * 2)).off + 1,none⟩ = some (.int .i64 ((rd_T59 l1 x5_1).f1))) (ds:=[]) (lb 17 0) (by kernel_rfl) rfl rfl ⟨(blk_cell BK106.out 0).trans rfl,(blk_cell BK106.out 1).trans rfl,((HB.out.cell (World.block_lt_of_cell? w _ hw108_0)).trans hw108_0),((HB.out.cell (World.block_lt_of_cell? w _ hw108_1)).trans hw108_1),((HB.out.cell (World.block_lt_of_cell? w _ hw110_0)).trans hw110_0),((HB.out.cell (World.block_lt_of_cell? w _ hw110_1)).trans hw110_1)⟩ (fun hHeld=>?_);refine with_tabW spec_l9Sensors.tab4 spec_l9Sensors.bits4 (fun HT_ HW_=>?_)
   generalize wr.drew = w12 at BK106 HB hx108_0 hx108_1 hx110_0 hx110_1 hHeld ⊢
   refine pu 1 (N:=some 13) (v:=?_) (a':=?_) (lb 17 2) HT_ (by kernel_rfl) rfl rfl rfl (fun _ _ _ h=>h) ?_ ?_ ?_
   rotate_left
   ·intro w'
    go_simp
    with_reducible rfl
   rotate_left
   ·simp only [ap]
    rfl
   refine pu 2 (N:=some 14) (v:=?_) (a':=?_) (lb 17 6) HT_ (by kernel_rfl) rfl rfl rfl (fun _ _ _ h=>h) ?_ ?_ ?_
   rotate_left
   ·intro w'
    go_simp
    with_reducible rfl
   rotate_left
   ·simp only [ap]
    rfl
   refine pu 3 (N:=some 15) (v:=?_) (a':=?_) (lb 17 14) HT_ (by kernel_rfl) rfl rfl rfl (fun _ _ _ h=>h) ?_ ?_ ?_
   rotate_left
   ·intro w'
    go_simp
    with_reducible rfl
   rotate_left
   ·simp only [ap]
    rfl
   refine pu 4 (N:=some 16) (v:=?_) (a':=?_) (lb 17 30) HT_ (by kernel_rfl) rfl rfl rfl (fun _ _ _ h=>h) ?_ ?_ ?_
   rotate_left
   ·intro w'
    go_simp
    with_reducible rfl
   rotate_left
   ·simp only [ap]
    rfl
   refine take_ (i:=0) (N:=some 12) (v:=?_) (a':=?_) (lb 17 31) rfl rfl (take_ofW HT_.out HW_.out (by kernel_rfl)) (fun _ _ _ h=>h) (Or.inl ⟨by rfl,?_⟩) hHeld ?_ ?_
   rotate_left
   ·rintro w' ⟨s0,s1,s2,s3,s4,s5⟩
    go_simp
    with_reducible rfl
   rotate_left
   ·simp only [ap]
    rfl
   refine take_ (i:=5) (N:=some 17) (v:=?_) (a':=?_) (lb 17 63) rfl rfl (take_ofW HT_.out HW_.out (by kernel_rfl)) (fun _ _ _ h=>h) (Or.inl ⟨by rfl,?_⟩) hHeld ?_ ?_
   rotate_left
   ·rintro w' ⟨s0,s1,s2,s3,s4,s5⟩
    go_simp
    with_reducible rfl
   rotate_left
   ·simp only [ap]
    rfl
   refine one_ (i:=6) (N:=some 18) (lb 17 127) rfl rfl (one_of HT_.out (by kernel_rfl)) (by decide) (fun K hK=>?_)
   refine goes_ Try.func59 (by kernel_rfl) rfl #[.agg #[.int .i64 a0_0,.bool a0_1],.int .i64 ((rd_T59 l1 x5_1).f0)] (by rfl) rfl rfl gl ?_
   with_reducible refine (spec_l3Line.calls a0_0 a0_1 ((rd_T59 l1 x5_1).f0) true _ A6.out).mono ?_
   rintro e w13 ⟨rfl,hb⟩
   refine ⟨_,rfl,?_⟩
   replace BK106:=kb BK106 hb
   replace HB:=ak (below_step (h1 HB.out GE106.out) hb)
   (try clear hb)
   (try clear hb2)
   (try clear hk)
   (try clear hi)
   refine hK.out _ _ ⟨(blk_cell BK106.out 0).trans rfl,(blk_cell BK106.out 1).trans rfl,((HB.out.cell (World.block_lt_of_cell? w _ hw108_0)).trans hw108_0),((HB.out.cell (World.block_lt_of_cell? w _ hw108_1)).trans hw108_1),((HB.out.cell (World.block_lt_of_cell? w _ hw110_0)).trans hw110_0),((HB.out.cell (World.block_lt_of_cell? w _ hw110_1)).trans hw110_1)⟩ (fun hHeld=>?_)
   clear hK K
   refine norm_ (a':=?_) ?_ ?_
   rotate_left
   ·show Act.put _ (some 18) _ = _
    simp only [ap]
    rfl
   refine pu 7 (N:=some 19) (v:=?_) (a':=?_) (lb 17 255) HT_ (by kernel_rfl) rfl rfl rfl (fun _ _ _ h=>h) ?_ ?_ ?_
   rotate_left
   ·intro w'
    go_simp
    with_reducible rfl
   rotate_left
   ·simp only [ap]
    rfl
   refine pu 8 (N:=some 20) (v:=?_) (a':=?_) (lb 17 511) HT_ (by kernel_rfl) rfl rfl rfl (fun _ _ _ h=>h) ?_ ?_ ?_
   rotate_left
   ·intro w'
    go_simp
    with_reducible rfl
   rotate_left
   ·simp only [ap]
    rfl
   refine pu 9 (N:=some 21) (v:=?_) (a':=?_) (lb 17 1023) HT_ (by kernel_rfl) rfl rfl rfl (fun _ _ _ h=>h) ?_ ?_ ?_
   rotate_left
   ·intro w'
    go_simp
    with_reducible rfl
   rotate_left
   ·simp only [ap]
    rfl
   refine pu 10 (N:=some 22) (v:=?_) (a':=?_) (lb 17 2047) HT_ (by kernel_rfl) rfl rfl rfl (fun _ _ _ h=>h) ?_ ?_ ?_
   rotate_left
   ·intro w'
    go_simp
    with_reducible rfl
   rotate_left
   ·simp only [ap]
    rfl
   refine pu 11 (N:=some 23) (v:=?_) (a':=?_) (lb 17 4095) HT_ (by kernel_rfl) rfl rfl rfl (fun _ _ _ h=>h) ?_ ?_ ?_
   rotate_left
   ·intro w'
    go_simp
    with_reducible rfl
   rotate_left
   ·simp only [ap]
    rfl
   refine pu 12 (N:=some 24) (v:=?_) (a':=?_) (lb 17 8191) HT_ (by kernel_rfl) rfl rfl rfl (fun _ _ _ h=>h) ?_ ?_ ?_
   rotate_left
   ·intro w'
    go_simp
    with_reducible rfl
   rotate_left
   ·simp only [ap]
    rfl
   refine take_ (i:=13) (N:=some 25) (v:=?_) (a':=?_) (lb 17 16383) rfl rfl (take_ofW HT_.out HW_.out (by kernel_rfl)) (fun _ _ _ h=>h) (Or.inl ⟨by rfl,?_⟩) hHeld ?_ ?_
   rotate_left
   ·rintro w' ⟨s0,s1,s2,s3,s4,s5⟩
    go_simp
    with_reducible rfl
   rotate_left
   ·simp only [ap]
    rfl
   refine one_ (i:=14) (N:=some 26) (lb 17 32767) rfl rfl (one_of HT_.out (by kernel_rfl)) (by decide) (fun K hK=>?_)
   refine goes_ Try.func58 (by kernel_rfl) rfl #[.int .i64 ((rd_T59 l1 x5_1).f1),.int .i64 0,.int .i64 12] (by rfl) rfl rfl gl ?_
   with_reducible refine (spec_l1In.calls ((rd_T59 l1 x5_1).f1) 0 12 false _ A8.out).mono ?_
   rintro e w' ⟨rfl,⟨nd,rfl⟩⟩
   refine ⟨_,rfl,?_⟩
   refine hK.out _ _ ⟨(blk_cell BK106.out 0).trans rfl,(blk_cell BK106.out 1).trans rfl,((HB.out.cell (World.block_lt_of_cell? w _ hw108_0)).trans hw108_0),((HB.out.cell (World.block_lt_of_cell? w _ hw108_1)).trans hw108_1),((HB.out.cell (World.block_lt_of_cell? w _ hw110_0)).trans hw110_0),((HB.out.cell (World.block_lt_of_cell? w _ hw110_1)).trans hw110_1)⟩ (fun hHeld=>?_)
   clear hK K
   refine norm_ (a':=?_) ?_ ?_
   rotate_left
   ·show Act.put _ (some 26) _ = _
    simp only [ap]
    rfl
   refine pu 15 (N:=some 27) (v:=?_) (a':=?_) (lb 17 65535) HT_ (by kernel_rfl) rfl rfl rfl (fun _ _ _ h=>h) ?_ ?_ ?_
   rotate_left
   ·intro w'
    go_simp
    with_reducible rfl
   rotate_left
   ·simp only [ap]
    rfl
   refine pu 16 (N:=some 28) (v:=?_) (a':=?_) (lb 17 131071) HT_ (by kernel_rfl) rfl rfl rfl (fun _ _ _ h=>h) ?_ ?_ ?_
   rotate_left
   ·intro w'
    go_simp
    with_reducible rfl
   rotate_left
   ·simp only [ap]
    rfl
   refine done_ (done_of HT_.out (by kernel_rfl)) ?_
   try go_wp2
   go_ret
   exact ⟨fe,h1 HB.out GE106.out⟩
  subst c9
  rw [if_pos rfl] at H
  have H':=Aside0.mk H
  clear H
  try go_wp2
  replace BK106:=ak (blk_drew BK106.out)
  replace HB:=ak (below_drew1 HB.out)
  have p108 : 0 ≤ (x5_1 : Int):=od
  have q108 : x5_1 < (l1.length : Int):=od
  obtain ⟨ad108,e108,hx108_0,hx108_1⟩:=at_T59 HR1.out x5_1 p108 q108
  have hw108_1:=hx108_1
  have hw108_0:=hx108_0
  cases e108
  replace hx108_0:=(HB.out.cell (World.block_lt_of_cell? w _ hx108_0)).trans hx108_0
  replace hx108_1:=(HB.out.cell (World.block_lt_of_cell? w _ hx108_1)).trans hx108_1
  replace p108:=eq_true p108
  replace q108:=eq_true q108
  have p110 : 0 ≤ (x5_1 : Int):=od
  have q110 : x5_1 < (l1.length : Int):=od
  obtain ⟨ad110,e110,hx110_0,hx110_1⟩:=at_T59 HR1.out x5_1 p110 q110
  have hw110_1:=hx110_1
  have hw110_0:=hx110_0
  obtain rfl : ad108 = ad110:=(by injection e110)
  replace hx110_0:=(HB.out.cell (World.block_lt_of_cell? w _ hx110_0)).trans hx110_0
  replace hx110_1:=(HB.out.cell (World.block_lt_of_cell? w _ hx110_1)).trans hx110_1
  replace p110:=eq_true p110
  replace q110:=eq_true q110
  refine start_ (n:=17) (S:=fun w'=>w'.cell? ⟨gb106,0,none⟩ = some (.int .i64 a0_0) ∧ w'.cell? ⟨gb106,1,none⟩ = some (.bool a0_1) ∧ w'.cell? (ad108.add ((x5_1).toNat * 2)) = some (.int .i64 ((rd_T59 l1 x5_1).f0)) ∧ w'.cell? ⟨(ad108.add ((x5_1).toNat * 2)).block,(ad108.add ((x5_1).toNat * 2)).off + 1,none⟩ = some (.int .i64 ((rd_T59 l1 x5_1).f1)) ∧ w'.cell? (ad108.add ((x5_1).toNat * 2)) = some (.int .i64 ((rd_T59 l1 x5_1).f0)) ∧ w'.cell? ⟨(ad108.add ((x5_1).toNat * 2)).block,(ad108.add ((x5_1).toNat * 2)).off + 1,none⟩ = some (.int .i64 ((rd_T59 l1 x5_1).f1))) (ds:=[]) (lb 17 0) (by kernel_rfl) rfl rfl ⟨(blk_cell BK106.out 0).trans rfl,(blk_cell BK106.out 1).trans rfl,((HB.out.cell (World.block_lt_of_cell? w _ hw108_0)).trans hw108_0),((HB.out.cell (World.block_lt_of_cell? w _ hw108_1)).trans hw108_1),((HB.out.cell (World.block_lt_of_cell? w _ hw110_0)).trans hw110_0),((HB.out.cell (World.block_lt_of_cell? w _ hw110_1)).trans hw110_1)⟩ (fun hHeld=>?_);refine with_tabW spec_l9Sensors.tab4 spec_l9Sensors.bits4 (fun HT_ HW_=>?_)
  generalize wr.drew = w10 at BK106 HB hx108_0 hx108_1 hx110_0 hx110_1 hHeld ⊢
  refine pu 1 (N:=some 13) (v:=?_) (a':=?_) (lb 17 2) HT_ (by kernel_rfl) rfl rfl rfl (fun _ _ _ h=>h) ?_ ?_ ?_
  rotate_left
  ·intro w'
   go_simp
   with_reducible rfl
  rotate_left
  ·simp only [ap]
   rfl
  refine pu 2 (N:=some 14) (v:=?_) (a':=?_) (lb 17 6) HT_ (by kernel_rfl) rfl rfl rfl (fun _ _ _ h=>h) ?_ ?_ ?_
  rotate_left
  ·intro w'
   go_simp
   with_reducible rfl
  rotate_left
  ·simp only [ap]
   rfl
  refine pu 3 (N:=some 15) (v:=?_) (a':=?_) (lb 17 14) HT_ (by kernel_rfl) rfl rfl rfl (fun _ _ _ h=>h) ?_ ?_ ?_
  rotate_left
  ·intro w'
   go_simp
   with_reducible rfl
  rotate_left
  ·simp only [ap]
   rfl
  refine pu 4 (N:=some 16) (v:=?_) (a':=?_) (lb 17 30) HT_ (by kernel_rfl) rfl rfl rfl (fun _ _ _ h=>h) ?_ ?_ ?_
  rotate_left
  ·intro w'
   go_simp
   with_reducible rfl
  rotate_left
  ·simp only [ap]
   rfl
  refine take_ (i:=0) (N:=some 12) (v:=?_) (a':=?_) (lb 17 31) rfl rfl (take_ofW HT_.out HW_.out (by kernel_rfl)) (fun _ _ _ h=>h) (Or.inl ⟨by rfl,?_⟩) hHeld ?_ ?_
  rotate_left
  ·rintro w' ⟨s0,s1,s2,s3,s4,s5⟩
   go_simp
   with_reducible rfl
  rotate_left
  ·simp only [ap]
   rfl
  refine take_ (i:=5) (N:=some 17) (v:=?_) (a':=?_) (lb 17 63) rfl rfl (take_ofW HT_.out HW_.out (by kernel_rfl)) (fun _ _ _ h=>h) (Or.inl ⟨by rfl,?_⟩) hHeld ?_ ?_
  rotate_left
  ·rintro w' ⟨s0,s1,s2,s3,s4,s5⟩
   go_simp
   with_reducible rfl
  rotate_left
  ·simp only [ap]
   rfl
  refine one_ (i:=6) (N:=some 18) (lb 17 127) rfl rfl (one_of HT_.out (by kernel_rfl)) (by decide) (fun K hK=>?_)
  refine goes_ Try.func59 (by kernel_rfl) rfl #[.agg #[.int .i64 a0_0,.bool a0_1],.int .i64 ((rd_T59 l1 x5_1).f0)] (by rfl) rfl rfl gl ?_
  with_reducible refine (spec_l3Line.calls a0_0 a0_1 ((rd_T59 l1 x5_1).f0) true _ A6.out).mono ?_
  rintro e w11 ⟨rfl,hb⟩
  refine ⟨_,rfl,?_⟩
  replace BK106:=kb BK106 hb
  replace HB:=ak (below_step (h1 HB.out GE106.out) hb)
  (try clear hb)
  (try clear hb2)
  (try clear hk)
  (try clear hi)
  refine hK.out _ _ ⟨(blk_cell BK106.out 0).trans rfl,(blk_cell BK106.out 1).trans rfl,((HB.out.cell (World.block_lt_of_cell? w _ hw108_0)).trans hw108_0),((HB.out.cell (World.block_lt_of_cell? w _ hw108_1)).trans hw108_1),((HB.out.cell (World.block_lt_of_cell? w _ hw110_0)).trans hw110_0),((HB.out.cell (World.block_lt_of_cell? w _ hw110_1)).trans hw110_1)⟩ (fun hHeld=>?_)
  clear hK K
  refine norm_ (a':=?_) ?_ ?_
  rotate_left
  ·show Act.put _ (some 18) _ = _
   simp only [ap]
   rfl
  refine pu 7 (N:=some 19) (v:=?_) (a':=?_) (lb 17 255) HT_ (by kernel_rfl) rfl rfl rfl (fun _ _ _ h=>h) ?_ ?_ ?_
  rotate_left
  ·intro w'
   go_simp
   with_reducible rfl
  rotate_left
  ·simp only [ap]
   rfl
  refine pu 8 (N:=some 20) (v:=?_) (a':=?_) (lb 17 511) HT_ (by kernel_rfl) rfl rfl rfl (fun _ _ _ h=>h) ?_ ?_ ?_
  rotate_left
  ·intro w'
   go_simp
   with_reducible rfl
  rotate_left
  ·simp only [ap]
   rfl
  refine pu 9 (N:=some 21) (v:=?_) (a':=?_) (lb 17 1023) HT_ (by kernel_rfl) rfl rfl rfl (fun _ _ _ h=>h) ?_ ?_ ?_
  rotate_left
  ·intro w'
   go_simp
   with_reducible rfl
  rotate_left
  ·simp only [ap]
   rfl
  refine pu 10 (N:=some 22) (v:=?_) (a':=?_) (lb 17 2047) HT_ (by kernel_rfl) rfl rfl rfl (fun _ _ _ h=>h) ?_ ?_ ?_
  rotate_left
  ·intro w'
   go_simp
   with_reducible rfl
  rotate_left
  ·simp only [ap]
   rfl
  refine pu 11 (N:=some 23) (v:=?_) (a':=?_) (lb 17 4095) HT_ (by kernel_rfl) rfl rfl rfl (fun _ _ _ h=>h) ?_ ?_ ?_
  rotate_left
  ·intro w'
   go_simp
   with_reducible rfl
  rotate_left
  ·simp only [ap]
   rfl
  refine pu 12 (N:=some 24) (v:=?_) (a':=?_) (lb 17 8191) HT_ (by kernel_rfl) rfl rfl rfl (fun _ _ _ h=>h) ?_ ?_ ?_
  rotate_left
  ·intro w'
   go_simp
   with_reducible rfl
  rotate_left
  ·simp only [ap]
   rfl
  refine take_ (i:=13) (N:=some 25) (v:=?_) (a':=?_) (lb 17 16383) rfl rfl (take_ofW HT_.out HW_.out (by kernel_rfl)) (fun _ _ _ h=>h) (Or.inl ⟨by rfl,?_⟩) hHeld ?_ ?_
  rotate_left
  ·rintro w' ⟨s0,s1,s2,s3,s4,s5⟩
   go_simp
   with_reducible rfl
  rotate_left
  ·simp only [ap]
   rfl
  refine one_ (i:=14) (N:=some 26) (lb 17 32767) rfl rfl (one_of HT_.out (by kernel_rfl)) (by decide) (fun K hK=>?_)
  refine goes_ Try.func58 (by kernel_rfl) rfl #[.int .i64 ((rd_T59 l1 x5_1).f1),.int .i64 0,.int .i64 12] (by rfl) rfl rfl gl ?_
  with_reducible refine (spec_l1In.calls ((rd_T59 l1 x5_1).f1) 0 12 true _ A8.out).mono ?_
  rintro e w' ⟨rfl,⟨nd,rfl⟩⟩
  refine ⟨_,rfl,?_⟩
  refine hK.out _ _ ⟨(blk_cell BK106.out 0).trans rfl,(blk_cell BK106.out 1).trans rfl,((HB.out.cell (World.block_lt_of_cell? w _ hw108_0)).trans hw108_0),((HB.out.cell (World.block_lt_of_cell? w _ hw108_1)).trans hw108_1),((HB.out.cell (World.block_lt_of_cell? w _ hw110_0)).trans hw110_0),((HB.out.cell (World.block_lt_of_cell? w _ hw110_1)).trans hw110_1)⟩ (fun hHeld=>?_)
  clear hK K
  refine norm_ (a':=?_) ?_ ?_
  rotate_left
  ·show Act.put _ (some 26) _ = _
   simp only [ap]
   rfl
  refine pu 15 (N:=some 27) (v:=?_) (a':=?_) (lb 17 65535) HT_ (by kernel_rfl) rfl rfl rfl (fun _ _ _ h=>h) ?_ ?_ ?_
  rotate_left
  ·intro w'
   go_simp
   with_reducible rfl
  rotate_left
  ·simp only [ap]
   rfl
  refine pu 16 (N:=some 28) (v:=?_) (a':=?_) (lb 17 131071) HT_ (by kernel_rfl) rfl rfl rfl (fun _ _ _ h=>h) ?_ ?_ ?_
  rotate_left
  ·intro w'
   go_simp
   with_reducible rfl
  rotate_left
  ·simp only [ap]
   rfl
  refine done_ (done_of HT_.out (by kernel_rfl)) ?_
  try go_wp2
  go_roundg k1
  case measure=>have:=HK1.out;omega
  case rel=>exact ⟨(wrap64 (x5_1 + 1)),fd,H',⟨by have:=HK1.out;omega⟩,⟨bm BK106.out⟩,⟨h1 HB.out GE106.out⟩⟩


end
end Go.Proofs.Ytknfhoghimnieaa.QFnSensors
