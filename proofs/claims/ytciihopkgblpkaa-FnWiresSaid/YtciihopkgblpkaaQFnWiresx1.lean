/- Functions that the law FnWires comes to, and their walks: no condition but those named. -/
import Derived.Test.YtciihopkgblpkaaQFnWiresx0
namespace Go.Proofs.Ytciihopkgblpkaa.QFnWires
open Go.RowKit Go.Proofs.YtciihopkgblpkaaW.PrintWords Go.Proofs.YtciihopkgblpkaaW.PrintLast Go.Proofs.YtciihopkgblpkaaW.PrintMore Go.Proofs.Ytciihopkgblpkaa.Short
attribute [local go_sem] max2_int min2_int max_two min_two max_three min_three max_four min_four
set_option linter.unusedVariables false
set_option linter.unusedSimpArgs false

section
open Kd
/-! ### impl_within: function 42 -/
def impl_within.f (a0 : Int) (a1 : Int) (a2 : Int) : Option (Bool):=if a0 ≥ a1 then (some (decide (a0 ≤ a2))) else (some false)
set_option maxHeartbeats 8000000 in
set_option maxRecDepth 100000 in
theorem impl_within.calls (a0 : Int) (a1 : Int) (a2 : Int) (r : Bool) (w : World) (h : impl_within.f a0 a1 a2 = some r) :
  Calls Try.prog 42 #[.int .i64 a0,.int .i64 a1,.int .i64 a2] w fun e w'=>e = .returned (.bool r) ∧ Drawn0 w w':=by
 have H : (if a0 ≥ a1 then (some (decide (a0 ≤ a2))) else (some false)) = some r:=h
 clear h
 by_cases c4 : a0 ≥ a1
 ·rw [if_pos c4] at H
  have c4b0 : decide (a1 ≤ a0) = true:=decide_eq_true c4
  clear c4
  obtain rfl:=Option.some.inj H
  go_enter Try.func42,Try.ntmps42
  go_wp2
  go_ret
  exact ⟨by first|rfl|(simp;done)|(simp [*];done),by repeat (exact Drawn0.refl _)⟩
 rw [if_neg c4] at H
 have c4b0 : decide (a1 ≤ a0) = false:=decide_eq_false c4
 clear c4
 obtain rfl:=Option.some.inj H
 go_enter Try.func42,Try.ntmps42
 go_wp2
 go_ret
 exact ⟨by first|rfl|(simp;done)|(simp [*];done),by repeat (exact Drawn0.refl _)⟩

/-! ### impl_allWithin: function 43 -/
def impl_allWithin.l0 : Nat → Int → Int → List Int → Int → Int → Option (Bool)
 | 0,_,_,_,_,_=>none
 | k + 1,x1,x2,x9,x10,x11=>if x11 < x10 then (if 0 ≤ x11 then (if x11 < (x9.length : Int) then ((impl_within.f (rd x9 x11) x1 x2).bind fun t102=>(if t102 = true then (impl_allWithin.l0 k x1 x2 x9 x10 (wrap64 (x11 + 1))) else (some false))) else (none)) else (none)) else (some true)
def impl_allWithin.f (k : Nat) (l0 : List Int) (a1 : Int) (a2 : Int) : Option (Bool):=impl_allWithin.l0 k a1 a2 l0 (l0.length : Int) 0
theorem impl_allWithin.mono_l : ∀ k,(∀ y0 y1 y2 y3 y4,LeO (impl_allWithin.l0 k y0 y1 y2 y3 y4) (impl_allWithin.l0 (k + 1) y0 y1 y2 y3 y4))
 | 0=>by
  refine ?_<;>(intros;intro r h;simp [impl_allWithin.l0] at h)
 | k + 1=>by
  have ih0:=impl_allWithin.mono_l k
  refine ?_<;>intros<;>(first|unfold impl_allWithin.l0)<;>(repeat' first|(with_reducible exact ih0 ..)|(with_reducible exact LeO.refl _)|(with_reducible exact LeO.none _)|(with_reducible refine LeO.ite ?_ ?_)|(with_reducible refine LeO.bind ?_ (fun _=>?_))|exact ih0 ..|exact LeO.none _|refine LeO.ite ?_ ?_|refine LeO.bind ?_ (fun _=>?_))
theorem impl_allWithin.mono : ∀ a0 a1 a2 k,LeO (impl_allWithin.f k a0 a1 a2) (impl_allWithin.f (k + 1) a0 a1 a2):=by
 intro a0 a1 a2 k
 have ih0:=impl_allWithin.mono_l k
 unfold impl_allWithin.f
 repeat' first
   | (with_reducible exact ih0 _ _ _ _ _)
   | (with_reducible exact LeO.refl _)
   | (with_reducible exact LeO.none _)
   | (with_reducible refine LeO.ite ?_ ?_)
   | (with_reducible refine LeO.bind ?_ (fun _=>?_))
   | exact ih0 _ _ _ _ _
   | exact LeO.none _
   | refine LeO.ite ?_ ?_
   | refine LeO.bind ?_ (fun _=>?_)
set_option maxHeartbeats 8000000 in
set_option maxRecDepth 100000 in
theorem impl_allWithin.calls (k : Nat) (A0 : Option Addr) (c0 : Nat) (l0 : List Int) (a1 : Int) (a2 : Int) (r : Bool) (w : World) (hr0 : Kd.C (Kd.int .i64) w A0 l0.length l0) (hc0 : l0.length ≤ c0) (h : impl_allWithin.f k l0 a1 a2 = some r) :
  Calls Try.prog 43 #[.slice A0 l0.length c0,.int .i64 a1,.int .i64 a2] w fun e w'=>e = .returned (.bool r) ∧ Drawn0 w w':=by
 have HR0:=Aside0.mk hr0
 have HC0:=Aside0.mk hc0
 clear hr0 hc0
 have H : (impl_allWithin.l0 k a1 a2 l0 (l0.length : Int) 0) = some r:=h
 clear h
 have H':=Aside0.mk H
 clear H
 go_enter Try.func43,Try.ntmps43
 go_wp2
 go_loopg [11] k (fun kq v11 w'=>∃ (x11_1 : Int),v11 = .int .i64 x11_1 ∧ Aside0 (impl_allWithin.l0 kq a1 a2 l0 (l0.length : Int) x11_1 = some r) ∧ Aside0 (kq ≤ k) ∧ Drawn0 w w')
 case atStart=>exact ⟨(0),fd,H',⟨Nat.le_refl _⟩,by repeat (exact Drawn0.refl _)⟩
 clear H'
 obtain ⟨x11_1,rfl,HA,HK1,⟨m1,rfl⟩⟩:=hrel
 cases gk with
 | zero=>exact absurd HA.out (by simp [impl_allWithin.l0])
 | succ k1 =>
  have H:=HA.out
  clear HA
  simp only [impl_allWithin.l0] at H
  by_cases c4 : x11_1 < (l0.length : Int)
  rotate_left
  ·rw [if_neg c4] at H
   have c4b0 : decide (x11_1 < (l0.length : Int)) = false:=decide_eq_false c4
   clear c4
   obtain rfl:=Option.some.inj H
   go_wp2
   go_ret
   exact ⟨by first|rfl|(simp;done)|(simp [*];done),by repeat (first|exact Drawn0.refl _|apply Drawn0.step)⟩
  rw [if_pos c4] at H
  have c4b0 : decide (x11_1 < (l0.length : Int)) = true:=decide_eq_true c4
  clear c4
  by_cases c5 : 0 ≤ x11_1
  rotate_left
  ·rw [if_neg c5] at H
   exact absurd H (by simp)
  rw [if_pos c5] at H
  have c5b0 : decide (0 ≤ x11_1) = true:=decide_eq_true c5
  clear c5
  by_cases c6 : x11_1 < (l0.length : Int)
  rotate_left
  ·rw [if_neg c6] at H
   exact absurd H (by simp)
  rw [if_pos c6] at H
  have c6b0 : decide (x11_1 < (l0.length : Int)) = true:=decide_eq_true c6
  clear c6
  replace H:=Option.bind_eq_some_iff.mp H
  obtain ⟨t102,A70,H⟩:=H
  have A7:=Aside0.mk A70
  clear A70
  by_cases c8 : t102 = true
  rotate_left
  ·replace c8:=Bool.eq_false_iff.mpr c8
   subst c8
   rw [if_neg (show ¬ (false = true) by decide)] at H
   obtain rfl:=Option.some.inj H
   have p101 : 0 ≤ (x11_1 : Int):=od
   have q101 : x11_1 < (l0.length : Int):=od
   obtain ⟨ad101,e101,hx101_0⟩:=Kd.at_int HR0.out x11_1 p101 q101
   cases e101
   replace p101:=eq_true p101
   replace q101:=eq_true q101
   go_wp2_with (((with_reducible refine gate_callee (f:=42) rfl ?_);refine goesL_ (some 18) rfl rfl Try.func42 (by kernel_rfl) rfl #[.int .i64 (rd l0 x11_1),.int .i64 a1,.int .i64 a2] rfl gl ?_;(with_reducible refine (impl_within.calls (rd l0 x11_1) a1 a2 false _ A7.out).mono ?_);rintro e w' ⟨rfl,⟨nd,rfl⟩⟩;refine ⟨_,rfl,?_⟩))
   go_ret
   exact ⟨by first|rfl|(simp;done)|(simp [*];done),by repeat (first|exact Drawn0.refl _|apply Drawn0.step)⟩
  subst c8
  rw [if_pos rfl] at H
  have H':=Aside0.mk H
  clear H
  have p101 : 0 ≤ (x11_1 : Int):=od
  have q101 : x11_1 < (l0.length : Int):=od
  obtain ⟨ad101,e101,hx101_0⟩:=Kd.at_int HR0.out x11_1 p101 q101
  cases e101
  replace p101:=eq_true p101
  replace q101:=eq_true q101
  go_wp2_with (((with_reducible refine gate_callee (f:=42) rfl ?_);refine goesL_ (some 18) rfl rfl Try.func42 (by kernel_rfl) rfl #[.int .i64 (rd l0 x11_1),.int .i64 a1,.int .i64 a2] rfl gl ?_;(with_reducible refine (impl_within.calls (rd l0 x11_1) a1 a2 true _ A7.out).mono ?_);rintro e w' ⟨rfl,⟨nd,rfl⟩⟩;refine ⟨_,rfl,?_⟩))
  go_roundg k1
  case measure=>have:=HK1.out;omega
  case rel=>exact ⟨(wrap64 (x11_1 + 1)),fd,H',⟨by have:=HK1.out;omega⟩,by repeat (first|exact Drawn0.refl _|apply Drawn0.step)⟩

/-! ### impl_IsWire: function 14 -/
mutual
def impl_IsWire.j0 : Nat → Bool → Int → List Int → List Int → Option (Bool)
 | 0,_,_,_,_=>none
 | k + 1,x31,x104000,x104001,x104002=>if x31 = true then (some false) else (impl_IsWire.l0 k x104002 (x104002.length : Int) 0 x104000 x104001 x104002)
def impl_IsWire.l0 : Nat → List Int → Int → Int → Int → List Int → List Int → Option (Bool)
 | 0,_,_,_,_,_,_=>none
 | k + 1,x33,x34,x35,x104000,x104001,x104002=>if x35 < x34 then (if 0 ≤ x35 then (if x35 < (x33.length : Int) then (if (rd x33 x35) = 1 then (if x35 > 0 then (if 0 ≤ (wrap64 (x35 - 1)) then (if (wrap64 (x35 - 1)) < (x104001.length : Int) then (if x35 < (x104001.length : Int) then (if (rd x104001 (wrap64 (x35 - 1))) ≥ (rd x104001 x35) then (some false) else (impl_IsWire.l0 k x33 x34 (wrap64 (x35 + 1)) x104000 x104001 x104002)) else (none)) else (none)) else (none)) else (impl_IsWire.l0 k x33 x34 (wrap64 (x35 + 1)) x104000 x104001 x104002)) else (if (rd x33 x35) = (-1) then (if x35 > 0 then (if 0 ≤ (wrap64 (x35 - 1)) then (if (wrap64 (x35 - 1)) < (x104001.length : Int) then (if x35 < (x104001.length : Int) then (if (rd x104001 (wrap64 (x35 - 1))) ≥ (rd x104001 x35) then (some false) else (impl_IsWire.l0 k x33 x34 (wrap64 (x35 + 1)) x104000 x104001 x104002)) else (none)) else (none)) else (none)) else (impl_IsWire.l0 k x33 x34 (wrap64 (x35 + 1)) x104000 x104001 x104002)) else (some false))) else (none)) else (none)) else (some true)
end
def impl_IsWire.f (k : Nat) (a0_0 : Int) (l0_1 : List Int) (l0_2 : List Int) : Option (Bool):=(impl_within.f a0_0 1 30).bind fun t104=>(if t104 = true then (if (l0_1.length : Int) > 8 then (impl_IsWire.j0 k true a0_0 l0_1 l0_2) else (if (l0_2.length : Int) = (l0_1.length : Int) then ((impl_allWithin.f k l0_1 0 a0_0).bind fun t105=>(impl_IsWire.j0 k (!t105) a0_0 l0_1 l0_2)) else (impl_IsWire.j0 k true a0_0 l0_1 l0_2))) else (impl_IsWire.j0 k true a0_0 l0_1 l0_2))
theorem impl_IsWire.mono_l : ∀ k,(∀ y0 y1 y2 y3,LeO (impl_IsWire.j0 k y0 y1 y2 y3) (impl_IsWire.j0 (k + 1) y0 y1 y2 y3)) ∧ (∀ y0 y1 y2 y3 y4 y5,LeO (impl_IsWire.l0 k y0 y1 y2 y3 y4 y5) (impl_IsWire.l0 (k + 1) y0 y1 y2 y3 y4 y5))
 | 0=>by
  refine ⟨?_,?_⟩<;>(intros;intro r h;simp [impl_IsWire.j0,impl_IsWire.l0] at h)
 | k + 1=>by
  obtain ⟨ih0,ih1⟩:=impl_IsWire.mono_l k
  refine ⟨?_,?_⟩<;>intros<;>(first|unfold impl_IsWire.j0 | unfold impl_IsWire.l0)<;>(repeat' first|(with_reducible exact ih0 ..)|(with_reducible exact ih1 ..)|(with_reducible exact impl_allWithin.mono _ _ _ _)|(with_reducible exact LeO.refl _)|(with_reducible exact LeO.none _)|(with_reducible refine LeO.ite ?_ ?_)|(with_reducible refine LeO.bind ?_ (fun _=>?_))|exact ih0 ..|exact ih1 ..|exact impl_allWithin.mono _ _ _ _|exact LeO.none _|refine LeO.ite ?_ ?_|refine LeO.bind ?_ (fun _=>?_))
theorem impl_IsWire.mono : ∀ a0 a1 a2 k,LeO (impl_IsWire.f k a0 a1 a2) (impl_IsWire.f (k + 1) a0 a1 a2):=by
 intro a0 a1 a2 k
 obtain ⟨ih0,ih1⟩:=impl_IsWire.mono_l k
 unfold impl_IsWire.f
 repeat' first
   | (with_reducible exact ih0 _ _ _ _)
   | (with_reducible exact ih1 _ _ _ _ _ _)
   | (with_reducible exact impl_allWithin.mono _ _ _ _)
   | (with_reducible exact LeO.refl _)
   | (with_reducible exact LeO.none _)
   | (with_reducible refine LeO.ite ?_ ?_)
   | (with_reducible refine LeO.bind ?_ (fun _=>?_))
   | exact ih0 _ _ _ _
   | exact ih1 _ _ _ _ _ _
   | exact impl_allWithin.mono _ _ _ _
   | exact LeO.none _
   | refine LeO.ite ?_ ?_
   | refine LeO.bind ?_ (fun _=>?_)
set_option maxHeartbeats 8000000 in
set_option maxRecDepth 100000 in
theorem impl_IsWire.calls (k : Nat) (a0_0 : Int) (A0_1 : Option Addr) (c0_1 : Nat) (l0_1 : List Int) (A0_2 : Option Addr) (c0_2 : Nat) (l0_2 : List Int) (r : Bool) (w : World) (hr0_1 : Kd.C (Kd.int .i64) w A0_1 l0_1.length l0_1) (hc0_1 : l0_1.length ≤ c0_1) (hr0_2 : Kd.C (Kd.int .i64) w A0_2 l0_2.length l0_2) (hc0_2 : l0_2.length ≤ c0_2) (h : impl_IsWire.f k a0_0 l0_1 l0_2 = some r) :
  Calls Try.prog 14 #[.agg #[.int .i64 a0_0,.slice A0_1 l0_1.length c0_1,.slice A0_2 l0_2.length c0_2]] w fun e w'=>e = .returned (.bool r) ∧ Below w.heap.size w w':=by
 have hu27:=Try.underlying27
 have HR0_1:=Aside0.mk hr0_1
 have HC0_1:=Aside0.mk hc0_1
 clear hr0_1 hc0_1
 have HR0_2:=Aside0.mk hr0_2
 have HC0_2:=Aside0.mk hc0_2
 clear hr0_2 hc0_2
 have HB:=Aside0.mk (Below.refl w.heap.size w)
 have H : ((impl_within.f a0_0 1 30).bind fun t104=>(if t104 = true then (if (l0_1.length : Int) > 8 then (impl_IsWire.j0 k true a0_0 l0_1 l0_2) else (if (l0_2.length : Int) = (l0_1.length : Int) then ((impl_allWithin.f k l0_1 0 a0_0).bind fun t105=>(impl_IsWire.j0 k (!t105) a0_0 l0_1 l0_2)) else (impl_IsWire.j0 k true a0_0 l0_1 l0_2))) else (impl_IsWire.j0 k true a0_0 l0_1 l0_2))) = some r:=h
 clear h
 have HC2:=Aside0.mk H
 clear H
 go_enter Try.func14,Try.ntmps14
 have go_:=trivial;repeat ((clear go_);go_upto_region 1 with (((with_reducible refine gate_dst (N:=1) rfl ?_);(try (refine gate_guard (by rfl) ?_;dsimp only));refine box_event ?hg (N:=1) ?hd (cs:=#[.int .i64 a0_0,.slice A0_1 l0_1.length c0_1,.slice A0_2 l0_2.length c0_2]) (t:=27) ?hr ?_;(case hd=>rfl);(case hg=>rfl);(case hr=>first|(go_simp;done)|(go_simp;rfl));intro gb103 hg w3 hbox hb;have BK103:=ak hbox;have GW103:=ak ((by rw [hg];exact (below_size (hm HB.out)) : w.heap.size ≤ gb103));have GE103:=ak ((by rw [hg];exact (below_size (hm HB.out)) : w.heap.size ≤ gb103));replace HB:=bs HB hb;clear hb hbox hg)))
 go_cut [31] (fun v31 wc=>∃ (kq : Nat) (x31_1 : Bool),v31 = .bool x31_1 ∧ Aside0 (impl_IsWire.j0 kq x31_1 a0_0 l0_1 l0_2 = some r) ∧ Aside0 (kq ≤ k) ∧ Aside0 (wc.heap[gb103]? = some (.cells #[.int .i64 a0_0,(.slice A0_1 l0_1.length c0_1),(.slice A0_2 l0_2.length c0_2)] 27 (0,0))) ∧ Aside0 (Below w.heap.size w wc))
 case first =>
  have H:=HC2.out
  clear HC2
  replace H:=Option.bind_eq_some_iff.mp H
  obtain ⟨t104,A40,H⟩:=H
  have A4:=Aside0.mk A40
  clear A40
  by_cases c5 : t104 = true
  rotate_left
  ·replace c5:=Bool.eq_false_iff.mpr c5
   subst c5
   rw [if_neg (show ¬ (false = true) by decide)] at H
   have H':=Aside0.mk H
   clear H
   have hcz12_0 : w3.cell? ⟨gb103,0,none⟩ = some (.int .i64 a0_0):=(blk_cell BK103.out 0).trans rfl
   have hcz12_1 : w3.cell? ⟨gb103,1,none⟩ = some (.slice A0_1 l0_1.length c0_1):=(blk_cell BK103.out 1).trans rfl
   have hcz12_2 : w3.cell? ⟨gb103,2,none⟩ = some (.slice A0_2 l0_2.length c0_2):=(blk_cell BK103.out 2).trans rfl
   have hfz12_0:=blk_frozen BK103.out 0
   have hfz12_1:=blk_frozen BK103.out 1
   have hfz12_2:=blk_frozen BK103.out 2
   have go_:=trivial;repeat ((clear go_);try go_wp2_with ((go_at_call 42;(with_reducible refine (impl_within.calls a0_0 1 30 false _ A4.out).mono ?_);rintro e w' ⟨rfl,⟨nd,rfl⟩⟩;(try first|exact ⟨rfl,_,World.drewN_drewN _ _ _⟩|exact ⟨rfl,_,Eq.trans (World.drewN_drewN _ _ _) (congrArg (World.drewN _) (Nat.add_assoc _ _ _))⟩))))
   go_meet
   case rel=>exact ⟨_,(true),fd,H',⟨by first|omega|exact Nat.le_refl _⟩,⟨bm BK103.out⟩,⟨h1 HB.out GE103.out⟩⟩
  subst c5
  rw [if_pos rfl] at H
  by_cases c6 : (l0_1.length : Int) > 8
  ·rw [if_pos c6] at H
   have c6b0 : decide (8 < (l0_1.length : Int)) = true:=decide_eq_true c6
   have c6b1 : decide (8 < l0_1.length) = true:=decide_eq_true (by omega)
   clear c6
   have H':=Aside0.mk H
   clear H
   have hcz7_0 : w3.cell? ⟨gb103,0,none⟩ = some (.int .i64 a0_0):=(blk_cell BK103.out 0).trans rfl
   have hcz7_1 : w3.cell? ⟨gb103,1,none⟩ = some (.slice A0_1 l0_1.length c0_1):=(blk_cell BK103.out 1).trans rfl
   have hcz7_2 : w3.cell? ⟨gb103,2,none⟩ = some (.slice A0_2 l0_2.length c0_2):=(blk_cell BK103.out 2).trans rfl
   have hfz7_0:=blk_frozen BK103.out 0
   have hfz7_1:=blk_frozen BK103.out 1
   have hfz7_2:=blk_frozen BK103.out 2
   have go_:=trivial;repeat ((clear go_);try go_wp2_with ((go_at_call 42;(with_reducible refine (impl_within.calls a0_0 1 30 true _ A4.out).mono ?_);rintro e w' ⟨rfl,⟨nd,rfl⟩⟩;(try first|exact ⟨rfl,_,World.drewN_drewN _ _ _⟩|exact ⟨rfl,_,Eq.trans (World.drewN_drewN _ _ _) (congrArg (World.drewN _) (Nat.add_assoc _ _ _))⟩))))
   go_meet
   case rel=>exact ⟨_,(true),fd,H',⟨by first|omega|exact Nat.le_refl _⟩,⟨bm BK103.out⟩,⟨h1 HB.out GE103.out⟩⟩
  rw [if_neg c6] at H
  have c6b0 : decide (8 < (l0_1.length : Int)) = false:=decide_eq_false c6
  have c6b1 : decide (8 < l0_1.length) = false:=decide_eq_false (by omega)
  clear c6
  by_cases c8 : (l0_2.length : Int) = (l0_1.length : Int)
  rotate_left
  ·rw [if_neg c8] at H
   have c8b0 : ((l0_2.length : Int) == (l0_1.length : Int)) = false:=beq_eq_false_iff_ne.mpr c8
   have c8b1 : ((l0_2.length : Int) != (l0_1.length : Int)) = true:=bne_iff_ne.mpr c8
   have c8b2 : (l0_2.length == l0_1.length) = false:=by first|simpa using c8|(simp at c8 ⊢;omega)
   have H':=Aside0.mk H
   clear H
   have hcz11_0 : w3.cell? ⟨gb103,0,none⟩ = some (.int .i64 a0_0):=(blk_cell BK103.out 0).trans rfl
   have hcz11_1 : w3.cell? ⟨gb103,1,none⟩ = some (.slice A0_1 l0_1.length c0_1):=(blk_cell BK103.out 1).trans rfl
   have hcz11_2 : w3.cell? ⟨gb103,2,none⟩ = some (.slice A0_2 l0_2.length c0_2):=(blk_cell BK103.out 2).trans rfl
   have hfz11_0:=blk_frozen BK103.out 0
   have hfz11_1:=blk_frozen BK103.out 1
   have hfz11_2:=blk_frozen BK103.out 2
   have go_:=trivial;repeat ((clear go_);try go_wp2_with ((go_at_call 42;(with_reducible refine (impl_within.calls a0_0 1 30 true _ A4.out).mono ?_);rintro e w' ⟨rfl,⟨nd,rfl⟩⟩;(try first|exact ⟨rfl,_,World.drewN_drewN _ _ _⟩|exact ⟨rfl,_,Eq.trans (World.drewN_drewN _ _ _) (congrArg (World.drewN _) (Nat.add_assoc _ _ _))⟩))))
   go_meet
   case rel=>exact ⟨_,(true),fd,H',⟨by first|omega|exact Nat.le_refl _⟩,⟨bm BK103.out⟩,⟨h1 HB.out GE103.out⟩⟩
  rw [if_pos c8] at H
  have c8b0 : ((l0_2.length : Int) == (l0_1.length : Int)) = true:=beq_iff_eq.mpr c8
  have c8b1 : ((l0_2.length : Int) != (l0_1.length : Int)) = false:=bne_eq_false_iff_eq.mpr c8
  have c8b2 : (l0_2.length == l0_1.length) = true:=by first|simpa using c8|(simp at c8 ⊢;omega)
  clear c8
  replace H:=Option.bind_eq_some_iff.mp H
  obtain ⟨t105,A90,H⟩:=H
  have A9:=Aside0.mk A90
  clear A90
  have H':=Aside0.mk H
  clear H
  have hcz10_0 : w3.cell? ⟨gb103,0,none⟩ = some (.int .i64 a0_0):=(blk_cell BK103.out 0).trans rfl
  have hcz10_1 : w3.cell? ⟨gb103,1,none⟩ = some (.slice A0_1 l0_1.length c0_1):=(blk_cell BK103.out 1).trans rfl
  have hcz10_2 : w3.cell? ⟨gb103,2,none⟩ = some (.slice A0_2 l0_2.length c0_2):=(blk_cell BK103.out 2).trans rfl
  have hfz10_0:=blk_frozen BK103.out 0
  have hfz10_1:=blk_frozen BK103.out 1
  have hfz10_2:=blk_frozen BK103.out 2
  have go_:=trivial;repeat ((clear go_);try go_wp2_with (first|(go_at_call 42;(with_reducible refine (impl_within.calls a0_0 1 30 true _ A4.out).mono ?_);rintro e w' ⟨rfl,⟨nd,rfl⟩⟩;(try first|exact ⟨rfl,_,World.drewN_drewN _ _ _⟩|exact ⟨rfl,_,Eq.trans (World.drewN_drewN _ _ _) (congrArg (World.drewN _) (Nat.add_assoc _ _ _))⟩))|(go_at_call 43;(with_reducible refine (impl_allWithin.calls k _ _ l0_1 0 a0_0 t105 _ ?side1 ?side2 A9.out).mono ?_);(case side1=>repeat (exact (C_below HR0_1.out (h1 HB.out GE103.out))));(case side2=>exact HC0_1.out);rintro e w' ⟨rfl,⟨nd,rfl⟩⟩;(try first|exact ⟨rfl,_,World.drewN_drewN _ _ _⟩|exact ⟨rfl,_,Eq.trans (World.drewN_drewN _ _ _) (congrArg (World.drewN _) (Nat.add_assoc _ _ _))⟩))))
  go_meet
  case rel=>exact ⟨_,(!t105),fd,H',⟨by first|omega|exact Nat.le_refl _⟩,⟨bm BK103.out⟩,⟨h1 HB.out GE103.out⟩⟩
 clear HC2
 obtain ⟨kq,x31_1,rfl,HA,HJ1,BK103,HB⟩:=hcut
 cases kq with
 | zero=>exact absurd HA.out (by simp [impl_IsWire.j0])
 | succ kj1 =>
  have H:=HA.out
  clear HA
  simp only [impl_IsWire.j0] at H
  by_cases c13 : x31_1 = true
  ·subst c13
   rw [if_pos rfl] at H
   obtain rfl:=Option.some.inj H
   go_wp2
   go_ret
   exact ⟨fe,h1 HB.out GE103.out⟩
  replace c13:=Bool.eq_false_iff.mpr c13
  subst c13
  rw [if_neg (show ¬ (false = true) by decide)] at H
  have H':=Aside0.mk H
  clear H
  have hcz14_0 : wc.cell? ⟨gb103,0,none⟩ = some (.int .i64 a0_0):=(blk_cell BK103.out 0).trans rfl
  have hcz14_1 : wc.cell? ⟨gb103,1,none⟩ = some (.slice A0_1 l0_1.length c0_1):=(blk_cell BK103.out 1).trans rfl
  have hcz14_2 : wc.cell? ⟨gb103,2,none⟩ = some (.slice A0_2 l0_2.length c0_2):=(blk_cell BK103.out 2).trans rfl
  have hfz14_0:=blk_frozen BK103.out 0
  have hfz14_1:=blk_frozen BK103.out 1
  have hfz14_2:=blk_frozen BK103.out 2
  go_wp2
  go_loopg [35] kj1 (fun kq v35 w'=>∃ (x35_2 : Int),v35 = .int .i64 x35_2 ∧ Aside0 (impl_IsWire.l0 kq l0_2 (l0_2.length : Int) x35_2 a0_0 l0_1 l0_2 = some r) ∧ Aside0 (kq ≤ kj1) ∧ Aside0 (w'.heap[gb103]? = some (.cells #[.int .i64 a0_0,(.slice A0_1 l0_1.length c0_1),(.slice A0_2 l0_2.length c0_2)] 27 (0,0))) ∧ Aside0 (Below w.heap.size w w'))
  case atStart=>exact ⟨(0),fd,H',⟨Nat.le_refl _⟩,⟨bm BK103.out⟩,⟨h1 HB.out GE103.out⟩⟩
  clear H'
  clear hcz14_0 hcz14_1 hcz14_2 hfz14_0 hfz14_1 hfz14_2
  obtain ⟨x35_2,rfl,HA,HK2,BK103,HB⟩:=hrel
  cases gk with
  | zero=>exact absurd HA.out (by simp [impl_IsWire.l0])
  | succ k2 =>
   have H:=HA.out
   clear HA
   simp only [impl_IsWire.l0] at H
   by_cases c15 : x35_2 < (l0_2.length : Int)
   rotate_left
   ·rw [if_neg c15] at H
    have c15b0 : decide (x35_2 < (l0_2.length : Int)) = false:=decide_eq_false c15
    clear c15
    obtain rfl:=Option.some.inj H
    go_wp2
    go_ret
    exact ⟨fe,h1 HB.out GE103.out⟩
   rw [if_pos c15] at H
   have c15b0 : decide (x35_2 < (l0_2.length : Int)) = true:=decide_eq_true c15
   clear c15
   by_cases c16 : 0 ≤ x35_2
   rotate_left
   ·rw [if_neg c16] at H
    exact absurd H (by simp)
   rw [if_pos c16] at H
   have c16b0 : decide (0 ≤ x35_2) = true:=decide_eq_true c16
   clear c16
   by_cases c17 : x35_2 < (l0_2.length : Int)
   rotate_left
   ·rw [if_neg c17] at H
    exact absurd H (by simp)
   rw [if_pos c17] at H
   have c17b0 : decide (x35_2 < (l0_2.length : Int)) = true:=decide_eq_true c17
   clear c17
   by_cases c18 : (rd l0_2 x35_2) = 1
   ·rw [if_pos c18] at H
    have c18b0 : ((rd l0_2 x35_2) == 1) = true:=beq_iff_eq.mpr c18
    have c18b1 : ((rd l0_2 x35_2) != 1) = false:=bne_eq_false_iff_eq.mpr c18
    clear c18
    by_cases c19 : x35_2 > 0
    rotate_left
    ·rw [if_neg c19] at H
     have c19b0 : decide (0 < x35_2) = false:=decide_eq_false c19
     clear c19
     have H':=Aside0.mk H
     clear H
     have p106 : 0 ≤ (x35_2 : Int):=od
     have q106 : x35_2 < (l0_2.length : Int):=od
     obtain ⟨ad106,e106,hx106_0⟩:=Kd.at_int HR0_2.out x35_2 p106 q106
     cases e106
     replace hx106_0:=(HB.out.cell (World.block_lt_of_cell? w _ hx106_0)).trans hx106_0
     replace p106:=eq_true p106
     replace q106:=eq_true q106
     go_wp2
     repeat (go_quiet (fail);try go_wp2)
     go_roundg k2
     case measure=>have:=HJ1.out;have:=HK2.out;omega
     case rel=>exact ⟨(wrap64 (x35_2 + 1)),fd,H',⟨by have:=HJ1.out;have:=HK2.out;omega⟩,⟨bm BK103.out⟩,⟨h1 HB.out GE103.out⟩⟩
    rw [if_pos c19] at H
    have c19b0 : decide (0 < x35_2) = true:=decide_eq_true c19
    clear c19
    obtain ⟨ji20,hji20⟩ : ∃ j_ : Int,(wrap64 (x35_2 - 1)) = j_:=⟨_,rfl⟩
    replace H : (if 0 ≤ (ji20) then (if (ji20) < (l0_1.length : Int) then (if x35_2 < (l0_1.length : Int) then (if (rd l0_1 (ji20)) ≥ (rd l0_1 x35_2) then (some false) else (impl_IsWire.l0 k2 l0_2 (l0_2.length : Int) (wrap64 (x35_2 + 1)) a0_0 l0_1 l0_2)) else (none)) else (none)) else (none)) = some r:=by first|(rw [hji20] at H;exact H)|(simp only [hji20] at H ⊢;exact H)
    have hji20w : (IntKind.i64.wrap (x35_2 - 1)) = ji20:=(i64_w _).trans hji20
    by_cases c21 : 0 ≤ (ji20)
    rotate_left
    ·rw [if_neg c21] at H
     exact absurd H (by simp)
    rw [if_pos c21] at H
    have c21b0 : decide (0 ≤ (ji20)) = true:=decide_eq_true c21
    clear c21
    by_cases c22 : (ji20) < (l0_1.length : Int)
    rotate_left
    ·rw [if_neg c22] at H
     exact absurd H (by simp)
    rw [if_pos c22] at H
    have c22b0 : decide ((ji20) < (l0_1.length : Int)) = true:=decide_eq_true c22
    clear c22
    by_cases c23 : x35_2 < (l0_1.length : Int)
    rotate_left
    ·rw [if_neg c23] at H
     exact absurd H (by simp)
    rw [if_pos c23] at H
    have c23b0 : decide (x35_2 < (l0_1.length : Int)) = true:=decide_eq_true c23
    clear c23
    by_cases c24 : (rd l0_1 (ji20)) ≥ (rd l0_1 x35_2)
    ·rw [if_pos c24] at H
     have c24b0 : decide ((rd l0_1 x35_2) ≤ (rd l0_1 (ji20))) = true:=decide_eq_true c24
     clear c24
     obtain rfl:=Option.some.inj H
     have p106 : 0 ≤ (x35_2 : Int):=od
     have q106 : x35_2 < (l0_2.length : Int):=od
     obtain ⟨ad106,e106,hx106_0⟩:=Kd.at_int HR0_2.out x35_2 p106 q106
     cases e106
     replace hx106_0:=(HB.out.cell (World.block_lt_of_cell? w _ hx106_0)).trans hx106_0
     replace p106:=eq_true p106
     replace q106:=eq_true q106
     have hcz25_0 : wr.cell? ⟨gb103,0,none⟩ = some (.int .i64 a0_0):=(blk_cell BK103.out 0).trans rfl
     have hcz25_1 : wr.cell? ⟨gb103,1,none⟩ = some (.slice A0_1 l0_1.length c0_1):=(blk_cell BK103.out 1).trans rfl
     have hcz25_2 : wr.cell? ⟨gb103,2,none⟩ = some (.slice (some ad106) l0_2.length c0_2):=(blk_cell BK103.out 2).trans rfl
     have hfz25_0:=blk_frozen BK103.out 0
     have hfz25_1:=blk_frozen BK103.out 1
     have hfz25_2:=blk_frozen BK103.out 2
     have p107 : 0 ≤ ((ji20) : Int):=od
     have q107 : (ji20) < (l0_1.length : Int):=od
     obtain ⟨ad107,e107,hx107_0⟩:=Kd.at_int HR0_1.out (ji20) p107 q107
     cases e107
     replace hx107_0:=(HB.out.cell (World.block_lt_of_cell? w _ hx107_0)).trans hx107_0
     replace p107:=eq_true p107
     replace q107:=eq_true q107
     have p108 : 0 ≤ (x35_2 : Int):=od
     have q108 : x35_2 < (l0_1.length : Int):=od
     obtain ⟨ad108,e108,hx108_0⟩:=Kd.at_int HR0_1.out x35_2 p108 q108
     obtain rfl : ad107 = ad108:=(by injection e108)
     replace hx108_0:=(HB.out.cell (World.block_lt_of_cell? w _ hx108_0)).trans hx108_0
     replace p108:=eq_true p108
     replace q108:=eq_true q108
     go_wp2
     repeat (go_quiet (fail);try go_wp2)
     go_ret
     exact ⟨by first|rfl|(simp [errW_none,errW_some] <;> rfl)|(simp only [← hji20];first|rfl|(simp [errW_none,errW_some] <;> rfl))|(simp [*,errW_none,errW_some] <;> rfl),h1 HB.out GE103.out⟩
    rw [if_neg c24] at H
    have c24b0 : decide ((rd l0_1 x35_2) ≤ (rd l0_1 (ji20))) = false:=decide_eq_false c24
    clear c24
    have H':=Aside0.mk H
    clear H
    have p106 : 0 ≤ (x35_2 : Int):=od
    have q106 : x35_2 < (l0_2.length : Int):=od
    obtain ⟨ad106,e106,hx106_0⟩:=Kd.at_int HR0_2.out x35_2 p106 q106
    cases e106
    replace hx106_0:=(HB.out.cell (World.block_lt_of_cell? w _ hx106_0)).trans hx106_0
    replace p106:=eq_true p106
    replace q106:=eq_true q106
    have hcz26_0 : wr.cell? ⟨gb103,0,none⟩ = some (.int .i64 a0_0):=(blk_cell BK103.out 0).trans rfl
    have hcz26_1 : wr.cell? ⟨gb103,1,none⟩ = some (.slice A0_1 l0_1.length c0_1):=(blk_cell BK103.out 1).trans rfl
    have hcz26_2 : wr.cell? ⟨gb103,2,none⟩ = some (.slice (some ad106) l0_2.length c0_2):=(blk_cell BK103.out 2).trans rfl
    have hfz26_0:=blk_frozen BK103.out 0
    have hfz26_1:=blk_frozen BK103.out 1
    have hfz26_2:=blk_frozen BK103.out 2
    have p107 : 0 ≤ ((ji20) : Int):=od
    have q107 : (ji20) < (l0_1.length : Int):=od
    obtain ⟨ad107,e107,hx107_0⟩:=Kd.at_int HR0_1.out (ji20) p107 q107
    cases e107
    replace hx107_0:=(HB.out.cell (World.block_lt_of_cell? w _ hx107_0)).trans hx107_0
    replace p107:=eq_true p107
    replace q107:=eq_true q107
    have p108 : 0 ≤ (x35_2 : Int):=od
    have q108 : x35_2 < (l0_1.length : Int):=od
    obtain ⟨ad108,e108,hx108_0⟩:=Kd.at_int HR0_1.out x35_2 p108 q108
    obtain rfl : ad107 = ad108:=(by injection e108)
    replace hx108_0:=(HB.out.cell (World.block_lt_of_cell? w _ hx108_0)).trans hx108_0
    replace p108:=eq_true p108
    replace q108:=eq_true q108
    go_wp2
    repeat (go_quiet (fail);try go_wp2)
    go_roundg k2
    case measure=>have:=HJ1.out;have:=HK2.out;omega
    case rel=>exact ⟨(wrap64 (x35_2 + 1)),fd,H',⟨by have:=HJ1.out;have:=HK2.out;omega⟩,⟨bm BK103.out⟩,⟨h1 HB.out GE103.out⟩⟩
   rw [if_neg c18] at H
   have c18b0 : ((rd l0_2 x35_2) == 1) = false:=beq_eq_false_iff_ne.mpr c18
   have c18b1 : ((rd l0_2 x35_2) != 1) = true:=bne_iff_ne.mpr c18
   by_cases c27 : (rd l0_2 x35_2) = (-1)
   rotate_left
   ·rw [if_neg c27] at H
    have c27b0 : ((rd l0_2 x35_2) == (-1)) = false:=beq_eq_false_iff_ne.mpr c27
    have c27b1 : ((rd l0_2 x35_2) != (-1)) = true:=bne_iff_ne.mpr c27
    obtain rfl:=Option.some.inj H
    have p106 : 0 ≤ (x35_2 : Int):=od
    have q106 : x35_2 < (l0_2.length : Int):=od
    obtain ⟨ad106,e106,hx106_0⟩:=Kd.at_int HR0_2.out x35_2 p106 q106
    cases e106
    replace hx106_0:=(HB.out.cell (World.block_lt_of_cell? w _ hx106_0)).trans hx106_0
    replace p106:=eq_true p106
    replace q106:=eq_true q106
    go_wp2
    repeat (go_quiet (fail);try go_wp2)
    go_ret
    exact ⟨fe,h1 HB.out GE103.out⟩
   rw [if_pos c27] at H
   have c27b0 : ((rd l0_2 x35_2) == (-1)) = true:=beq_iff_eq.mpr c27
   have c27b1 : ((rd l0_2 x35_2) != (-1)) = false:=bne_eq_false_iff_eq.mpr c27
   clear c27
   by_cases c28 : x35_2 > 0
   rotate_left
   ·rw [if_neg c28] at H
    have c28b0 : decide (0 < x35_2) = false:=decide_eq_false c28
    clear c28
    have H':=Aside0.mk H
    clear H
    have p106 : 0 ≤ (x35_2 : Int):=od
    have q106 : x35_2 < (l0_2.length : Int):=od
    obtain ⟨ad106,e106,hx106_0⟩:=Kd.at_int HR0_2.out x35_2 p106 q106
    cases e106
    replace hx106_0:=(HB.out.cell (World.block_lt_of_cell? w _ hx106_0)).trans hx106_0
    replace p106:=eq_true p106
    replace q106:=eq_true q106
    go_wp2
    repeat (go_quiet (fail);try go_wp2)
    go_roundg k2
    case measure=>have:=HJ1.out;have:=HK2.out;omega
    case rel=>exact ⟨(wrap64 (x35_2 + 1)),fd,H',⟨by have:=HJ1.out;have:=HK2.out;omega⟩,⟨bm BK103.out⟩,⟨h1 HB.out GE103.out⟩⟩
   rw [if_pos c28] at H
   have c28b0 : decide (0 < x35_2) = true:=decide_eq_true c28
   clear c28
   obtain ⟨ji29,hji29⟩ : ∃ j_ : Int,(wrap64 (x35_2 - 1)) = j_:=⟨_,rfl⟩
   replace H : (if 0 ≤ (ji29) then (if (ji29) < (l0_1.length : Int) then (if x35_2 < (l0_1.length : Int) then (if (rd l0_1 (ji29)) ≥ (rd l0_1 x35_2) then (some false) else (impl_IsWire.l0 k2 l0_2 (l0_2.length : Int) (wrap64 (x35_2 + 1)) a0_0 l0_1 l0_2)) else (none)) else (none)) else (none)) = some r:=by first|(rw [hji29] at H;exact H)|(simp only [hji29] at H ⊢;exact H)
   have hji29w : (IntKind.i64.wrap (x35_2 - 1)) = ji29:=(i64_w _).trans hji29
   by_cases c30 : 0 ≤ (ji29)
   rotate_left
   ·rw [if_neg c30] at H
    exact absurd H (by simp)
   rw [if_pos c30] at H
   have c30b0 : decide (0 ≤ (ji29)) = true:=decide_eq_true c30
   clear c30
   by_cases c31 : (ji29) < (l0_1.length : Int)
   rotate_left
   ·rw [if_neg c31] at H
    exact absurd H (by simp)
   rw [if_pos c31] at H
   have c31b0 : decide ((ji29) < (l0_1.length : Int)) = true:=decide_eq_true c31
   clear c31
   by_cases c32 : x35_2 < (l0_1.length : Int)
   rotate_left
   ·rw [if_neg c32] at H
    exact absurd H (by simp)
   rw [if_pos c32] at H
   have c32b0 : decide (x35_2 < (l0_1.length : Int)) = true:=decide_eq_true c32
   clear c32
   by_cases c33 : (rd l0_1 (ji29)) ≥ (rd l0_1 x35_2)
   ·rw [if_pos c33] at H
    have c33b0 : decide ((rd l0_1 x35_2) ≤ (rd l0_1 (ji29))) = true:=decide_eq_true c33
    clear c33
    obtain rfl:=Option.some.inj H
    have p106 : 0 ≤ (x35_2 : Int):=od
    have q106 : x35_2 < (l0_2.length : Int):=od
    obtain ⟨ad106,e106,hx106_0⟩:=Kd.at_int HR0_2.out x35_2 p106 q106
    cases e106
    replace hx106_0:=(HB.out.cell (World.block_lt_of_cell? w _ hx106_0)).trans hx106_0
    replace p106:=eq_true p106
    replace q106:=eq_true q106
    have hcz34_0 : wr.cell? ⟨gb103,0,none⟩ = some (.int .i64 a0_0):=(blk_cell BK103.out 0).trans rfl
    have hcz34_1 : wr.cell? ⟨gb103,1,none⟩ = some (.slice A0_1 l0_1.length c0_1):=(blk_cell BK103.out 1).trans rfl
    have hcz34_2 : wr.cell? ⟨gb103,2,none⟩ = some (.slice (some ad106) l0_2.length c0_2):=(blk_cell BK103.out 2).trans rfl
    have hfz34_0:=blk_frozen BK103.out 0
    have hfz34_1:=blk_frozen BK103.out 1
    have hfz34_2:=blk_frozen BK103.out 2
    have p109 : 0 ≤ ((ji29) : Int):=od
    have q109 : (ji29) < (l0_1.length : Int):=od
    obtain ⟨ad109,e109,hx109_0⟩:=Kd.at_int HR0_1.out (ji29) p109 q109
    cases e109
    replace hx109_0:=(HB.out.cell (World.block_lt_of_cell? w _ hx109_0)).trans hx109_0
    replace p109:=eq_true p109
    replace q109:=eq_true q109
    have p110 : 0 ≤ (x35_2 : Int):=od
    have q110 : x35_2 < (l0_1.length : Int):=od
    obtain ⟨ad110,e110,hx110_0⟩:=Kd.at_int HR0_1.out x35_2 p110 q110
    obtain rfl : ad109 = ad110:=(by injection e110)
    replace hx110_0:=(HB.out.cell (World.block_lt_of_cell? w _ hx110_0)).trans hx110_0
    replace p110:=eq_true p110
    replace q110:=eq_true q110
    go_wp2
    repeat (go_quiet (fail);try go_wp2)
    go_ret
    exact ⟨by first|rfl|(simp [errW_none,errW_some] <;> rfl)|(simp only [← hji29];first|rfl|(simp [errW_none,errW_some] <;> rfl))|(simp [*,errW_none,errW_some] <;> rfl),h1 HB.out GE103.out⟩
   rw [if_neg c33] at H
   have c33b0 : decide ((rd l0_1 x35_2) ≤ (rd l0_1 (ji29))) = false:=decide_eq_false c33
   clear c33
   have H':=Aside0.mk H
   clear H
   have p106 : 0 ≤ (x35_2 : Int):=od
   have q106 : x35_2 < (l0_2.length : Int):=od
   obtain ⟨ad106,e106,hx106_0⟩:=Kd.at_int HR0_2.out x35_2 p106 q106
   cases e106
   replace hx106_0:=(HB.out.cell (World.block_lt_of_cell? w _ hx106_0)).trans hx106_0
   replace p106:=eq_true p106
   replace q106:=eq_true q106
   have hcz35_0 : wr.cell? ⟨gb103,0,none⟩ = some (.int .i64 a0_0):=(blk_cell BK103.out 0).trans rfl
   have hcz35_1 : wr.cell? ⟨gb103,1,none⟩ = some (.slice A0_1 l0_1.length c0_1):=(blk_cell BK103.out 1).trans rfl
   have hcz35_2 : wr.cell? ⟨gb103,2,none⟩ = some (.slice (some ad106) l0_2.length c0_2):=(blk_cell BK103.out 2).trans rfl
   have hfz35_0:=blk_frozen BK103.out 0
   have hfz35_1:=blk_frozen BK103.out 1
   have hfz35_2:=blk_frozen BK103.out 2
   have p109 : 0 ≤ ((ji29) : Int):=od
   have q109 : (ji29) < (l0_1.length : Int):=od
   obtain ⟨ad109,e109,hx109_0⟩:=Kd.at_int HR0_1.out (ji29) p109 q109
   cases e109
   replace hx109_0:=(HB.out.cell (World.block_lt_of_cell? w _ hx109_0)).trans hx109_0
   replace p109:=eq_true p109
   replace q109:=eq_true q109
   have p110 : 0 ≤ (x35_2 : Int):=od
   have q110 : x35_2 < (l0_1.length : Int):=od
   obtain ⟨ad110,e110,hx110_0⟩:=Kd.at_int HR0_1.out x35_2 p110 q110
   obtain rfl : ad109 = ad110:=(by injection e110)
   replace hx110_0:=(HB.out.cell (World.block_lt_of_cell? w _ hx110_0)).trans hx110_0
   replace p110:=eq_true p110
   replace q110:=eq_true q110
   go_wp2
   repeat (go_quiet (fail);try go_wp2)
   go_roundg k2
   case measure=>have:=HJ1.out;have:=HK2.out;omega
   case rel=>exact ⟨(wrap64 (x35_2 + 1)),fd,H',⟨by have:=HJ1.out;have:=HK2.out;omega⟩,⟨bm BK103.out⟩,⟨h1 HB.out GE103.out⟩⟩

/-! ### spec_l1In: function 58 -/
def spec_l1In.f (a0 : Int) (a1 : Int) (a2 : Int) : Option (Bool):=if a0 ≥ a1 then (some (decide (a0 ≤ a2))) else (some false)
set_option maxHeartbeats 8000000 in
set_option maxRecDepth 100000 in
theorem spec_l1In.calls (a0 : Int) (a1 : Int) (a2 : Int) (r : Bool) (w : World) (h : spec_l1In.f a0 a1 a2 = some r) :
  Calls Try.prog 58 #[.int .i64 a0,.int .i64 a1,.int .i64 a2] w fun e w'=>e = .returned (.bool r) ∧ Drawn0 w w':=by
 have H : (if a0 ≥ a1 then (some (decide (a0 ≤ a2))) else (some false)) = some r:=h
 clear h
 by_cases c4 : a0 ≥ a1
 ·rw [if_pos c4] at H
  have c4b0 : decide (a1 ≤ a0) = true:=decide_eq_true c4
  clear c4
  obtain rfl:=Option.some.inj H
  go_enter Try.func58,Try.ntmps58
  go_wp2
  go_ret
  exact ⟨by first|rfl|(simp;done)|(simp [*];done),by repeat (exact Drawn0.refl _)⟩
 rw [if_neg c4] at H
 have c4b0 : decide (a1 ≤ a0) = false:=decide_eq_false c4
 clear c4
 obtain rfl:=Option.some.inj H
 go_enter Try.func58,Try.ntmps58
 go_wp2
 go_ret
 exact ⟨by first|rfl|(simp;done)|(simp [*];done),by repeat (exact Drawn0.refl _)⟩


end
end Go.Proofs.Ytciihopkgblpkaa.QFnWires
