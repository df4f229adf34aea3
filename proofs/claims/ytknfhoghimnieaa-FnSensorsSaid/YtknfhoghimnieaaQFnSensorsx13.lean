/- Functions that the law FnSensors comes to, as Lean functions, with the proof that the Go code does what they say: written by a program of this session over the kit's print. No condition but those named. -/
import Derived.Test.YtknfhoghimnieaaQFnSensorsx0
import Derived.Test.YtknfhoghimnieaaQFnSensorsx1
import Derived.Test.YtknfhoghimnieaaQFnSensorsx2
namespace Go.Proofs.Ytknfhoghimnieaa.QFnSensors
open Go.RowKit Go.Proofs.YtknfhoghimnieaaW.PrintWords Go.Proofs.YtknfhoghimnieaaW.PrintLast Go.Proofs.YtknfhoghimnieaaW.PrintMore Go.Proofs.Ytknfhoghimnieaa.Short
attribute [local go_sem] max2_int min2_int max_two min_two max_three min_three max_four min_four   -- for this text's walks alone
set_option linter.unusedVariables false
set_option linter.unusedSimpArgs false

attribute [local go_sem high] eqA54 eqA59
section
open Kd
/-! ### laws_vPairs: function 39 -/
def laws_vPairs.l0 : Nat → List (S54) → List (S54) → Int → Option (Bool)
 | 0,_,_,_=>none
 | k + 1,x0,x1,x5=>if x5 < (x0.length : Int) then (if 0 ≤ x5 then (if x5 < (x1.length : Int) then (if (!(((rd_T54 x0 x5).f0) == ((rd_T54 x1 x5).f0)) || (!(((rd_T54 x0 x5).f1) == ((rd_T54 x1 x5).f1)))) = true then (some false) else (laws_vPairs.l0 k x0 x1 (wrap64 (x5 + 1)))) else (none)) else (none)) else (some true)
def laws_vPairs.f (k : Nat) (l0 : List (S54)) (l1 : List (S54)) : Option (Bool):=if (l0.length : Int) = (l1.length : Int) then (laws_vPairs.l0 k l0 l1 0) else (some false)
theorem laws_vPairs.mono_l : ∀ k,(∀ y0 y1 y2,LeO (laws_vPairs.l0 k y0 y1 y2) (laws_vPairs.l0 (k + 1) y0 y1 y2))
 | 0=>by
  refine ?_<;>(intros;intro r h;simp [laws_vPairs.l0] at h)
 | k + 1=>by
  have ih0:=laws_vPairs.mono_l k
  refine ?_<;>intros<;>(first|unfold laws_vPairs.l0)<;>(repeat' first|(with_reducible exact ih0 ..)|(with_reducible exact LeO.refl _)|(with_reducible exact LeO.none _)|(with_reducible refine LeO.ite ?_ ?_)|(with_reducible refine LeO.bind ?_ (fun _=>?_))|exact ih0 ..|exact LeO.none _|refine LeO.ite ?_ ?_|refine LeO.bind ?_ (fun _=>?_))
theorem laws_vPairs.mono : ∀ a0 a1 k,LeO (laws_vPairs.f k a0 a1) (laws_vPairs.f (k + 1) a0 a1):=by
 intro a0 a1 k
 have ih0:=laws_vPairs.mono_l k
 unfold laws_vPairs.f
 repeat' first
   | (with_reducible exact ih0 _ _ _)
   | (with_reducible exact LeO.refl _)
   | (with_reducible exact LeO.none _)
   | (with_reducible refine LeO.ite ?_ ?_)
   | (with_reducible refine LeO.bind ?_ (fun _=>?_))
   | exact ih0 _ _ _
   | exact LeO.none _
   | refine LeO.ite ?_ ?_
   | refine LeO.bind ?_ (fun _=>?_)
set_option maxHeartbeats 8000000 in
set_option maxRecDepth 100000 in
theorem laws_vPairs.calls (k : Nat) (A0 : Option Addr) (c0 : Nat) (l0 : List (S54)) (A1 : Option Addr) (c1 : Nat) (l1 : List (S54)) (r : Bool) (w : World) (hr0 : Kd.C k54 w A0 l0.length l0) (hc0 : l0.length ≤ c0) (hr1 : Kd.C k54 w A1 l1.length l1) (hc1 : l1.length ≤ c1) (h : laws_vPairs.f k l0 l1 = some r) :
  Calls Try.prog 39 #[.slice A0 l0.length c0,.slice A1 l1.length c1] w fun e w'=>e = .returned (.bool r) ∧ Drawn0 w w':=by
 have hu54:=Try.underlying54
 have HR0:=Aside0.mk hr0
 have HC0:=Aside0.mk hc0
 clear hr0 hc0
 have HR1:=Aside0.mk hr1
 have HC1:=Aside0.mk hc1
 clear hr1 hc1
 have H : (if (l0.length : Int) = (l1.length : Int) then (laws_vPairs.l0 k l0 l1 0) else (some false)) = some r:=h
 clear h
 by_cases c3 : (l0.length : Int) = (l1.length : Int)
 rotate_left
 ·rw [if_neg c3] at H
  have c3b0 : ((l0.length : Int) == (l1.length : Int)) = false:=beq_eq_false_iff_ne.mpr c3
  have c3b1 : ((l0.length : Int) != (l1.length : Int)) = true:=bne_iff_ne.mpr c3
  have c3b2 : (l0.length == l1.length) = false:=by first|simpa using c3|(simp at c3 ⊢;omega)
  obtain rfl:=Option.some.inj H
  go_enter Try.func39,Try.ntmps39
  go_wp2
  repeat (go_quiet (fail);try go_wp2)
  go_ret
  exact ⟨by first|rfl|(simp;done)|(simp [*];done),by repeat (first|exact Drawn0.refl _|apply Drawn0.step)⟩
 rw [if_pos c3] at H
 have c3b0 : ((l0.length : Int) == (l1.length : Int)) = true:=beq_iff_eq.mpr c3
 have c3b1 : ((l0.length : Int) != (l1.length : Int)) = false:=bne_eq_false_iff_eq.mpr c3
 have c3b2 : (l0.length == l1.length) = true:=by first|simpa using c3|(simp at c3 ⊢;omega)
 clear c3
 have H':=Aside0.mk H
 clear H
 go_enter Try.func39,Try.ntmps39
 go_wp2
 repeat (go_quiet (fail);try go_wp2)
 go_loopg [5] k (fun kq v5 w'=>∃ (x5_1 : Int),v5 = .int .i64 x5_1 ∧ Aside0 (laws_vPairs.l0 kq l0 l1 x5_1 = some r) ∧ Aside0 (kq ≤ k) ∧ Drawn0 w w')
 case atStart=>exact ⟨(0),fd,H',⟨Nat.le_refl _⟩,by repeat (first|exact Drawn0.refl _|apply Drawn0.step)⟩
 clear H'
 try clear c1
 try clear p2
 try clear c3
 try clear c3b0
 try clear c3b1
 try clear c3b2
 obtain ⟨x5_1,rfl,HA,HK1,⟨m1,rfl⟩⟩:=hrel
 cases gk with
 | zero=>exact absurd HA.out (by simp [laws_vPairs.l0])
 | succ k1 =>
  have H:=HA.out
  clear HA
  simp only [laws_vPairs.l0] at H
  by_cases c4 : x5_1 < (l0.length : Int)
  rotate_left
  ·rw [if_neg c4] at H
   have c4b0 : decide (x5_1 < (l0.length : Int)) = false:=decide_eq_false c4
   clear c4
   obtain rfl:=Option.some.inj H
   go_wp2
   repeat (go_quiet (fail);try go_wp2)
   go_ret
   exact ⟨by first|rfl|(simp;done)|(simp [*];done),by repeat (first|exact Drawn0.refl _|apply Drawn0.step)⟩
  rw [if_pos c4] at H
  have c4b0 : decide (x5_1 < (l0.length : Int)) = true:=decide_eq_true c4
  clear c4
  by_cases c5 : 0 ≤ x5_1
  rotate_left
  ·rw [if_neg c5] at H
   exact absurd H (by simp)
  rw [if_pos c5] at H
  have c5b0 : decide (0 ≤ x5_1) = true:=decide_eq_true c5
  clear c5
  by_cases c6 : x5_1 < (l1.length : Int)
  rotate_left
  ·rw [if_neg c6] at H
   exact absurd H (by simp)
  rw [if_pos c6] at H
  have c6b0 : decide (x5_1 < (l1.length : Int)) = true:=decide_eq_true c6
  clear c6
  by_cases c7 : (!(((rd_T54 l0 x5_1).f0) == ((rd_T54 l1 x5_1).f0)) || (!(((rd_T54 l0 x5_1).f1) == ((rd_T54 l1 x5_1).f1)))) = true
  ·rw [if_pos c7] at H
   have c7b0 : (!(((rd_T54 l0 x5_1).f0) == ((rd_T54 l1 x5_1).f0)) || (!(((rd_T54 l0 x5_1).f1) == ((rd_T54 l1 x5_1).f1)))) = true:=c7
   clear c7
   obtain rfl:=Option.some.inj H
   have p464 : 0 ≤ (x5_1 : Int):=od
   have q464 : x5_1 < (l0.length : Int):=od
   obtain ⟨ad464,e464,hx464_0,hx464_1⟩:=at_T54 HR0.out x5_1 p464 q464
   cases e464
   replace p464:=eq_true p464
   replace q464:=eq_true q464
   have p465 : 0 ≤ (x5_1 : Int):=od
   have q465 : x5_1 < (l1.length : Int):=od
   obtain ⟨ad465,e465,hx465_0,hx465_1⟩:=at_T54 HR1.out x5_1 p465 q465
   cases e465
   replace p465:=eq_true p465
   replace q465:=eq_true q465
   go_wp2
   repeat (go_quiet (fail);try go_wp2)
   go_ret
   exact ⟨by first|rfl|(simp;done)|(simp [*];done),by repeat (first|exact Drawn0.refl _|apply Drawn0.step)⟩
  rw [if_neg c7] at H
  have c7b0 : (!(((rd_T54 l0 x5_1).f0) == ((rd_T54 l1 x5_1).f0)) || (!(((rd_T54 l0 x5_1).f1) == ((rd_T54 l1 x5_1).f1)))) = false:=by simpa using c7
  clear c7
  have H':=Aside0.mk H
  clear H
  have p464 : 0 ≤ (x5_1 : Int):=od
  have q464 : x5_1 < (l0.length : Int):=od
  obtain ⟨ad464,e464,hx464_0,hx464_1⟩:=at_T54 HR0.out x5_1 p464 q464
  cases e464
  replace p464:=eq_true p464
  replace q464:=eq_true q464
  have p465 : 0 ≤ (x5_1 : Int):=od
  have q465 : x5_1 < (l1.length : Int):=od
  obtain ⟨ad465,e465,hx465_0,hx465_1⟩:=at_T54 HR1.out x5_1 p465 q465
  cases e465
  replace p465:=eq_true p465
  replace q465:=eq_true q465
  go_wp2
  repeat (go_quiet (fail);try go_wp2)
  go_roundg k1
  case measure=>have:=HK1.out;omega
  case rel=>exact ⟨(wrap64 (x5_1 + 1)),fd,H',⟨by have:=HK1.out;omega⟩,by repeat (first|exact Drawn0.refl _|apply Drawn0.step)⟩

/-! ### laws_vSensors: function 40 -/
def laws_vSensors.l0 : Nat → List (S59) → List (S59) → Int → Option (Bool)
 | 0,_,_,_=>none
 | k + 1,x0,x1,x5=>if x5 < (x0.length : Int) then (if 0 ≤ x5 then (if x5 < (x1.length : Int) then (if (!(((rd_T59 x0 x5).f0) == ((rd_T59 x1 x5).f0)) || (!(((rd_T59 x0 x5).f1) == ((rd_T59 x1 x5).f1)))) = true then (some false) else (laws_vSensors.l0 k x0 x1 (wrap64 (x5 + 1)))) else (none)) else (none)) else (some true)
def laws_vSensors.f (k : Nat) (l0 : List (S59)) (l1 : List (S59)) : Option (Bool):=if (l0.length : Int) = (l1.length : Int) then (laws_vSensors.l0 k l0 l1 0) else (some false)
theorem laws_vSensors.mono_l : ∀ k,(∀ y0 y1 y2,LeO (laws_vSensors.l0 k y0 y1 y2) (laws_vSensors.l0 (k + 1) y0 y1 y2))
 | 0=>by
  refine ?_<;>(intros;intro r h;simp [laws_vSensors.l0] at h)
 | k + 1=>by
  have ih0:=laws_vSensors.mono_l k
  refine ?_<;>intros<;>(first|unfold laws_vSensors.l0)<;>(repeat' first|(with_reducible exact ih0 ..)|(with_reducible exact LeO.refl _)|(with_reducible exact LeO.none _)|(with_reducible refine LeO.ite ?_ ?_)|(with_reducible refine LeO.bind ?_ (fun _=>?_))|exact ih0 ..|exact LeO.none _|refine LeO.ite ?_ ?_|refine LeO.bind ?_ (fun _=>?_))
theorem laws_vSensors.mono : ∀ a0 a1 k,LeO (laws_vSensors.f k a0 a1) (laws_vSensors.f (k + 1) a0 a1):=by
 intro a0 a1 k
 have ih0:=laws_vSensors.mono_l k
 unfold laws_vSensors.f
 repeat' first
   | (with_reducible exact ih0 _ _ _)
   | (with_reducible exact LeO.refl _)
   | (with_reducible exact LeO.none _)
   | (with_reducible refine LeO.ite ?_ ?_)
   | (with_reducible refine LeO.bind ?_ (fun _=>?_))
   | exact ih0 _ _ _
   | exact LeO.none _
   | refine LeO.ite ?_ ?_
   | refine LeO.bind ?_ (fun _=>?_)
set_option maxHeartbeats 8000000 in
set_option maxRecDepth 100000 in
theorem laws_vSensors.calls (k : Nat) (A0 : Option Addr) (c0 : Nat) (l0 : List (S59)) (A1 : Option Addr) (c1 : Nat) (l1 : List (S59)) (r : Bool) (w : World) (hr0 : Kd.C k59 w A0 l0.length l0) (hc0 : l0.length ≤ c0) (hr1 : Kd.C k59 w A1 l1.length l1) (hc1 : l1.length ≤ c1) (h : laws_vSensors.f k l0 l1 = some r) :
  Calls Try.prog 40 #[.slice A0 l0.length c0,.slice A1 l1.length c1] w fun e w'=>e = .returned (.bool r) ∧ Drawn0 w w':=by
 have hu59:=Try.underlying59
 have HR0:=Aside0.mk hr0
 have HC0:=Aside0.mk hc0
 clear hr0 hc0
 have HR1:=Aside0.mk hr1
 have HC1:=Aside0.mk hc1
 clear hr1 hc1
 have H : (if (l0.length : Int) = (l1.length : Int) then (laws_vSensors.l0 k l0 l1 0) else (some false)) = some r:=h
 clear h
 by_cases c3 : (l0.length : Int) = (l1.length : Int)
 rotate_left
 ·rw [if_neg c3] at H
  have c3b0 : ((l0.length : Int) == (l1.length : Int)) = false:=beq_eq_false_iff_ne.mpr c3
  have c3b1 : ((l0.length : Int) != (l1.length : Int)) = true:=bne_iff_ne.mpr c3
  have c3b2 : (l0.length == l1.length) = false:=by first|simpa using c3|(simp at c3 ⊢;omega)
  obtain rfl:=Option.some.inj H
  go_enter Try.func40,Try.ntmps40
  go_wp2
  repeat (go_quiet (fail);try go_wp2)
  go_ret
  exact ⟨by first|rfl|(simp;done)|(simp [*];done),by repeat (first|exact Drawn0.refl _|apply Drawn0.step)⟩
 rw [if_pos c3] at H
 have c3b0 : ((l0.length : Int) == (l1.length : Int)) = true:=beq_iff_eq.mpr c3
 have c3b1 : ((l0.length : Int) != (l1.length : Int)) = false:=bne_eq_false_iff_eq.mpr c3
 have c3b2 : (l0.length == l1.length) = true:=by first|simpa using c3|(simp at c3 ⊢;omega)
 clear c3
 have H':=Aside0.mk H
 clear H
 go_enter Try.func40,Try.ntmps40
 go_wp2
 repeat (go_quiet (fail);try go_wp2)
 go_loopg [5] k (fun kq v5 w'=>∃ (x5_1 : Int),v5 = .int .i64 x5_1 ∧ Aside0 (laws_vSensors.l0 kq l0 l1 x5_1 = some r) ∧ Aside0 (kq ≤ k) ∧ Drawn0 w w')
 case atStart=>exact ⟨(0),fd,H',⟨Nat.le_refl _⟩,by repeat (first|exact Drawn0.refl _|apply Drawn0.step)⟩
 clear H'
 try clear c1
 try clear p2
 try clear c3
 try clear c3b0
 try clear c3b1
 try clear c3b2
 obtain ⟨x5_1,rfl,HA,HK1,⟨m1,rfl⟩⟩:=hrel
 cases gk with
 | zero=>exact absurd HA.out (by simp [laws_vSensors.l0])
 | succ k1 =>
  have H:=HA.out
  clear HA
  simp only [laws_vSensors.l0] at H
  by_cases c4 : x5_1 < (l0.length : Int)
  rotate_left
  ·rw [if_neg c4] at H
   have c4b0 : decide (x5_1 < (l0.length : Int)) = false:=decide_eq_false c4
   clear c4
   obtain rfl:=Option.some.inj H
   go_wp2
   repeat (go_quiet (fail);try go_wp2)
   go_ret
   exact ⟨by first|rfl|(simp;done)|(simp [*];done),by repeat (first|exact Drawn0.refl _|apply Drawn0.step)⟩
  rw [if_pos c4] at H
  have c4b0 : decide (x5_1 < (l0.length : Int)) = true:=decide_eq_true c4
  clear c4
  by_cases c5 : 0 ≤ x5_1
  rotate_left
  ·rw [if_neg c5] at H
   exact absurd H (by simp)
  rw [if_pos c5] at H
  have c5b0 : decide (0 ≤ x5_1) = true:=decide_eq_true c5
  clear c5
  by_cases c6 : x5_1 < (l1.length : Int)
  rotate_left
  ·rw [if_neg c6] at H
   exact absurd H (by simp)
  rw [if_pos c6] at H
  have c6b0 : decide (x5_1 < (l1.length : Int)) = true:=decide_eq_true c6
  clear c6
  by_cases c7 : (!(((rd_T59 l0 x5_1).f0) == ((rd_T59 l1 x5_1).f0)) || (!(((rd_T59 l0 x5_1).f1) == ((rd_T59 l1 x5_1).f1)))) = true
  ·rw [if_pos c7] at H
   have c7b0 : (!(((rd_T59 l0 x5_1).f0) == ((rd_T59 l1 x5_1).f0)) || (!(((rd_T59 l0 x5_1).f1) == ((rd_T59 l1 x5_1).f1)))) = true:=c7
   clear c7
   obtain rfl:=Option.some.inj H
   have p466 : 0 ≤ (x5_1 : Int):=od
   have q466 : x5_1 < (l0.length : Int):=od
   obtain ⟨ad466,e466,hx466_0,hx466_1⟩:=at_T59 HR0.out x5_1 p466 q466
   cases e466
   replace p466:=eq_true p466
   replace q466:=eq_true q466
   have p467 : 0 ≤ (x5_1 : Int):=od
   have q467 : x5_1 < (l1.length : Int):=od
   obtain ⟨ad467,e467,hx467_0,hx467_1⟩:=at_T59 HR1.out x5_1 p467 q467
   cases e467
   replace p467:=eq_true p467
   replace q467:=eq_true q467
   go_wp2
   repeat (go_quiet (fail);try go_wp2)
   go_ret
   exact ⟨by first|rfl|(simp;done)|(simp [*];done),by repeat (first|exact Drawn0.refl _|apply Drawn0.step)⟩
  rw [if_neg c7] at H
  have c7b0 : (!(((rd_T59 l0 x5_1).f0) == ((rd_T59 l1 x5_1).f0)) || (!(((rd_T59 l0 x5_1).f1) == ((rd_T59 l1 x5_1).f1)))) = false:=by simpa using c7
  clear c7
  have H':=Aside0.mk H
  clear H
  have p466 : 0 ≤ (x5_1 : Int):=od
  have q466 : x5_1 < (l0.length : Int):=od
  obtain ⟨ad466,e466,hx466_0,hx466_1⟩:=at_T59 HR0.out x5_1 p466 q466
  cases e466
  replace p466:=eq_true p466
  replace q466:=eq_true q466
  have p467 : 0 ≤ (x5_1 : Int):=od
  have q467 : x5_1 < (l1.length : Int):=od
  obtain ⟨ad467,e467,hx467_0,hx467_1⟩:=at_T59 HR1.out x5_1 p467 q467
  cases e467
  replace p467:=eq_true p467
  replace q467:=eq_true q467
  go_wp2
  repeat (go_quiet (fail);try go_wp2)
  go_roundg k1
  case measure=>have:=HK1.out;omega
  case rel=>exact ⟨(wrap64 (x5_1 + 1)),fd,H',⟨by have:=HK1.out;omega⟩,by repeat (first|exact Drawn0.refl _|apply Drawn0.step)⟩

/-! ### laws_vHas: function 41 -/
def laws_vHas.l0 : Nat → List Int → Int → Int → Option (Bool)
 | 0,_,_,_=>none
 | k + 1,x0,x1,x5=>if x5 < (x0.length : Int) then (if 0 ≤ x5 then (if (rd x0 x5) = x1 then (some true) else (laws_vHas.l0 k x0 x1 (wrap64 (x5 + 1)))) else (none)) else (some false)
def laws_vHas.f (k : Nat) (l0 : List Int) (a1 : Int) : Option (Bool):=laws_vHas.l0 k l0 a1 0
theorem laws_vHas.mono_l : ∀ k,(∀ y0 y1 y2,LeO (laws_vHas.l0 k y0 y1 y2) (laws_vHas.l0 (k + 1) y0 y1 y2))
 | 0=>by
  refine ?_<;>(intros;intro r h;simp [laws_vHas.l0] at h)
 | k + 1=>by
  have ih0:=laws_vHas.mono_l k
  refine ?_<;>intros<;>(first|unfold laws_vHas.l0)<;>(repeat' first|(with_reducible exact ih0 ..)|(with_reducible exact LeO.refl _)|(with_reducible exact LeO.none _)|(with_reducible refine LeO.ite ?_ ?_)|(with_reducible refine LeO.bind ?_ (fun _=>?_))|exact ih0 ..|exact LeO.none _|refine LeO.ite ?_ ?_|refine LeO.bind ?_ (fun _=>?_))
theorem laws_vHas.mono : ∀ a0 a1 k,LeO (laws_vHas.f k a0 a1) (laws_vHas.f (k + 1) a0 a1):=by
 intro a0 a1 k
 have ih0:=laws_vHas.mono_l k
 unfold laws_vHas.f
 repeat' first
   | (with_reducible exact ih0 _ _ _)
   | (with_reducible exact LeO.refl _)
   | (with_reducible exact LeO.none _)
   | (with_reducible refine LeO.ite ?_ ?_)
   | (with_reducible refine LeO.bind ?_ (fun _=>?_))
   | exact ih0 _ _ _
   | exact LeO.none _
   | refine LeO.ite ?_ ?_
   | refine LeO.bind ?_ (fun _=>?_)
set_option maxHeartbeats 8000000 in
set_option maxRecDepth 100000 in
theorem laws_vHas.calls (k : Nat) (A0 : Option Addr) (c0 : Nat) (l0 : List Int) (a1 : Int) (r : Bool) (w : World) (hr0 : Kd.C (Kd.int .i64) w A0 l0.length l0) (hc0 : l0.length ≤ c0) (h : laws_vHas.f k l0 a1 = some r) :
  Calls Try.prog 41 #[.slice A0 l0.length c0,.int .i64 a1] w fun e w'=>e = .returned (.bool r) ∧ Drawn0 w w':=by
 have HR0:=Aside0.mk hr0
 have HC0:=Aside0.mk hc0
 clear hr0 hc0
 have H : (laws_vHas.l0 k l0 a1 0) = some r:=h
 clear h
 have H':=Aside0.mk H
 clear H
 go_enter Try.func41,Try.ntmps41
 go_wp2
 go_loopg [5] k (fun kq v5 w'=>∃ (x5_1 : Int),v5 = .int .i64 x5_1 ∧ Aside0 (laws_vHas.l0 kq l0 a1 x5_1 = some r) ∧ Aside0 (kq ≤ k) ∧ Drawn0 w w')
 case atStart=>exact ⟨(0),fd,H',⟨Nat.le_refl _⟩,by repeat (first|exact Drawn0.refl _|apply Drawn0.step)⟩
 clear H'
 try clear p2
 obtain ⟨x5_1,rfl,HA,HK1,⟨m1,rfl⟩⟩:=hrel
 cases gk with
 | zero=>exact absurd HA.out (by simp [laws_vHas.l0])
 | succ k1 =>
  have H:=HA.out
  clear HA
  simp only [laws_vHas.l0] at H
  by_cases c3 : x5_1 < (l0.length : Int)
  rotate_left
  ·rw [if_neg c3] at H
   have c3b0 : decide (x5_1 < (l0.length : Int)) = false:=decide_eq_false c3
   clear c3
   obtain rfl:=Option.some.inj H
   go_wp2
   go_ret
   exact ⟨by first|rfl|(simp;done)|(simp [*];done),by repeat (first|exact Drawn0.refl _|apply Drawn0.step)⟩
  rw [if_pos c3] at H
  have c3b0 : decide (x5_1 < (l0.length : Int)) = true:=decide_eq_true c3
  clear c3
  by_cases c4 : 0 ≤ x5_1
  rotate_left
  ·rw [if_neg c4] at H
   exact absurd H (by simp)
  rw [if_pos c4] at H
  have c4b0 : decide (0 ≤ x5_1) = true:=decide_eq_true c4
  clear c4
  by_cases c5 : (rd l0 x5_1) = a1
  ·rw [if_pos c5] at H
   have c5b0 : ((rd l0 x5_1) == a1) = true:=beq_iff_eq.mpr c5
   have c5b1 : ((rd l0 x5_1) != a1) = false:=bne_eq_false_iff_eq.mpr c5
   clear c5
   obtain rfl:=Option.some.inj H
   have p468 : 0 ≤ (x5_1 : Int):=od
   have q468 : x5_1 < (l0.length : Int):=od
   obtain ⟨ad468,e468,hx468_0⟩:=Kd.at_int HR0.out x5_1 p468 q468
   cases e468
   replace p468:=eq_true p468
   replace q468:=eq_true q468
   go_wp2
   go_ret
   exact ⟨by first|rfl|(simp;done)|(simp [*];done),by repeat (first|exact Drawn0.refl _|apply Drawn0.step)⟩
  rw [if_neg c5] at H
  have c5b0 : ((rd l0 x5_1) == a1) = false:=beq_eq_false_iff_ne.mpr c5
  have c5b1 : ((rd l0 x5_1) != a1) = true:=bne_iff_ne.mpr c5
  have H':=Aside0.mk H
  clear H
  have p468 : 0 ≤ (x5_1 : Int):=od
  have q468 : x5_1 < (l0.length : Int):=od
  obtain ⟨ad468,e468,hx468_0⟩:=Kd.at_int HR0.out x5_1 p468 q468
  cases e468
  replace p468:=eq_true p468
  replace q468:=eq_true q468
  go_wp2
  go_roundg k1
  case measure=>have:=HK1.out;omega
  case rel=>exact ⟨(wrap64 (x5_1 + 1)),fd,H',⟨by have:=HK1.out;omega⟩,by repeat (first|exact Drawn0.refl _|apply Drawn0.step)⟩


end
end Go.Proofs.Ytknfhoghimnieaa.QFnSensors
