/- Functions that the law FnLanes comes to, as Lean functions, with the proof that the Go code does what they say: written by a program of this session over the kit's print. No condition but those named. -/
import Derived.Test.YthkbjcihelmaeaaQFnLanesx0
import Derived.Test.YthkbjcihelmaeaaQFnLanesx1
import Derived.Test.YthkbjcihelmaeaaQFnLanesx2
import Derived.Test.YthkbjcihelmaeaaQFnLanesx3
import Derived.Test.YthkbjcihelmaeaaQFnLanesx4
import Derived.Test.YthkbjcihelmaeaaQFnLanesx5
import Derived.Test.YthkbjcihelmaeaaQFnLanesx6
import Derived.Test.YthkbjcihelmaeaaQFnLanesx7
import Derived.Test.YthkbjcihelmaeaaQFnLanesx8
namespace Go.Proofs.Ythkbjcihelmaeaa.QFnLanes
open Go.RowKit Go.Proofs.YthkbjcihelmaeaaW.PrintWords Go.Proofs.YthkbjcihelmaeaaW.PrintLast Go.Proofs.YthkbjcihelmaeaaW.PrintMore Go.Proofs.Ythkbjcihelmaeaa.Short
attribute [local go_sem] max2_int min2_int max_two min_two max_three min_three max_four min_four   -- for this text's walks alone
set_option linter.unusedVariables false
set_option linter.unusedSimpArgs false

/-! ### laws_FnLanes: function 12 -/
section
open Kd
mutual
def laws_FnLanes.j0 : Nat → List Int → List Int → List Int → Int → Bool → Bool → Option (Bool)
 | 0,_,_,_,_,_,_=>none
 | k + 1,x0,x3,x4,x5,x6,x84=>if x84 = true then (some false) else ((impl_LastFlow.f k x3).bind fun bt416=>((spec_LastFlow.f k x3).bind fun bt418=>(if bt416.1 = bt418.1 then (if (bt416.2 != bt418.2) = true then (laws_FnLanes.j1 k x0 x3 x4 x5 x6 true) else (laws_FnLanes.j1 k x0 x3 x4 x5 x6 (bt416.2 != x6))) else (laws_FnLanes.j1 k x0 x3 x4 x5 x6 true))))
def laws_FnLanes.j1 : Nat → List Int → List Int → List Int → Int → Bool → Bool → Option (Bool)
 | 0,_,_,_,_,_,_=>none
 | k + 1,x0,x3,x4,x5,x6,x107=>if x107 = true then (some false) else ((impl_CalmTurn.f k x3).bind fun bt420=>((spec_CalmTurn.f k x3).bind fun bt422=>(if bt420.1 = bt422.1 then (if (bt420.2 != bt422.2) = true then (laws_FnLanes.j2 k x0 x3 x4 x5 x6 bt420.1 true) else (laws_FnLanes.j2 k x0 x3 x4 x5 x6 bt420.1 (bt420.2 != x6))) else (laws_FnLanes.j2 k x0 x3 x4 x5 x6 bt420.1 true))))
def laws_FnLanes.j2 : Nat → List Int → List Int → List Int → Int → Bool → Int → Bool → Option (Bool)
 | 0,_,_,_,_,_,_,_=>none
 | k + 1,x0,x3,x4,x5,x6,x14,x130=>if x130 = true then (some false) else ((impl_TurnAround.f k x3).bind fun bt424=>((spec_TurnAround.f k x3).bind fun bt428=>(if (bt424.2 != bt428.2) = true then (laws_FnLanes.j3 k x0 x3 x4 x5 x6 x14 bt424.1 true) else (if (bt424.2 != x6) = true then (laws_FnLanes.j3 k x0 x3 x4 x5 x6 x14 bt424.1 true) else ((laws_rInts.f k bt424.1 bt428.1).bind fun t432=>(laws_FnLanes.j3 k x0 x3 x4 x5 x6 x14 bt424.1 (!t432)))))))
def laws_FnLanes.j3 : Nat → List Int → List Int → List Int → Int → Bool → Int → List Int → Bool → Option (Bool)
 | 0,_,_,_,_,_,_,_,_=>none
 | k + 1,x0,x3,x4,x5,x6,x14,x18,x154=>if x154 = true then (some false) else ((impl_JamsOf.f k x3).bind fun bt433=>((spec_JamsOf.f k x3).bind fun bt437=>(if (bt433.2 != bt437.2) = true then (laws_FnLanes.j4 k x0 x3 x4 x5 x6 x14 x18 bt433.1 true) else (if (bt433.2 != x6) = true then (laws_FnLanes.j4 k x0 x3 x4 x5 x6 x14 x18 bt433.1 true) else ((laws_rInts.f k bt433.1 bt437.1).bind fun t441=>(laws_FnLanes.j4 k x0 x3 x4 x5 x6 x14 x18 bt433.1 (!t441)))))))
def laws_FnLanes.j4 : Nat → List Int → List Int → List Int → Int → Bool → Int → List Int → List Int → Bool → Option (Bool)
 | 0,_,_,_,_,_,_,_,_,_=>none
 | k + 1,x0,x3,x4,x5,x6,x14,x18,x22,x178=>if x178 = true then (some false) else ((spec_DrawLaneAfter.f k x0).bind fun bt442=>((impl_LaneAfter.f k bt442.1 bt442.2).bind fun bt446=>((spec_LaneAfter.f k bt442.1 bt442.2).bind fun bt450=>(if (bt446.2 != bt450.2) = true then (laws_FnLanes.j5 k x3 x4 x5 x6 x14 x18 x22 bt442.1 bt442.2 bt446.1 bt446.2 true) else ((laws_rInts.f k bt446.1 bt450.1).bind fun t454=>(laws_FnLanes.j5 k x3 x4 x5 x6 x14 x18 x22 bt442.1 bt442.2 bt446.1 bt446.2 (!t454)))))))
def laws_FnLanes.j5 : Nat → List Int → List Int → Int → Bool → Int → List Int → List Int → List Int → Int → List Int → Bool → Bool → Option (Bool)
 | 0,_,_,_,_,_,_,_,_,_,_,_,_=>none
 | k + 1,x3,x4,x5,x6,x14,x18,x22,x26,x27,x28,x29,x204=>if x204 = true then (some false) else ((impl_FlowsOf.f k x26 x27).bind fun bt455=>((spec_FlowsOf.f k x26 x27).bind fun bt459=>(if (bt455.2 != bt459.2) = true then (laws_FnLanes.j6 k x3 x4 x5 x6 x14 x18 x22 x26 x27 x28 x29 bt455.1 true) else (if (bt455.2 != x29) = true then (laws_FnLanes.j6 k x3 x4 x5 x6 x14 x18 x22 x26 x27 x28 x29 bt455.1 true) else ((laws_rInts.f k bt455.1 bt459.1).bind fun t463=>(laws_FnLanes.j6 k x3 x4 x5 x6 x14 x18 x22 x26 x27 x28 x29 bt455.1 (!t463)))))))
def laws_FnLanes.j6 : Nat → List Int → List Int → Int → Bool → Int → List Int → List Int → List Int → Int → List Int → Bool → List Int → Bool → Option (Bool)
 | 0,_,_,_,_,_,_,_,_,_,_,_,_,_=>none
 | k + 1,x3,x4,x5,x6,x14,x18,x22,x26,x27,x28,x29,x32,x230=>if x230 = true then (some false) else ((impl_CarPlaces.f k x26 x27).bind fun bt464=>((spec_CarPlaces.f k x26 x27).bind fun bt468=>(if (bt464.2 != bt468.2) = true then (laws_FnLanes.j7 k x3 x4 x5 x6 x14 x18 x22 x26 x28 x29 x32 bt464.1 true) else (if (bt464.2 != x29) = true then (laws_FnLanes.j7 k x3 x4 x5 x6 x14 x18 x22 x26 x28 x29 x32 bt464.1 true) else ((laws_rInts.f k bt464.1 bt468.1).bind fun t472=>(laws_FnLanes.j7 k x3 x4 x5 x6 x14 x18 x22 x26 x28 x29 x32 bt464.1 (!t472)))))))
def laws_FnLanes.j7 : Nat → List Int → List Int → Int → Bool → Int → List Int → List Int → List Int → List Int → Bool → List Int → List Int → Bool → Option (Bool)
 | 0,_,_,_,_,_,_,_,_,_,_,_,_,_=>none
 | k + 1,x3,x4,x5,x6,x14,x18,x22,x26,x28,x29,x32,x36,x256=>if x256 = true then (some false) else (if x29 = true then ((impl_LastFlow.f k x26).bind fun bt473=>(if bt473.2 = true then ((laws_rSum.f k x28).bind fun t475=>((laws_rSum.f k x26).bind fun t476=>(if t475 = t476 then ((laws_rSum.f k x26).bind fun t477=>(laws_FnLanes.j8 k x3 x4 x5 x6 x14 x18 x22 x26 x28 x32 x36 bt473.1 ((x36.length : Int) != t477))) else (laws_FnLanes.j8 k x3 x4 x5 x6 x14 x18 x22 x26 x28 x32 x36 bt473.1 true)))) else (laws_FnLanes.j8 k x3 x4 x5 x6 x14 x18 x22 x26 x28 x32 x36 bt473.1 true))) else (laws_FnLanes.j11 k x3 x4 x5 x6 x14 x18 x22))
def laws_FnLanes.j11 : Nat → List Int → List Int → Int → Bool → Int → List Int → List Int → Option (Bool)
 | 0,_,_,_,_,_,_,_=>none
 | k + 1,x3,x4,x5,x6,x14,x18,x22=>if x6 = true then ((impl_TurnLane.f k x18).bind fun bt485=>((impl_TurnAround.f k x4).bind fun bt490=>(if bt485.2.2 = true then (if bt490.2 = true then (if bt485.2.1 = x5 then ((laws_rInts.f k bt485.1 bt490.1).bind fun t494=>(if t494 = true then ((laws_rSum.f k x3).bind fun t495=>(if (wrap64 ((x22.length : Int) + x5)) = t495 then ((laws_rSum.f k x4).bind fun t496=>((laws_rSum.f k x3).bind fun t497=>(if t496 = t497 then (some (decide ((wrap64 (2 * x14)) ≤ (x3.length : Int)))) else (some false)))) else (some false))) else (some false))) else (some false)) else (some false)) else (some false)))) else (some true)
def laws_FnLanes.j8 : Nat → List Int → List Int → Int → Bool → Int → List Int → List Int → List Int → List Int → List Int → List Int → Int → Bool → Option (Bool)
 | 0,_,_,_,_,_,_,_,_,_,_,_,_,_=>none
 | k + 1,x3,x4,x5,x6,x14,x18,x22,x26,x28,x32,x36,x40,x278=>if x278 = true then (some false) else (laws_FnLanes.l0 k x3 x4 x5 x6 x14 x18 x22 x26 x28 x32 x36 x40 0)
def laws_FnLanes.l0 : Nat → List Int → List Int → Int → Bool → Int → List Int → List Int → List Int → List Int → List Int → List Int → Int → Int → Option (Bool)
 | 0,_,_,_,_,_,_,_,_,_,_,_,_,_=>none
 | k + 1,x3,x4,x5,x6,x14,x18,x22,x26,x28,x32,x36,x40,x42=>if x42 < (x36.length : Int) then (if 0 ≤ x42 then (if 0 ≤ (rd x36 x42) then (if (rd x36 x42) < (x28.length : Int) then (if (rd x28 (rd x36 x42)) = 1 then (laws_FnLanes.l0 k x3 x4 x5 x6 x14 x18 x22 x26 x28 x32 x36 x40 (wrap64 (x42 + 1))) else (some false)) else (none)) else (none)) else (none)) else (laws_FnLanes.l1 k x3 x4 x5 x6 x14 x18 x22 x26 x32 x40 0)
def laws_FnLanes.l1 : Nat → List Int → List Int → Int → Bool → Int → List Int → List Int → List Int → List Int → Int → Int → Option (Bool)
 | 0,_,_,_,_,_,_,_,_,_,_,_=>none
 | k + 1,x3,x4,x5,x6,x14,x18,x22,x26,x32,x40,x43=>if x43 < (x32.length : Int) then (if 0 ≤ x43 then (if (rd x32 x43) > x40 then (some false) else (if x43 > 0 then (if 0 ≤ (wrap64 (x43 - 1)) then (if (wrap64 (x43 - 1)) < (x32.length : Int) then (if (rd x32 x43) < (rd x32 (wrap64 (x43 - 1))) then (some false) else (if (wrap64 (2 * x43)) ≥ (x26.length : Int) then (if (rd x32 x43) = x40 then (laws_FnLanes.l1 k x3 x4 x5 x6 x14 x18 x22 x26 x32 x40 (wrap64 (x43 + 1))) else (some false)) else (laws_FnLanes.l1 k x3 x4 x5 x6 x14 x18 x22 x26 x32 x40 (wrap64 (x43 + 1))))) else (none)) else (none)) else (if (wrap64 (2 * x43)) ≥ (x26.length : Int) then (if (rd x32 x43) = x40 then (laws_FnLanes.l1 k x3 x4 x5 x6 x14 x18 x22 x26 x32 x40 (wrap64 (x43 + 1))) else (some false)) else (laws_FnLanes.l1 k x3 x4 x5 x6 x14 x18 x22 x26 x32 x40 (wrap64 (x43 + 1)))))) else (none)) else (laws_FnLanes.j11 k x3 x4 x5 x6 x14 x18 x22)
end
def laws_FnLanes.f (k : Nat) (l0 : List Int) : Option (Bool):=(laws_rBig.f l0).bind fun t400=>(if t400 = true then (some true) else ((spec_DrawTurnLane.f k l0).bind fun t401=>((impl_TurnLane.f k t401).bind fun bt404=>((spec_TurnLane.f k t401).bind fun bt409=>(if bt404.2.1 = bt409.2.1 then (if (bt404.2.2 != bt409.2.2) = true then (laws_FnLanes.j0 k l0 t401 bt404.1 bt404.2.1 bt404.2.2 true) else ((impl_IsLane.f k t401).bind fun t414=>(if (bt404.2.2 != t414) = true then (laws_FnLanes.j0 k l0 t401 bt404.1 bt404.2.1 bt404.2.2 true) else ((laws_rInts.f k bt404.1 bt409.1).bind fun t415=>(laws_FnLanes.j0 k l0 t401 bt404.1 bt404.2.1 bt404.2.2 (!t415)))))) else (laws_FnLanes.j0 k l0 t401 bt404.1 bt404.2.1 bt404.2.2 true))))))
theorem laws_FnLanes.mono_l : ∀ k,(∀ y0 y1 y2 y3 y4 y5,LeO (laws_FnLanes.j0 k y0 y1 y2 y3 y4 y5) (laws_FnLanes.j0 (k + 1) y0 y1 y2 y3 y4 y5)) ∧ (∀ y0 y1 y2 y3 y4 y5,LeO (laws_FnLanes.j1 k y0 y1 y2 y3 y4 y5) (laws_FnLanes.j1 (k + 1) y0 y1 y2 y3 y4 y5)) ∧ (∀ y0 y1 y2 y3 y4 y5 y6,LeO (laws_FnLanes.j2 k y0 y1 y2 y3 y4 y5 y6) (laws_FnLanes.j2 (k + 1) y0 y1 y2 y3 y4 y5 y6)) ∧ (∀ y0 y1 y2 y3 y4 y5 y6 y7,LeO (laws_FnLanes.j3 k y0 y1 y2 y3 y4 y5 y6 y7) (laws_FnLanes.j3 (k + 1) y0 y1 y2 y3 y4 y5 y6 y7)) ∧ (∀ y0 y1 y2 y3 y4 y5 y6 y7 y8,LeO (laws_FnLanes.j4 k y0 y1 y2 y3 y4 y5 y6 y7 y8) (laws_FnLanes.j4 (k + 1) y0 y1 y2 y3 y4 y5 y6 y7 y8)) ∧ (∀ y0 y1 y2 y3 y4 y5 y6 y7 y8 y9 y10 y11,LeO (laws_FnLanes.j5 k y0 y1 y2 y3 y4 y5 y6 y7 y8 y9 y10 y11) (laws_FnLanes.j5 (k + 1) y0 y1 y2 y3 y4 y5 y6 y7 y8 y9 y10 y11)) ∧ (∀ y0 y1 y2 y3 y4 y5 y6 y7 y8 y9 y10 y11 y12,LeO (laws_FnLanes.j6 k y0 y1 y2 y3 y4 y5 y6 y7 y8 y9 y10 y11 y12) (laws_FnLanes.j6 (k + 1) y0 y1 y2 y3 y4 y5 y6 y7 y8 y9 y10 y11 y12)) ∧ (∀ y0 y1 y2 y3 y4 y5 y6 y7 y8 y9 y10 y11 y12,LeO (laws_FnLanes.j7 k y0 y1 y2 y3 y4 y5 y6 y7 y8 y9 y10 y11 y12) (laws_FnLanes.j7 (k + 1) y0 y1 y2 y3 y4 y5 y6 y7 y8 y9 y10 y11 y12)) ∧ (∀ y0 y1 y2 y3 y4 y5 y6,LeO (laws_FnLanes.j11 k y0 y1 y2 y3 y4 y5 y6) (laws_FnLanes.j11 (k + 1) y0 y1 y2 y3 y4 y5 y6)) ∧ (∀ y0 y1 y2 y3 y4 y5 y6 y7 y8 y9 y10 y11 y12,LeO (laws_FnLanes.j8 k y0 y1 y2 y3 y4 y5 y6 y7 y8 y9 y10 y11 y12) (laws_FnLanes.j8 (k + 1) y0 y1 y2 y3 y4 y5 y6 y7 y8 y9 y10 y11 y12)) ∧ (∀ y0 y1 y2 y3 y4 y5 y6 y7 y8 y9 y10 y11 y12,LeO (laws_FnLanes.l0 k y0 y1 y2 y3 y4 y5 y6 y7 y8 y9 y10 y11 y12) (laws_FnLanes.l0 (k + 1) y0 y1 y2 y3 y4 y5 y6 y7 y8 y9 y10 y11 y12)) ∧ (∀ y0 y1 y2 y3 y4 y5 y6 y7 y8 y9 y10,LeO (laws_FnLanes.l1 k y0 y1 y2 y3 y4 y5 y6 y7 y8 y9 y10) (laws_FnLanes.l1 (k + 1) y0 y1 y2 y3 y4 y5 y6 y7 y8 y9 y10))
 | 0=>⟨fun _ _ _ _ _ _ r h=>by simp [laws_FnLanes.j0] at h,fun _ _ _ _ _ _ r h=>by simp [laws_FnLanes.j1] at h,fun _ _ _ _ _ _ _ r h=>by simp [laws_FnLanes.j2] at h,fun _ _ _ _ _ _ _ _ r h=>by simp [laws_FnLanes.j3] at h,fun _ _ _ _ _ _ _ _ _ r h=>by simp [laws_FnLanes.j4] at h,fun _ _ _ _ _ _ _ _ _ _ _ _ r h=>by simp [laws_FnLanes.j5] at h,fun _ _ _ _ _ _ _ _ _ _ _ _ _ r h=>by simp [laws_FnLanes.j6] at h,fun _ _ _ _ _ _ _ _ _ _ _ _ _ r h=>by simp [laws_FnLanes.j7] at h,fun _ _ _ _ _ _ _ r h=>by simp [laws_FnLanes.j11] at h,fun _ _ _ _ _ _ _ _ _ _ _ _ _ r h=>by simp [laws_FnLanes.j8] at h,fun _ _ _ _ _ _ _ _ _ _ _ _ _ r h=>by simp [laws_FnLanes.l0] at h,fun _ _ _ _ _ _ _ _ _ _ _ r h=>by simp [laws_FnLanes.l1] at h⟩
 | k + 1=>by
  obtain ⟨ih0,ih1,ih2,ih3,ih4,ih5,ih6,ih7,ih8,ih9,ih10,ih11⟩:=laws_FnLanes.mono_l k
  refine ⟨?_,?_,?_,?_,?_,?_,?_,?_,?_,?_,?_,?_⟩
  ·intro y0 y1 y2 y3 y4 y5
   unfold laws_FnLanes.j0
   repeat' first
   | (with_reducible exact ih0 _ _ _ _ _ _)
   | (with_reducible exact ih1 _ _ _ _ _ _)
   | (with_reducible exact ih2 _ _ _ _ _ _ _)
   | (with_reducible exact ih3 _ _ _ _ _ _ _ _)
   | (with_reducible exact ih4 _ _ _ _ _ _ _ _ _)
   | (with_reducible exact ih5 _ _ _ _ _ _ _ _ _ _ _ _)
   | (with_reducible exact ih6 _ _ _ _ _ _ _ _ _ _ _ _ _)
   | (with_reducible exact ih7 _ _ _ _ _ _ _ _ _ _ _ _ _)
   | (with_reducible exact ih8 _ _ _ _ _ _ _)
   | (with_reducible exact ih9 _ _ _ _ _ _ _ _ _ _ _ _ _)
   | (with_reducible exact ih10 _ _ _ _ _ _ _ _ _ _ _ _ _)
   | (with_reducible exact ih11 _ _ _ _ _ _ _ _ _ _ _)
   | (with_reducible exact impl_CalmTurn.mono _ _)
   | (with_reducible exact impl_CarPlaces.mono _ _ _)
   | (with_reducible exact impl_FlowsOf.mono _ _ _)
   | (with_reducible exact impl_IsLane.mono _ _)
   | (with_reducible exact impl_JamsOf.mono _ _)
   | (with_reducible exact impl_LaneAfter.mono _ _ _)
   | (with_reducible exact impl_LastFlow.mono _ _)
   | (with_reducible exact impl_TurnAround.mono _ _)
   | (with_reducible exact impl_TurnLane.mono _ _)
   | (with_reducible exact laws_rInts.mono _ _ _)
   | (with_reducible exact laws_rSum.mono _ _)
   | (with_reducible exact spec_CalmTurn.mono _ _)
   | (with_reducible exact spec_CarPlaces.mono _ _ _)
   | (with_reducible exact spec_DrawLaneAfter.mono _ _)
   | (with_reducible exact spec_DrawTurnLane.mono _ _)
   | (with_reducible exact spec_FlowsOf.mono _ _ _)
   | (with_reducible exact spec_JamsOf.mono _ _)
   | (with_reducible exact spec_LaneAfter.mono _ _ _)
   | (with_reducible exact spec_LastFlow.mono _ _)
   | (with_reducible exact spec_TurnAround.mono _ _)
   | (with_reducible exact spec_TurnLane.mono _ _)
   | (with_reducible exact LeO.refl _)
   | (with_reducible exact LeO.none _)
   | (with_reducible refine LeO.ite ?_ ?_)
   | (with_reducible refine LeO.bind ?_ (fun _=>?_))
   | exact ih0 _ _ _ _ _ _
   | exact ih1 _ _ _ _ _ _
   | exact ih2 _ _ _ _ _ _ _
   | exact ih3 _ _ _ _ _ _ _ _
   | exact ih4 _ _ _ _ _ _ _ _ _
   | exact ih5 _ _ _ _ _ _ _ _ _ _ _ _
   | exact ih6 _ _ _ _ _ _ _ _ _ _ _ _ _
   | exact ih7 _ _ _ _ _ _ _ _ _ _ _ _ _
   | exact ih8 _ _ _ _ _ _ _
   | exact ih9 _ _ _ _ _ _ _ _ _ _ _ _ _
   | exact ih10 _ _ _ _ _ _ _ _ _ _ _ _ _
   | exact ih11 _ _ _ _ _ _ _ _ _ _ _
   | exact impl_CalmTurn.mono _ _
   | exact impl_CarPlaces.mono _ _ _
   | exact impl_FlowsOf.mono _ _ _
   | exact impl_IsLane.mono _ _
   | exact impl_JamsOf.mono _ _
   | exact impl_LaneAfter.mono _ _ _
   | exact impl_LastFlow.mono _ _
   | exact impl_TurnAround.mono _ _
   | exact impl_TurnLane.mono _ _
   | exact laws_rInts.mono _ _ _
   | exact laws_rSum.mono _ _
   | exact spec_CalmTurn.mono _ _
   | exact spec_CarPlaces.mono _ _ _
   | exact spec_DrawLaneAfter.mono _ _
   | exact spec_DrawTurnLane.mono _ _
   | exact spec_FlowsOf.mono _ _ _
   | exact spec_JamsOf.mono _ _
   | exact spec_LaneAfter.mono _ _ _
   | exact spec_LastFlow.mono _ _
   | exact spec_TurnAround.mono _ _
   | exact spec_TurnLane.mono _ _
   | exact LeO.none _
   | refine LeO.ite ?_ ?_
   | refine LeO.bind ?_ (fun _=>?_)
  ·intro y0 y1 y2 y3 y4 y5
   unfold laws_FnLanes.j1
   repeat' first
   | (with_reducible exact ih0 _ _ _ _ _ _)
   | (with_reducible exact ih1 _ _ _ _ _ _)
   | (with_reducible exact ih2 _ _ _ _ _ _ _)
   | (with_reducible exact ih3 _ _ _ _ _ _ _ _)
   | (with_reducible exact ih4 _ _ _ _ _ _ _ _ _)
   | (with_reducible exact ih5 _ _ _ _ _ _ _ _ _ _ _ _)
   | (with_reducible exact ih6 _ _ _ _ _ _ _ _ _ _ _ _ _)
   | (with_reducible exact ih7 _ _ _ _ _ _ _ _ _ _ _ _ _)
   | (with_reducible exact ih8 _ _ _ _ _ _ _)
   | (with_reducible exact ih9 _ _ _ _ _ _ _ _ _ _ _ _ _)
   | (with_reducible exact ih10 _ _ _ _ _ _ _ _ _ _ _ _ _)
   | (with_reducible exact ih11 _ _ _ _ _ _ _ _ _ _ _)
   | (with_reducible exact impl_CalmTurn.mono _ _)
   | (with_reducible exact impl_CarPlaces.mono _ _ _)
   | (with_reducible exact impl_FlowsOf.mono _ _ _)
   | (with_reducible exact impl_IsLane.mono _ _)
   | (with_reducible exact impl_JamsOf.mono _ _)
   | (with_reducible exact impl_LaneAfter.mono _ _ _)
   | (with_reducible exact impl_LastFlow.mono _ _)
   | (with_reducible exact impl_TurnAround.mono _ _)
   | (with_reducible exact impl_TurnLane.mono _ _)
   | (with_reducible exact laws_rInts.mono _ _ _)
   | (with_reducible exact laws_rSum.mono _ _)
   | (with_reducible exact spec_CalmTurn.mono _ _)
   | (with_reducible exact spec_CarPlaces.mono _ _ _)
   | (with_reducible exact spec_DrawLaneAfter.mono _ _)
   | (with_reducible exact spec_DrawTurnLane.mono _ _)
   | (with_reducible exact spec_FlowsOf.mono _ _ _)
   | (with_reducible exact spec_JamsOf.mono _ _)
   | (with_reducible exact spec_LaneAfter.mono _ _ _)
   | (with_reducible exact spec_LastFlow.mono _ _)
   | (with_reducible exact spec_TurnAround.mono _ _)
   | (with_reducible exact spec_TurnLane.mono _ _)
   | (with_reducible exact LeO.refl _)
   | (with_reducible exact LeO.none _)
   | (with_reducible refine LeO.ite ?_ ?_)
   | (with_reducible refine LeO.bind ?_ (fun _=>?_))
   | exact ih0 _ _ _ _ _ _
   | exact ih1 _ _ _ _ _ _
   | exact ih2 _ _ _ _ _ _ _
   | exact ih3 _ _ _ _ _ _ _ _
   | exact ih4 _ _ _ _ _ _ _ _ _
   | exact ih5 _ _ _ _ _ _ _ _ _ _ _ _
   | exact ih6 _ _ _ _ _ _ _ _ _ _ _ _ _
   | exact ih7 _ _ _ _ _ _ _ _ _ _ _ _ _
   | exact ih8 _ _ _ _ _ _ _
   | exact ih9 _ _ _ _ _ _ _ _ _ _ _ _ _
   | exact ih10 _ _ _ _ _ _ _ _ _ _ _ _ _
   | exact ih11 _ _ _ _ _ _ _ _ _ _ _
   | exact impl_CalmTurn.mono _ _
   | exact impl_CarPlaces.mono _ _ _
   | exact impl_FlowsOf.mono _ _ _
   | exact impl_IsLane.mono _ _
   | exact impl_JamsOf.mono _ _
   | exact impl_LaneAfter.mono _ _ _
   | exact impl_LastFlow.mono _ _
   | exact impl_TurnAround.mono _ _
   | exact impl_TurnLane.mono _ _
   | exact laws_rInts.mono _ _ _
   | exact laws_rSum.mono _ _
   | exact spec_CalmTurn.mono _ _
   | exact spec_CarPlaces.mono _ _ _
   | exact spec_DrawLaneAfter.mono _ _
   | exact spec_DrawTurnLane.mono _ _
   | exact spec_FlowsOf.mono _ _ _
   | exact spec_JamsOf.mono _ _
   | exact spec_LaneAfter.mono _ _ _
   | exact spec_LastFlow.mono _ _
   | exact spec_TurnAround.mono _ _
   | exact spec_TurnLane.mono _ _
   | exact LeO.none _
   | refine LeO.ite ?_ ?_
   | refine LeO.bind ?_ (fun _=>?_)
  ·intro y0 y1 y2 y3 y4 y5 y6
   unfold laws_FnLanes.j2
   repeat' first
   | (with_reducible exact ih0 _ _ _ _ _ _)
   | (with_reducible exact ih1 _ _ _ _ _ _)
   | (with_reducible exact ih2 _ _ _ _ _ _ _)
   | (with_reducible exact ih3 _ _ _ _ _ _ _ _)
   | (with_reducible exact ih4 _ _ _ _ _ _ _ _ _)
   | (with_reducible exact ih5 _ _ _ _ _ _ _ _ _ _ _ _)
   | (with_reducible exact ih6 _ _ _ _ _ _ _ _ _ _ _ _ _)
   | (with_reducible exact ih7 _ _ _ _ _ _ _ _ _ _ _ _ _)
   | (with_reducible exact ih8 _ _ _ _ _ _ _)
   | (with_reducible exact ih9 _ _ _ _ _ _ _ _ _ _ _ _ _)
   | (with_reducible exact ih10 _ _ _ _ _ _ _ _ _ _ _ _ _)
   | (with_reducible exact ih11 _ _ _ _ _ _ _ _ _ _ _)
   | (with_reducible exact impl_CalmTurn.mono _ _)
   | (with_reducible exact impl_CarPlaces.mono _ _ _)
   | (with_reducible exact impl_FlowsOf.mono _ _ _)
   | (with_reducible exact impl_IsLane.mono _ _)
   | (with_reducible exact impl_JamsOf.mono _ _)
   | (with_reducible exact impl_LaneAfter.mono _ _ _)
   | (with_reducible exact impl_LastFlow.mono _ _)
   | (with_reducible exact impl_TurnAround.mono _ _)
   | (with_reducible exact impl_TurnLane.mono _ _)
   | (with_reducible exact laws_rInts.mono _ _ _)
   | (with_reducible exact laws_rSum.mono _ _)
   | (with_reducible exact spec_CalmTurn.mono _ _)
   | (with_reducible exact spec_CarPlaces.mono _ _ _)
   | (with_reducible exact spec_DrawLaneAfter.mono _ _)
   | (with_reducible exact spec_DrawTurnLane.mono _ _)
   | (with_reducible exact spec_FlowsOf.mono _ _ _)
   | (with_reducible exact spec_JamsOf.mono _ _)
   | (with_reducible exact spec_LaneAfter.mono _ _ _)
   | (with_reducible exact spec_LastFlow.mono _ _)
   | (with_reducible exact spec_TurnAround.mono _ _)
   | (with_reducible exact spec_TurnLane.mono _ _)
   | (with_reducible exact LeO.refl _)
   | (with_reducible exact LeO.none _)
   | (with_reducible refine LeO.ite ?_ ?_)
   | (with_reducible refine LeO.bind ?_ (fun _=>?_))
   | exact ih0 _ _ _ _ _ _
   | exact ih1 _ _ _ _ _ _
   | exact ih2 _ _ _ _ _ _ _
   | exact ih3 _ _ _ _ _ _ _ _
   | exact ih4 _ _ _ _ _ _ _ _ _
   | exact ih5 _ _ _ _ _ _ _ _ _ _ _ _
   | exact ih6 _ _ _ _ _ _ _ _ _ _ _ _ _
   | exact ih7 _ _ _ _ _ _ _ _ _ _ _ _ _
   | exact ih8 _ _ _ _ _ _ _
   | exact ih9 _ _ _ _ _ _ _ _ _ _ _ _ _
   | exact ih10 _ _ _ _ _ _ _ _ _ _ _ _ _
   | exact ih11 _ _ _ _ _ _ _ _ _ _ _
   | exact impl_CalmTurn.mono _ _
   | exact impl_CarPlaces.mono _ _ _
   | exact impl_FlowsOf.mono _ _ _
   | exact impl_IsLane.mono _ _
   | exact impl_JamsOf.mono _ _
   | exact impl_LaneAfter.mono _ _ _
   | exact impl_LastFlow.mono _ _
   | exact impl_TurnAround.mono _ _
   | exact impl_TurnLane.mono _ _
   | exact laws_rInts.mono _ _ _
   | exact laws_rSum.mono _ _
   | exact spec_CalmTurn.mono _ _
   | exact spec_CarPlaces.mono _ _ _
   | exact spec_DrawLaneAfter.mono _ _
   | exact spec_DrawTurnLane.mono _ _
   | exact spec_FlowsOf.mono _ _ _
   | exact spec_JamsOf.mono _ _
   | exact spec_LaneAfter.mono _ _ _
   | exact spec_LastFlow.mono _ _
   | exact spec_TurnAround.mono _ _
   | exact spec_TurnLane.mono _ _
   | exact LeO.none _
   | refine LeO.ite ?_ ?_
   | refine LeO.bind ?_ (fun _=>?_)
  ·intro y0 y1 y2 y3 y4 y5 y6 y7
   unfold laws_FnLanes.j3
   repeat' first
   | (with_reducible exact ih0 _ _ _ _ _ _)
   | (with_reducible exact ih1 _ _ _ _ _ _)
   | (with_reducible exact ih2 _ _ _ _ _ _ _)
   | (with_reducible exact ih3 _ _ _ _ _ _ _ _)
   | (with_reducible exact ih4 _ _ _ _ _ _ _ _ _)
   | (with_reducible exact ih5 _ _ _ _ _ _ _ _ _ _ _ _)
   | (with_reducible exact ih6 _ _ _ _ _ _ _ _ _ _ _ _ _)
   | (with_reducible exact ih7 _ _ _ _ _ _ _ _ _ _ _ _ _)
   | (with_reducible exact ih8 _ _ _ _ _ _ _)
   | (with_reducible exact ih9 _ _ _ _ _ _ _ _ _ _ _ _ _)
   | (with_reducible exact ih10 _ _ _ _ _ _ _ _ _ _ _ _ _)
   | (with_reducible exact ih11 _ _ _ _ _ _ _ _ _ _ _)
   | (with_reducible exact impl_CalmTurn.mono _ _)
   | (with_reducible exact impl_CarPlaces.mono _ _ _)
   | (with_reducible exact impl_FlowsOf.mono _ _ _)
   | (with_reducible exact impl_IsLane.mono _ _)
   | (with_reducible exact impl_JamsOf.mono _ _)
   | (with_reducible exact impl_LaneAfter.mono _ _ _)
   | (with_reducible exact impl_LastFlow.mono _ _)
   | (with_reducible exact impl_TurnAround.mono _ _)
   | (with_reducible exact impl_TurnLane.mono _ _)
   | (with_reducible exact laws_rInts.mono _ _ _)
   | (with_reducible exact laws_rSum.mono _ _)
   | (with_reducible exact spec_CalmTurn.mono _ _)
   | (with_reducible exact spec_CarPlaces.mono _ _ _)
   | (with_reducible exact spec_DrawLaneAfter.mono _ _)
   | (with_reducible exact spec_DrawTurnLane.mono _ _)
   | (with_reducible exact spec_FlowsOf.mono _ _ _)
   | (with_reducible exact spec_JamsOf.mono _ _)
   | (with_reducible exact spec_LaneAfter.mono _ _ _)
   | (with_reducible exact spec_LastFlow.mono _ _)
   | (with_reducible exact spec_TurnAround.mono _ _)
   | (with_reducible exact spec_TurnLane.mono _ _)
   | (with_reducible exact LeO.refl _)
   | (with_reducible exact LeO.none _)
   | (with_reducible refine LeO.ite ?_ ?_)
   | (with_reducible refine LeO.bind ?_ (fun _=>?_))
   | exact ih0 _ _ _ _ _ _
   | exact ih1 _ _ _ _ _ _
   | exact ih2 _ _ _ _ _ _ _
   | exact ih3 _ _ _ _ _ _ _ _
   | exact ih4 _ _ _ _ _ _ _ _ _
   | exact ih5 _ _ _ _ _ _ _ _ _ _ _ _
   | exact ih6 _ _ _ _ _ _ _ _ _ _ _ _ _
   | exact ih7 _ _ _ _ _ _ _ _ _ _ _ _ _
   | exact ih8 _ _ _ _ _ _ _
   | exact ih9 _ _ _ _ _ _ _ _ _ _ _ _ _
   | exact ih10 _ _ _ _ _ _ _ _ _ _ _ _ _
   | exact ih11 _ _ _ _ _ _ _ _ _ _ _
   | exact impl_CalmTurn.mono _ _
   | exact impl_CarPlaces.mono _ _ _
   | exact impl_FlowsOf.mono _ _ _
   | exact impl_IsLane.mono _ _
   | exact impl_JamsOf.mono _ _
   | exact impl_LaneAfter.mono _ _ _
   | exact impl_LastFlow.mono _ _
   | exact impl_TurnAround.mono _ _
   | exact impl_TurnLane.mono _ _
   | exact laws_rInts.mono _ _ _
   | exact laws_rSum.mono _ _
   | exact spec_CalmTurn.mono _ _
   | exact spec_CarPlaces.mono _ _ _
   | exact spec_DrawLaneAfter.mono _ _
   | exact spec_DrawTurnLane.mono _ _
   | exact spec_FlowsOf.mono _ _ _
   | exact spec_JamsOf.mono _ _
   | exact spec_LaneAfter.mono _ _ _
   | exact spec_LastFlow.mono _ _
   | exact spec_TurnAround.mono _ _
   | exact spec_TurnLane.mono _ _
   | exact LeO.none _
   | refine LeO.ite ?_ ?_
   | refine LeO.bind ?_ (fun _=>?_)
  ·intro y0 y1 y2 y3 y4 y5 y6 y7 y8
   unfold laws_FnLanes.j4
   repeat' first
   | (with_reducible exact ih0 _ _ _ _ _ _)
   | (with_reducible exact ih1 _ _ _ _ _ _)
   | (with_reducible exact ih2 _ _ _ _ _ _ _)
   | (with_reducible exact ih3 _ _ _ _ _ _ _ _)
   | (with_reducible exact ih4 _ _ _ _ _ _ _ _ _)
   | (with_reducible exact ih5 _ _ _ _ _ _ _ _ _ _ _ _)
   | (with_reducible exact ih6 _ _ _ _ _ _ _ _ _ _ _ _ _)
   | (with_reducible exact ih7 _ _ _ _ _ _ _ _ _ _ _ _ _)
   | (with_reducible exact ih8 _ _ _ _ _ _ _)
   | (with_reducible exact ih9 _ _ _ _ _ _ _ _ _ _ _ _ _)
   | (with_reducible exact ih10 _ _ _ _ _ _ _ _ _ _ _ _ _)
   | (with_reducible exact ih11 _ _ _ _ _ _ _ _ _ _ _)
   | (with_reducible exact impl_CalmTurn.mono _ _)
   | (with_reducible exact impl_CarPlaces.mono _ _ _)
   | (with_reducible exact impl_FlowsOf.mono _ _ _)
   | (with_reducible exact impl_IsLane.mono _ _)
   | (with_reducible exact impl_JamsOf.mono _ _)
   | (with_reducible exact impl_LaneAfter.mono _ _ _)
   | (with_reducible exact impl_LastFlow.mono _ _)
   | (with_reducible exact impl_TurnAround.mono _ _)
   | (with_reducible exact impl_TurnLane.mono _ _)
   | (with_reducible exact laws_rInts.mono _ _ _)
   | (with_reducible exact laws_rSum.mono _ _)
   | (with_reducible exact spec_CalmTurn.mono _ _)
   | (with_reducible exact spec_CarPlaces.mono _ _ _)
   | (with_reducible exact spec_DrawLaneAfter.mono _ _)
   | (with_reducible exact spec_DrawTurnLane.mono _ _)
   | (with_reducible exact spec_FlowsOf.mono _ _ _)
   | (with_reducible exact spec_JamsOf.mono _ _)
   | (with_reducible exact spec_LaneAfter.mono _ _ _)
   | (with_reducible exact spec_LastFlow.mono _ _)
   | (with_reducible exact spec_TurnAround.mono _ _)
   | (with_reducible exact spec_TurnLane.mono _ _)
   | (with_reducible exact LeO.refl _)
   | (with_reducible exact LeO.none _)
   | (with_reducible refine LeO.ite ?_ ?_)
   | (with_reducible refine LeO.bind ?_ (fun _=>?_))
   | exact ih0 _ _ _ _ _ _
   | exact ih1 _ _ _ _ _ _
   | exact ih2 _ _ _ _ _ _ _
   | exact ih3 _ _ _ _ _ _ _ _
   | exact ih4 _ _ _ _ _ _ _ _ _
   | exact ih5 _ _ _ _ _ _ _ _ _ _ _ _
   | exact ih6 _ _ _ _ _ _ _ _ _ _ _ _ _
   | exact ih7 _ _ _ _ _ _ _ _ _ _ _ _ _
   | exact ih8 _ _ _ _ _ _ _
   | exact ih9 _ _ _ _ _ _ _ _ _ _ _ _ _
   | exact ih10 _ _ _ _ _ _ _ _ _ _ _ _ _
   | exact ih11 _ _ _ _ _ _ _ _ _ _ _
   | exact impl_CalmTurn.mono _ _
   | exact impl_CarPlaces.mono _ _ _
   | exact impl_FlowsOf.mono _ _ _
   | exact impl_IsLane.mono _ _
   | exact impl_JamsOf.mono _ _
   | exact impl_LaneAfter.mono _ _ _
   | exact impl_LastFlow.mono _ _
   | exact impl_TurnAround.mono _ _
   | exact impl_TurnLane.mono _ _
   | exact laws_rInts.mono _ _ _
   | exact laws_rSum.mono _ _
   | exact spec_CalmTurn.mono _ _
   | exact spec_CarPlaces.mono _ _ _
   | exact spec_DrawLaneAfter.mono _ _
   | exact spec_DrawTurnLane.mono _ _
   | exact spec_FlowsOf.mono _ _ _
   | exact spec_JamsOf.mono _ _
   | exact spec_LaneAfter.mono _ _ _
   | exact spec_LastFlow.mono _ _
   | exact spec_TurnAround.mono _ _
   | exact spec_TurnLane.mono _ _
   | exact LeO.none _
   | refine LeO.ite ?_ ?_
   | refine LeO.bind ?_ (fun _=>?_)
  ·intro y0 y1 y2 y3 y4 y5 y6 y7 y8 y9 y10 y11
   unfold laws_FnLanes.j5
   repeat' first
   | (with_reducible exact ih0 _ _ _ _ _ _)
   | (with_reducible exact ih1 _ _ _ _ _ _)
   | (with_reducible exact ih2 _ _ _ _ _ _ _)
   | (with_reducible exact ih3 _ _ _ _ _ _ _ _)
   | (with_reducible exact ih4 _ _ _ _ _ _ _ _ _)
   | (with_reducible exact ih5 _ _ _ _ _ _ _ _ _ _ _ _)
   | (with_reducible exact ih6 _ _ _ _ _ _ _ _ _ _ _ _ _)
   | (with_reducible exact ih7 _ _ _ _ _ _ _ _ _ _ _ _ _)
   | (with_reducible exact ih8 _ _ _ _ _ _ _)
   | (with_reducible exact ih9 _ _ _ _ _ _ _ _ _ _ _ _ _)
   | (with_reducible exact ih10 _ _ _ _ _ _ _ _ _ _ _ _ _)
   | (with_reducible exact ih11 _ _ _ _ _ _ _ _ _ _ _)
   | (with_reducible exact impl_CalmTurn.mono _ _)
   | (with_reducible exact impl_CarPlaces.mono _ _ _)
   | (with_reducible exact impl_FlowsOf.mono _ _ _)
   | (with_reducible exact impl_IsLane.mono _ _)
   | (with_reducible exact impl_JamsOf.mono _ _)
   | (with_reducible exact impl_LaneAfter.mono _ _ _)
   | (with_reducible exact impl_LastFlow.mono _ _)
   | (with_reducible exact impl_TurnAround.mono _ _)
   | (with_reducible exact impl_TurnLane.mono _ _)
   | (with_reducible exact laws_rInts.mono _ _ _)
   | (with_reducible exact laws_rSum.mono _ _)
   | (with_reducible exact spec_CalmTurn.mono _ _)
   | (with_reducible exact spec_CarPlaces.mono _ _ _)
   | (with_reducible exact spec_DrawLaneAfter.mono _ _)
   | (with_reducible exact spec_DrawTurnLane.mono _ _)
   | (with_reducible exact spec_FlowsOf.mono _ _ _)
   | (with_reducible exact spec_JamsOf.mono _ _)
   | (with_reducible exact spec_LaneAfter.mono _ _ _)
   | (with_reducible exact spec_LastFlow.mono _ _)
   | (with_reducible exact spec_TurnAround.mono _ _)
   | (with_reducible exact spec_TurnLane.mono _ _)
   | (with_reducible exact LeO.refl _)
   | (with_reducible exact LeO.none _)
   | (with_reducible refine LeO.ite ?_ ?_)
   | (with_reducible refine LeO.bind ?_ (fun _=>?_))
   | exact ih0 _ _ _ _ _ _
   | exact ih1 _ _ _ _ _ _
   | exact ih2 _ _ _ _ _ _ _
   | exact ih3 _ _ _ _ _ _ _ _
   | exact ih4 _ _ _ _ _ _ _ _ _
   | exact ih5 _ _ _ _ _ _ _ _ _ _ _ _
   | exact ih6 _ _ _ _ _ _ _ _ _ _ _ _ _
   | exact ih7 _ _ _ _ _ _ _ _ _ _ _ _ _
   | exact ih8 _ _ _ _ _ _ _
   | exact ih9 _ _ _ _ _ _ _ _ _ _ _ _ _
   | exact ih10 _ _ _ _ _ _ _ _ _ _ _ _ _
   | exact ih11 _ _ _ _ _ _ _ _ _ _ _
   | exact impl_CalmTurn.mono _ _
   | exact impl_CarPlaces.mono _ _ _
   | exact impl_FlowsOf.mono _ _ _
   | exact impl_IsLane.mono _ _
   | exact impl_JamsOf.mono _ _
   | exact impl_LaneAfter.mono _ _ _
   | exact impl_LastFlow.mono _ _
   | exact impl_TurnAround.mono _ _
   | exact impl_TurnLane.mono _ _
   | exact laws_rInts.mono _ _ _
   | exact laws_rSum.mono _ _
   | exact spec_CalmTurn.mono _ _
   | exact spec_CarPlaces.mono _ _ _
   | exact spec_DrawLaneAfter.mono _ _
   | exact spec_DrawTurnLane.mono _ _
   | exact spec_FlowsOf.mono _ _ _
   | exact spec_JamsOf.mono _ _
   | exact spec_LaneAfter.mono _ _ _
   | exact spec_LastFlow.mono _ _
   | exact spec_TurnAround.mono _ _
   | exact spec_TurnLane.mono _ _
   | exact LeO.none _
   | refine LeO.ite ?_ ?_
   | refine LeO.bind ?_ (fun _=>?_)
  ·intro y0 y1 y2 y3 y4 y5 y6 y7 y8 y9 y10 y11 y12
   unfold laws_FnLanes.j6
   repeat' first
   | (with_reducible exact ih0 _ _ _ _ _ _)
   | (with_reducible exact ih1 _ _ _ _ _ _)
   | (with_reducible exact ih2 _ _ _ _ _ _ _)
   | (with_reducible exact ih3 _ _ _ _ _ _ _ _)
   | (with_reducible exact ih4 _ _ _ _ _ _ _ _ _)
   | (with_reducible exact ih5 _ _ _ _ _ _ _ _ _ _ _ _)
   | (with_reducible exact ih6 _ _ _ _ _ _ _ _ _ _ _ _ _)
   | (with_reducible exact ih7 _ _ _ _ _ _ _ _ _ _ _ _ _)
   | (with_reducible exact ih8 _ _ _ _ _ _ _)
   | (with_reducible exact ih9 _ _ _ _ _ _ _ _ _ _ _ _ _)
   | (with_reducible exact ih10 _ _ _ _ _ _ _ _ _ _ _ _ _)
   | (with_reducible exact ih11 _ _ _ _ _ _ _ _ _ _ _)
   | (with_reducible exact impl_CalmTurn.mono _ _)
   | (with_reducible exact impl_CarPlaces.mono _ _ _)
   | (with_reducible exact impl_FlowsOf.mono _ _ _)
   | (with_reducible exact impl_IsLane.mono _ _)
   | (with_reducible exact impl_JamsOf.mono _ _)
   | (with_reducible exact impl_LaneAfter.mono _ _ _)
   | (with_reducible exact impl_LastFlow.mono _ _)
   | (with_reducible exact impl_TurnAround.mono _ _)
   | (with_reducible exact impl_TurnLane.mono _ _)
   | (with_reducible exact laws_rInts.mono _ _ _)
   | (with_reducible exact laws_rSum.mono _ _)
   | (with_reducible exact spec_CalmTurn.mono _ _)
   | (with_reducible exact spec_CarPlaces.mono _ _ _)
   | (with_reducible exact spec_DrawLaneAfter.mono _ _)
   | (with_reducible exact spec_DrawTurnLane.mono _ _)
   | (with_reducible exact spec_FlowsOf.mono _ _ _)
   | (with_reducible exact spec_JamsOf.mono _ _)
   | (with_reducible exact spec_LaneAfter.mono _ _ _)
   | (with_reducible exact spec_LastFlow.mono _ _)
   | (with_reducible exact spec_TurnAround.mono _ _)
   | (with_reducible exact spec_TurnLane.mono _ _)
   | (with_reducible exact LeO.refl _)
   | (with_reducible exact LeO.none _)
   | (with_reducible refine LeO.ite ?_ ?_)
   | (with_reducible refine LeO.bind ?_ (fun _=>?_))
   | exact ih0 _ _ _ _ _ _
   | exact ih1 _ _ _ _ _ _
   | exact ih2 _ _ _ _ _ _ _
   | exact ih3 _ _ _ _ _ _ _ _
   | exact ih4 _ _ _ _ _ _ _ _ _
   | exact ih5 _ _ _ _ _ _ _ _ _ _ _ _
   | exact ih6 _ _ _ _ _ _ _ _ _ _ _ _ _
   | exact ih7 _ _ _ _ _ _ _ _ _ _ _ _ _
   | exact ih8 _ _ _ _ _ _ _
   | exact ih9 _ _ _ _ _ _ _ _ _ _ _ _ _
   | exact ih10 _ _ _ _ _ _ _ _ _ _ _ _ _
   | exact ih11 _ _ _ _ _ _ _ _ _ _ _
   | exact impl_CalmTurn.mono _ _
   | exact impl_CarPlaces.mono _ _ _
   | exact impl_FlowsOf.mono _ _ _
   | exact impl_IsLane.mono _ _
   | exact impl_JamsOf.mono _ _
   | exact impl_LaneAfter.mono _ _ _
   | exact impl_LastFlow.mono _ _
   | exact impl_TurnAround.mono _ _
   | exact impl_TurnLane.mono _ _
   | exact laws_rInts.mono _ _ _
   | exact laws_rSum.mono _ _
   | exact spec_CalmTurn.mono _ _
   | exact spec_CarPlaces.mono _ _ _
   | exact spec_DrawLaneAfter.mono _ _
   | exact spec_DrawTurnLane.mono _ _
   | exact spec_FlowsOf.mono _ _ _
   | exact spec_JamsOf.mono _ _
   | exact spec_LaneAfter.mono _ _ _
   | exact spec_LastFlow.mono _ _
   | exact spec_TurnAround.mono _ _
   | exact spec_TurnLane.mono _ _
   | exact LeO.none _
   | refine LeO.ite ?_ ?_
   | refine LeO.bind ?_ (fun _=>?_)
  ·intro y0 y1 y2 y3 y4 y5 y6 y7 y8 y9 y10 y11 y12
   unfold laws_FnLanes.j7
   repeat' first
   | (with_reducible exact ih0 _ _ _ _ _ _)
   | (with_reducible exact ih1 _ _ _ _ _ _)
   | (with_reducible exact ih2 _ _ _ _ _ _ _)
   | (with_reducible exact ih3 _ _ _ _ _ _ _ _)
   | (with_reducible exact ih4 _ _ _ _ _ _ _ _ _)
   | (with_reducible exact ih5 _ _ _ _ _ _ _ _ _ _ _ _)
   | (with_reducible exact ih6 _ _ _ _ _ _ _ _ _ _ _ _ _)
   | (with_reducible exact ih7 _ _ _ _ _ _ _ _ _ _ _ _ _)
   | (with_reducible exact ih8 _ _ _ _ _ _ _)
   | (with_reducible exact ih9 _ _ _ _ _ _ _ _ _ _ _ _ _)
   | (with_reducible exact ih10 _ _ _ _ _ _ _ _ _ _ _ _ _)
   | (with_reducible exact ih11 _ _ _ _ _ _ _ _ _ _ _)
   | (with_reducible exact impl_CalmTurn.mono _ _)
   | (with_reducible exact impl_CarPlaces.mono _ _ _)
   | (with_reducible exact impl_FlowsOf.mono _ _ _)
   | (with_reducible exact impl_IsLane.mono _ _)
   | (with_reducible exact impl_JamsOf.mono _ _)
   | (with_reducible exact impl_LaneAfter.mono _ _ _)
   | (with_reducible exact impl_LastFlow.mono _ _)
   | (with_reducible exact impl_TurnAround.mono _ _)
   | (with_reducible exact impl_TurnLane.mono _ _)
   | (with_reducible exact laws_rInts.mono _ _ _)
   | (with_reducible exact laws_rSum.mono _ _)
   | (with_reducible exact spec_CalmTurn.mono _ _)
   | (with_reducible exact spec_CarPlaces.mono _ _ _)
   | (with_reducible exact spec_DrawLaneAfter.mono _ _)
   | (with_reducible exact spec_DrawTurnLane.mono _ _)
   | (with_reducible exact spec_FlowsOf.mono _ _ _)
   | (with_reducible exact spec_JamsOf.mono _ _)
   | (with_reducible exact spec_LaneAfter.mono _ _ _)
   | (with_reducible exact spec_LastFlow.mono _ _)
   | (with_reducible exact spec_TurnAround.mono _ _)
   | (with_reducible exact spec_TurnLane.mono _ _)
   | (with_reducible exact LeO.refl _)
   | (with_reducible exact LeO.none _)
   | (with_reducible refine LeO.ite ?_ ?_)
   | (with_reducible refine LeO.bind ?_ (fun _=>?_))
   | exact ih0 _ _ _ _ _ _
   | exact ih1 _ _ _ _ _ _
   | exact ih2 _ _ _ _ _ _ _
   | exact ih3 _ _ _ _ _ _ _ _
   | exact ih4 _ _ _ _ _ _ _ _ _
   | exact ih5 _ _ _ _ _ _ _ _ _ _ _ _
   | exact ih6 _ _ _ _ _ _ _ _ _ _ _ _ _
   | exact ih7 _ _ _ _ _ _ _ _ _ _ _ _ _
   | exact ih8 _ _ _ _ _ _ _
   | exact ih9 _ _ _ _ _ _ _ _ _ _ _ _ _
   | exact ih10 _ _ _ _ _ _ _ _ _ _ _ _ _
   | exact ih11 _ _ _ _ _ _ _ _ _ _ _
   | exact impl_CalmTurn.mono _ _
   | exact impl_CarPlaces.mono _ _ _
   | exact impl_FlowsOf.mono _ _ _
   | exact impl_IsLane.mono _ _
   | exact impl_JamsOf.mono _ _
   | exact impl_LaneAfter.mono _ _ _
   | exact impl_LastFlow.mono _ _
   | exact impl_TurnAround.mono _ _
   | exact impl_TurnLane.mono _ _
   | exact laws_rInts.mono _ _ _
   | exact laws_rSum.mono _ _
   | exact spec_CalmTurn.mono _ _
   | exact spec_CarPlaces.mono _ _ _
   | exact spec_DrawLaneAfter.mono _ _
   | exact spec_DrawTurnLane.mono _ _
   | exact spec_FlowsOf.mono _ _ _
   | exact spec_JamsOf.mono _ _
   | exact spec_LaneAfter.mono _ _ _
   | exact spec_LastFlow.mono _ _
   | exact spec_TurnAround.mono _ _
   | exact spec_TurnLane.mono _ _
   | exact LeO.none _
   | refine LeO.ite ?_ ?_
   | refine LeO.bind ?_ (fun _=>?_)
  ·intro y0 y1 y2 y3 y4 y5 y6
   unfold laws_FnLanes.j11
   repeat' first
   | (with_reducible exact ih0 _ _ _ _ _ _)
   | (with_reducible exact ih1 _ _ _ _ _ _)
   | (with_reducible exact ih2 _ _ _ _ _ _ _)
   | (with_reducible exact ih3 _ _ _ _ _ _ _ _)
   | (with_reducible exact ih4 _ _ _ _ _ _ _ _ _)
   | (with_reducible exact ih5 _ _ _ _ _ _ _ _ _ _ _ _)
   | (with_reducible exact ih6 _ _ _ _ _ _ _ _ _ _ _ _ _)
   | (with_reducible exact ih7 _ _ _ _ _ _ _ _ _ _ _ _ _)
   | (with_reducible exact ih8 _ _ _ _ _ _ _)
   | (with_reducible exact ih9 _ _ _ _ _ _ _ _ _ _ _ _ _)
   | (with_reducible exact ih10 _ _ _ _ _ _ _ _ _ _ _ _ _)
   | (with_reducible exact ih11 _ _ _ _ _ _ _ _ _ _ _)
   | (with_reducible exact impl_CalmTurn.mono _ _)
   | (with_reducible exact impl_CarPlaces.mono _ _ _)
   | (with_reducible exact impl_FlowsOf.mono _ _ _)
   | (with_reducible exact impl_IsLane.mono _ _)
   | (with_reducible exact impl_JamsOf.mono _ _)
   | (with_reducible exact impl_LaneAfter.mono _ _ _)
   | (with_reducible exact impl_LastFlow.mono _ _)
   | (with_reducible exact impl_TurnAround.mono _ _)
   | (with_reducible exact impl_TurnLane.mono _ _)
   | (with_reducible exact laws_rInts.mono _ _ _)
   | (with_reducible exact laws_rSum.mono _ _)
   | (with_reducible exact spec_CalmTurn.mono _ _)
   | (with_reducible exact spec_CarPlaces.mono _ _ _)
   | (with_reducible exact spec_DrawLaneAfter.mono _ _)
   | (with_reducible exact spec_DrawTurnLane.mono _ _)
   | (with_reducible exact spec_FlowsOf.mono _ _ _)
   | (with_reducible exact spec_JamsOf.mono _ _)
   | (with_reducible exact spec_LaneAfter.mono _ _ _)
   | (with_reducible exact spec_LastFlow.mono _ _)
   | (with_reducible exact spec_TurnAround.mono _ _)
   | (with_reducible exact spec_TurnLane.mono _ _)
   | (with_reducible exact LeO.refl _)
   | (with_reducible exact LeO.none _)
   | (with_reducible refine LeO.ite ?_ ?_)
   | (with_reducible refine LeO.bind ?_ (fun _=>?_))
   | exact ih0 _ _ _ _ _ _
   | exact ih1 _ _ _ _ _ _
   | exact ih2 _ _ _ _ _ _ _
   | exact ih3 _ _ _ _ _ _ _ _
   | exact ih4 _ _ _ _ _ _ _ _ _
   | exact ih5 _ _ _ _ _ _ _ _ _ _ _ _
   | exact ih6 _ _ _ _ _ _ _ _ _ _ _ _ _
   | exact ih7 _ _ _ _ _ _ _ _ _ _ _ _ _
   | exact ih8 _ _ _ _ _ _ _
   | exact ih9 _ _ _ _ _ _ _ _ _ _ _ _ _
   | exact ih10 _ _ _ _ _ _ _ _ _ _ _ _ _
   | exact ih11 _ _ _ _ _ _ _ _ _ _ _
   | exact impl_CalmTurn.mono _ _
   | exact impl_CarPlaces.mono _ _ _
   | exact impl_FlowsOf.mono _ _ _
   | exact impl_IsLane.mono _ _
   | exact impl_JamsOf.mono _ _
   | exact impl_LaneAfter.mono _ _ _
   | exact impl_LastFlow.mono _ _
   | exact impl_TurnAround.mono _ _
   | exact impl_TurnLane.mono _ _
   | exact laws_rInts.mono _ _ _
   | exact laws_rSum.mono _ _
   | exact spec_CalmTurn.mono _ _
   | exact spec_CarPlaces.mono _ _ _
   | exact spec_DrawLaneAfter.mono _ _
   | exact spec_DrawTurnLane.mono _ _
   | exact spec_FlowsOf.mono _ _ _
   | exact spec_JamsOf.mono _ _
   | exact spec_LaneAfter.mono _ _ _
   | exact spec_LastFlow.mono _ _
   | exact spec_TurnAround.mono _ _
   | exact spec_TurnLane.mono _ _
   | exact LeO.none _
   | refine LeO.ite ?_ ?_
   | refine LeO.bind ?_ (fun _=>?_)
  ·intro y0 y1 y2 y3 y4 y5 y6 y7 y8 y9 y10 y11 y12
   unfold laws_FnLanes.j8
   repeat' first
   | (with_reducible exact ih0 _ _ _ _ _ _)
   | (with_reducible exact ih1 _ _ _ _ _ _)
   | (with_reducible exact ih2 _ _ _ _ _ _ _)
   | (with_reducible exact ih3 _ _ _ _ _ _ _ _)
   | (with_reducible exact ih4 _ _ _ _ _ _ _ _ _)
   | (with_reducible exact ih5 _ _ _ _ _ _ _ _ _ _ _ _)
   | (with_reducible exact ih6 _ _ _ _ _ _ _ _ _ _ _ _ _)
   | (with_reducible exact ih7 _ _ _ _ _ _ _ _ _ _ _ _ _)
   | (with_reducible exact ih8 _ _ _ _ _ _ _)
   | (with_reducible exact ih9 _ _ _ _ _ _ _ _ _ _ _ _ _)
   | (with_reducible exact ih10 _ _ _ _ _ _ _ _ _ _ _ _ _)
   | (with_reducible exact ih11 _ _ _ _ _ _ _ _ _ _ _)
   | (with_reducible exact impl_CalmTurn.mono _ _)
   | (with_reducible exact impl_CarPlaces.mono _ _ _)
   | (with_reducible exact impl_FlowsOf.mono _ _ _)
   | (with_reducible exact impl_IsLane.mono _ _)
   | (with_reducible exact impl_JamsOf.mono _ _)
   | (with_reducible exact impl_LaneAfter.mono _ _ _)
   | (with_reducible exact impl_LastFlow.mono _ _)
   | (with_reducible exact impl_TurnAround.mono _ _)
   | (with_reducible exact impl_TurnLane.mono _ _)
   | (with_reducible exact laws_rInts.mono _ _ _)
   | (with_reducible exact laws_rSum.mono _ _)
   | (with_reducible exact spec_CalmTurn.mono _ _)
   | (with_reducible exact spec_CarPlaces.mono _ _ _)
   | (with_reducible exact spec_DrawLaneAfter.mono _ _)
   | (with_reducible exact spec_DrawTurnLane.mono _ _)
   | (with_reducible exact spec_FlowsOf.mono _ _ _)
   | (with_reducible exact spec_JamsOf.mono _ _)
   | (with_reducible exact spec_LaneAfter.mono _ _ _)
   | (with_reducible exact spec_LastFlow.mono _ _)
   | (with_reducible exact spec_TurnAround.mono _ _)
   | (with_reducible exact spec_TurnLane.mono _ _)
   | (with_reducible exact LeO.refl _)
   | (with_reducible exact LeO.none _)
   | (with_reducible refine LeO.ite ?_ ?_)
   | (with_reducible refine LeO.bind ?_ (fun _=>?_))
   | exact ih0 _ _ _ _ _ _
   | exact ih1 _ _ _ _ _ _
   | exact ih2 _ _ _ _ _ _ _
   | exact ih3 _ _ _ _ _ _ _ _
   | exact ih4 _ _ _ _ _ _ _ _ _
   | exact ih5 _ _ _ _ _ _ _ _ _ _ _ _
   | exact ih6 _ _ _ _ _ _ _ _ _ _ _ _ _
   | exact ih7 _ _ _ _ _ _ _ _ _ _ _ _ _
   | exact ih8 _ _ _ _ _ _ _
   | exact ih9 _ _ _ _ _ _ _ _ _ _ _ _ _
   | exact ih10 _ _ _ _ _ _ _ _ _ _ _ _ _
   | exact ih11 _ _ _ _ _ _ _ _ _ _ _
   | exact impl_CalmTurn.mono _ _
   | exact impl_CarPlaces.mono _ _ _
   | exact impl_FlowsOf.mono _ _ _
   | exact impl_IsLane.mono _ _
   | exact impl_JamsOf.mono _ _
   | exact impl_LaneAfter.mono _ _ _
   | exact impl_LastFlow.mono _ _
   | exact impl_TurnAround.mono _ _
   | exact impl_TurnLane.mono _ _
   | exact laws_rInts.mono _ _ _
   | exact laws_rSum.mono _ _
   | exact spec_CalmTurn.mono _ _
   | exact spec_CarPlaces.mono _ _ _
   | exact spec_DrawLaneAfter.mono _ _
   | exact spec_DrawTurnLane.mono _ _
   | exact spec_FlowsOf.mono _ _ _
   | exact spec_JamsOf.mono _ _
   | exact spec_LaneAfter.mono _ _ _
   | exact spec_LastFlow.mono _ _
   | exact spec_TurnAround.mono _ _
   | exact spec_TurnLane.mono _ _
   | exact LeO.none _
   | refine LeO.ite ?_ ?_
   | refine LeO.bind ?_ (fun _=>?_)
  ·intro y0 y1 y2 y3 y4 y5 y6 y7 y8 y9 y10 y11 y12
   unfold laws_FnLanes.l0
   repeat' first
   | (with_reducible exact ih0 _ _ _ _ _ _)
   | (with_reducible exact ih1 _ _ _ _ _ _)
   | (with_reducible exact ih2 _ _ _ _ _ _ _)
   | (with_reducible exact ih3 _ _ _ _ _ _ _ _)
   | (with_reducible exact ih4 _ _ _ _ _ _ _ _ _)
   | (with_reducible exact ih5 _ _ _ _ _ _ _ _ _ _ _ _)
   | (with_reducible exact ih6 _ _ _ _ _ _ _ _ _ _ _ _ _)
   | (with_reducible exact ih7 _ _ _ _ _ _ _ _ _ _ _ _ _)
   | (with_reducible exact ih8 _ _ _ _ _ _ _)
   | (with_reducible exact ih9 _ _ _ _ _ _ _ _ _ _ _ _ _)
   | (with_reducible exact ih10 _ _ _ _ _ _ _ _ _ _ _ _ _)
   | (with_reducible exact ih11 _ _ _ _ _ _ _ _ _ _ _)
   | (with_reducible exact impl_CalmTurn.mono _ _)
   | (with_reducible exact impl_CarPlaces.mono _ _ _)
   | (with_reducible exact impl_FlowsOf.mono _ _ _)
   | (with_reducible exact impl_IsLane.mono _ _)
   | (with_reducible exact impl_JamsOf.mono _ _)
   | (with_reducible exact impl_LaneAfter.mono _ _ _)
   | (with_reducible exact impl_LastFlow.mono _ _)
   | (with_reducible exact impl_TurnAround.mono _ _)
   | (with_reducible exact impl_TurnLane.mono _ _)
   | (with_reducible exact laws_rInts.mono _ _ _)
   | (with_reducible exact laws_rSum.mono _ _)
   | (with_reducible exact spec_CalmTurn.mono _ _)
   | (with_reducible exact spec_CarPlaces.mono _ _ _)
   | (with_reducible exact spec_DrawLaneAfter.mono _ _)
   | (with_reducible exact spec_DrawTurnLane.mono _ _)
   | (with_reducible exact spec_FlowsOf.mono _ _ _)
   | (with_reducible exact spec_JamsOf.mono _ _)
   | (with_reducible exact spec_LaneAfter.mono _ _ _)
   | (with_reducible exact spec_LastFlow.mono _ _)
   | (with_reducible exact spec_TurnAround.mono _ _)
   | (with_reducible exact spec_TurnLane.mono _ _)
   | (with_reducible exact LeO.refl _)
   | (with_reducible exact LeO.none _)
   | (with_reducible refine LeO.ite ?_ ?_)
   | (with_reducible refine LeO.bind ?_ (fun _=>?_))
   | exact ih0 _ _ _ _ _ _
   | exact ih1 _ _ _ _ _ _
   | exact ih2 _ _ _ _ _ _ _
   | exact ih3 _ _ _ _ _ _ _ _
   | exact ih4 _ _ _ _ _ _ _ _ _
   | exact ih5 _ _ _ _ _ _ _ _ _ _ _ _
   | exact ih6 _ _ _ _ _ _ _ _ _ _ _ _ _
   | exact ih7 _ _ _ _ _ _ _ _ _ _ _ _ _
   | exact ih8 _ _ _ _ _ _ _
   | exact ih9 _ _ _ _ _ _ _ _ _ _ _ _ _
   | exact ih10 _ _ _ _ _ _ _ _ _ _ _ _ _
   | exact ih11 _ _ _ _ _ _ _ _ _ _ _
   | exact impl_CalmTurn.mono _ _
   | exact impl_CarPlaces.mono _ _ _
   | exact impl_FlowsOf.mono _ _ _
   | exact impl_IsLane.mono _ _
   | exact impl_JamsOf.mono _ _
   | exact impl_LaneAfter.mono _ _ _
   | exact impl_LastFlow.mono _ _
   | exact impl_TurnAround.mono _ _
   | exact impl_TurnLane.mono _ _
   | exact laws_rInts.mono _ _ _
   | exact laws_rSum.mono _ _
   | exact spec_CalmTurn.mono _ _
   | exact spec_CarPlaces.mono _ _ _
   | exact spec_DrawLaneAfter.mono _ _
   | exact spec_DrawTurnLane.mono _ _
   | exact spec_FlowsOf.mono _ _ _
   | exact spec_JamsOf.mono _ _
   | exact spec_LaneAfter.mono _ _ _
   | exact spec_LastFlow.mono _ _
   | exact spec_TurnAround.mono _ _
   | exact spec_TurnLane.mono _ _
   | exact LeO.none _
   | refine LeO.ite ?_ ?_
   | refine LeO.bind ?_ (fun _=>?_)
  ·intro y0 y1 y2 y3 y4 y5 y6 y7 y8 y9 y10
   unfold laws_FnLanes.l1
   repeat' first
   | (with_reducible exact ih0 _ _ _ _ _ _)
   | (with_reducible exact ih1 _ _ _ _ _ _)
   | (with_reducible exact ih2 _ _ _ _ _ _ _)
   | (with_reducible exact ih3 _ _ _ _ _ _ _ _)
   | (with_reducible exact ih4 _ _ _ _ _ _ _ _ _)
   | (with_reducible exact ih5 _ _ _ _ _ _ _ _ _ _ _ _)
   | (with_reducible exact ih6 _ _ _ _ _ _ _ _ _ _ _ _ _)
   | (with_reducible exact ih7 _ _ _ _ _ _ _ _ _ _ _ _ _)
   | (with_reducible exact ih8 _ _ _ _ _ _ _)
   | (with_reducible exact ih9 _ _ _ _ _ _ _ _ _ _ _ _ _)
   | (with_reducible exact ih10 _ _ _ _ _ _ _ _ _ _ _ _ _)
   | (with_reducible exact ih11 _ _ _ _ _ _ _ _ _ _ _)
   | (with_reducible exact impl_CalmTurn.mono _ _)
   | (with_reducible exact impl_CarPlaces.mono _ _ _)
   | (with_reducible exact impl_FlowsOf.mono _ _ _)
   | (with_reducible exact impl_IsLane.mono _ _)
   | (with_reducible exact impl_JamsOf.mono _ _)
   | (with_reducible exact impl_LaneAfter.mono _ _ _)
   | (with_reducible exact impl_LastFlow.mono _ _)
   | (with_reducible exact impl_TurnAround.mono _ _)
   | (with_reducible exact impl_TurnLane.mono _ _)
   | (with_reducible exact laws_rInts.mono _ _ _)
   | (with_reducible exact laws_rSum.mono _ _)
   | (with_reducible exact spec_CalmTurn.mono _ _)
   | (with_reducible exact spec_CarPlaces.mono _ _ _)
   | (with_reducible exact spec_DrawLaneAfter.mono _ _)
   | (with_reducible exact spec_DrawTurnLane.mono _ _)
   | (with_reducible exact spec_FlowsOf.mono _ _ _)
   | (with_reducible exact spec_JamsOf.mono _ _)
   | (with_reducible exact spec_LaneAfter.mono _ _ _)
   | (with_reducible exact spec_LastFlow.mono _ _)
   | (with_reducible exact spec_TurnAround.mono _ _)
   | (with_reducible exact spec_TurnLane.mono _ _)
   | (with_reducible exact LeO.refl _)
   | (with_reducible exact LeO.none _)
   | (with_reducible refine LeO.ite ?_ ?_)
   | (with_reducible refine LeO.bind ?_ (fun _=>?_))
   | exact ih0 _ _ _ _ _ _
   | exact ih1 _ _ _ _ _ _
   | exact ih2 _ _ _ _ _ _ _
   | exact ih3 _ _ _ _ _ _ _ _
   | exact ih4 _ _ _ _ _ _ _ _ _
   | exact ih5 _ _ _ _ _ _ _ _ _ _ _ _
   | exact ih6 _ _ _ _ _ _ _ _ _ _ _ _ _
   | exact ih7 _ _ _ _ _ _ _ _ _ _ _ _ _
   | exact ih8 _ _ _ _ _ _ _
   | exact ih9 _ _ _ _ _ _ _ _ _ _ _ _ _
   | exact ih10 _ _ _ _ _ _ _ _ _ _ _ _ _
   | exact ih11 _ _ _ _ _ _ _ _ _ _ _
   | exact impl_CalmTurn.mono _ _
   | exact impl_CarPlaces.mono _ _ _
   | exact impl_FlowsOf.mono _ _ _
   | exact impl_IsLane.mono _ _
   | exact impl_JamsOf.mono _ _
   | exact impl_LaneAfter.mono _ _ _
   | exact impl_LastFlow.mono _ _
   | exact impl_TurnAround.mono _ _
   | exact impl_TurnLane.mono _ _
   | exact laws_rInts.mono _ _ _
   | exact laws_rSum.mono _ _
   | exact spec_CalmTurn.mono _ _
   | exact spec_CarPlaces.mono _ _ _
   | exact spec_DrawLaneAfter.mono _ _
   | exact spec_DrawTurnLane.mono _ _
   | exact spec_FlowsOf.mono _ _ _
   | exact spec_JamsOf.mono _ _
   | exact spec_LaneAfter.mono _ _ _
   | exact spec_LastFlow.mono _ _
   | exact spec_TurnAround.mono _ _
   | exact spec_TurnLane.mono _ _
   | exact LeO.none _
   | refine LeO.ite ?_ ?_
   | refine LeO.bind ?_ (fun _=>?_)
theorem laws_FnLanes.mono : ∀ a0 k,LeO (laws_FnLanes.f k a0) (laws_FnLanes.f (k + 1) a0):=by
 intro a0 k
 obtain ⟨ih0,ih1,ih2,ih3,ih4,ih5,ih6,ih7,ih8,ih9,ih10,ih11⟩:=laws_FnLanes.mono_l k
 unfold laws_FnLanes.f
 repeat' first
   | (with_reducible exact ih0 _ _ _ _ _ _)
   | (with_reducible exact ih1 _ _ _ _ _ _)
   | (with_reducible exact ih2 _ _ _ _ _ _ _)
   | (with_reducible exact ih3 _ _ _ _ _ _ _ _)
   | (with_reducible exact ih4 _ _ _ _ _ _ _ _ _)
   | (with_reducible exact ih5 _ _ _ _ _ _ _ _ _ _ _ _)
   | (with_reducible exact ih6 _ _ _ _ _ _ _ _ _ _ _ _ _)
   | (with_reducible exact ih7 _ _ _ _ _ _ _ _ _ _ _ _ _)
   | (with_reducible exact ih8 _ _ _ _ _ _ _)
   | (with_reducible exact ih9 _ _ _ _ _ _ _ _ _ _ _ _ _)
   | (with_reducible exact ih10 _ _ _ _ _ _ _ _ _ _ _ _ _)
   | (with_reducible exact ih11 _ _ _ _ _ _ _ _ _ _ _)
   | (with_reducible exact impl_CalmTurn.mono _ _)
   | (with_reducible exact impl_CarPlaces.mono _ _ _)
   | (with_reducible exact impl_FlowsOf.mono _ _ _)
   | (with_reducible exact impl_IsLane.mono _ _)
   | (with_reducible exact impl_JamsOf.mono _ _)
   | (with_reducible exact impl_LaneAfter.mono _ _ _)
   | (with_reducible exact impl_LastFlow.mono _ _)
   | (with_reducible exact impl_TurnAround.mono _ _)
   | (with_reducible exact impl_TurnLane.mono _ _)
   | (with_reducible exact laws_rInts.mono _ _ _)
   | (with_reducible exact laws_rSum.mono _ _)
   | (with_reducible exact spec_CalmTurn.mono _ _)
   | (with_reducible exact spec_CarPlaces.mono _ _ _)
   | (with_reducible exact spec_DrawLaneAfter.mono _ _)
   | (with_reducible exact spec_DrawTurnLane.mono _ _)
   | (with_reducible exact spec_FlowsOf.mono _ _ _)
   | (with_reducible exact spec_JamsOf.mono _ _)
   | (with_reducible exact spec_LaneAfter.mono _ _ _)
   | (with_reducible exact spec_LastFlow.mono _ _)
   | (with_reducible exact spec_TurnAround.mono _ _)
   | (with_reducible exact spec_TurnLane.mono _ _)
   | (with_reducible exact LeO.refl _)
   | (with_reducible exact LeO.none _)
   | (with_reducible refine LeO.ite ?_ ?_)
   | (with_reducible refine LeO.bind ?_ (fun _=>?_))
   | exact ih0 _ _ _ _ _ _
   | exact ih1 _ _ _ _ _ _
   | exact ih2 _ _ _ _ _ _ _
   | exact ih3 _ _ _ _ _ _ _ _
   | exact ih4 _ _ _ _ _ _ _ _ _
   | exact ih5 _ _ _ _ _ _ _ _ _ _ _ _
   | exact ih6 _ _ _ _ _ _ _ _ _ _ _ _ _
   | exact ih7 _ _ _ _ _ _ _ _ _ _ _ _ _
   | exact ih8 _ _ _ _ _ _ _
   | exact ih9 _ _ _ _ _ _ _ _ _ _ _ _ _
   | exact ih10 _ _ _ _ _ _ _ _ _ _ _ _ _
   | exact ih11 _ _ _ _ _ _ _ _ _ _ _
   | exact impl_CalmTurn.mono _ _
   | exact impl_CarPlaces.mono _ _ _
   | exact impl_FlowsOf.mono _ _ _
   | exact impl_IsLane.mono _ _
   | exact impl_JamsOf.mono _ _
   | exact impl_LaneAfter.mono _ _ _
   | exact impl_LastFlow.mono _ _
   | exact impl_TurnAround.mono _ _
   | exact impl_TurnLane.mono _ _
   | exact laws_rInts.mono _ _ _
   | exact laws_rSum.mono _ _
   | exact spec_CalmTurn.mono _ _
   | exact spec_CarPlaces.mono _ _ _
   | exact spec_DrawLaneAfter.mono _ _
   | exact spec_DrawTurnLane.mono _ _
   | exact spec_FlowsOf.mono _ _ _
   | exact spec_JamsOf.mono _ _
   | exact spec_LaneAfter.mono _ _ _
   | exact spec_LastFlow.mono _ _
   | exact spec_TurnAround.mono _ _
   | exact spec_TurnLane.mono _ _
   | exact LeO.none _
   | refine LeO.ite ?_ ?_
   | refine LeO.bind ?_ (fun _=>?_)
/-- A part of a function's code: the ways to the left and to the right from its begin. -/
def follow : List Bool → Code → Code
 | false :: p, .seq a _ => follow p a
 | true :: p, .seq _ b => follow p b
 | _, c => c

end
end Go.Proofs.Ythkbjcihelmaeaa.QFnLanes
