/- Functions that the law FnSensors comes to, as Lean functions, with the proof that the Go code does what they say: written by a program of this session over the kit's print. No condition but those named. -/
import Derived.Test.YtknfhoghimnieaaQFnSensorsx0
import Derived.Test.YtknfhoghimnieaaQFnSensorsx4
import Derived.Test.YtknfhoghimnieaaQFnSensorsx5
import Derived.Test.YtknfhoghimnieaaQFnSensorsx6
import Derived.Test.YtknfhoghimnieaaQFnSensorsx7
import Derived.Test.YtknfhoghimnieaaQFnSensorsx8
import Derived.Test.YtknfhoghimnieaaQFnSensorsx9
import Derived.Test.YtknfhoghimnieaaQFnSensorsx10
import Derived.Test.YtknfhoghimnieaaQFnSensorsx12
import Derived.Test.YtknfhoghimnieaaQFnSensorsx13
namespace Go.Proofs.Ytknfhoghimnieaa.QFnSensors
open Go.RowKit Go.Proofs.YtknfhoghimnieaaW.PrintWords Go.Proofs.YtknfhoghimnieaaW.PrintLast Go.Proofs.YtknfhoghimnieaaW.PrintMore Go.Proofs.Ytknfhoghimnieaa.Short
attribute [local go_sem] max2_int min2_int max_two min_two max_three min_three max_four min_four   -- for this text's walks alone
set_option linter.unusedVariables false
set_option linter.unusedSimpArgs false

section
open Kd
/-! ### laws_FnSensors: function 9 -/
mutual
def laws_FnSensors.j0 : Nat → List (S59) → List Int → Bool → List (S54) → Int → List Int → List (S59) → List (S59) → Bool → Bool → Int → Bool → Int → Bool → Option (Bool)
 | 0,_,_,_,_,_,_,_,_,_,_,_,_,_,_=>none
 | k + 1,x4,x5,x6,x9,x13,x17,x26,x27,x28,x202,x476000,x476001,x517000,x517001=>if x202 = true then (some false) else (if x28 = true then ((impl_SeenBy.f k x517000 x517001 x26).bind fun bt529=>((impl_SeenBy.f k x517000 x517001 x27).bind fun bt533=>(laws_FnSensors.l0 k x4 x5 x6 x9 x13 x17 x26 x27 bt529.1 bt529.2 bt533.1 bt533.2 0 x476000 x476001 x517000 x517001))) else (laws_FnSensors.j3 k x4 x5 x6 x9 x13 x17 x476000 x476001))
def laws_FnSensors.j3 : Nat → List (S59) → List Int → Bool → List (S54) → Int → List Int → Int → Bool → Option (Bool)
 | 0,_,_,_,_,_,_,_,_=>none
 | k + 1,x4,x5,x6,x9,x13,x17,x476000,x476001=>if x6 = true then (if 0 < (x5.length : Int) then (laws_FnSensors.l1 k x4 x5 x9 x13 x17 (rd x5 0) 0 0 0 x476000 x476001) else (none)) else (some true)
def laws_FnSensors.l1 : Nat → List (S59) → List Int → List (S54) → Int → List Int → Int → Int → Int → Int → Int → Bool → Option (Bool)
 | 0,_,_,_,_,_,_,_,_,_,_,_=>none
 | k + 1,x4,x5,x9,x13,x17,x38,x39,x40,x41,x476000,x476001=>if x41 < x476000 then (if 0 ≤ x41 then (if x41 < (x5.length : Int) then (if (rd x5 x41) < x38 then (if (rd x5 x41) = 0 then (laws_FnSensors.l1 k x4 x5 x9 x13 x17 (rd x5 x41) (wrap64 (x39 + 1)) x40 (wrap64 (x41 + 1)) x476000 x476001) else (laws_FnSensors.l1 k x4 x5 x9 x13 x17 (rd x5 x41) x39 x40 (wrap64 (x41 + 1)) x476000 x476001)) else (if (rd x5 x41) = 0 then (laws_FnSensors.l1 k x4 x5 x9 x13 x17 x38 (wrap64 (x39 + 1)) x40 (wrap64 (x41 + 1)) x476000 x476001) else (laws_FnSensors.l1 k x4 x5 x9 x13 x17 x38 x39 x40 (wrap64 (x41 + 1)) x476000 x476001))) else (none)) else (none)) else (laws_FnSensors.l2 k x4 x5 x9 x13 x17 x38 x39 x40 0 x476000 x476001)
def laws_FnSensors.l2 : Nat → List (S59) → List Int → List (S54) → Int → List Int → Int → Int → Int → Int → Int → Bool → Option (Bool)
 | 0,_,_,_,_,_,_,_,_,_,_,_=>none
 | k + 1,x4,x5,x9,x13,x17,x38,x39,x40,x42,x476000,x476001=>if x42 < (x9.length : Int) then (if 0 ≤ x42 then (laws_FnSensors.l3 k x4 x5 x9 x13 x17 x38 x39 x40 x42 ((rd_T54 x9 x42).f0) x476000 x476001) else (none)) else (if x40 = x39 then (if x13 = x38 then (laws_FnSensors.j7 k x4 x13 x17 ((x13 == 0) != (decide ((x9.length : Int) > 0))) x476000 x476001) else (laws_FnSensors.j7 k x4 x13 x17 true x476000 x476001)) else (laws_FnSensors.j7 k x4 x13 x17 true x476000 x476001))
def laws_FnSensors.l3 : Nat → List (S59) → List Int → List (S54) → Int → List Int → Int → Int → Int → Int → Int → Int → Bool → Option (Bool)
 | 0,_,_,_,_,_,_,_,_,_,_,_,_=>none
 | k + 1,x4,x5,x9,x13,x17,x38,x39,x40,x42,x43,x476000,x476001=>if 0 ≤ x42 then (if x42 < (x9.length : Int) then (if x43 ≤ ((rd_T54 x9 x42).f1) then (if 0 ≤ x43 then (if x43 < (x5.length : Int) then (if (rd x5 x43) = 0 then (laws_FnSensors.l3 k x4 x5 x9 x13 x17 x38 x39 (wrap64 (x40 + 1)) x42 (wrap64 (x43 + 1)) x476000 x476001) else (some false)) else (none)) else (none)) else (laws_FnSensors.l2 k x4 x5 x9 x13 x17 x38 x39 x40 (wrap64 (x42 + 1)) x476000 x476001)) else (none)) else (none)
def laws_FnSensors.j7 : Nat → List (S59) → Int → List Int → Bool → Int → Bool → Option (Bool)
 | 0,_,_,_,_,_,_=>none
 | k + 1,x4,x13,x17,x333,x476000,x476001=>if x333 = true then (some false) else (laws_FnSensors.l4 k x4 x13 x17 0 x476000 x476001)
def laws_FnSensors.l4 : Nat → List (S59) → Int → List Int → Int → Int → Bool → Option (Bool)
 | 0,_,_,_,_,_,_=>none
 | k + 1,x4,x13,x17,x44,x476000,x476001=>if x44 < (x4.length : Int) then ((some (([] : List (S59)) : List (S59))).bind fun y552=>(if 0 ≤ x44 then (if x44 ≤ (x4.length : Int) then ((some (x4.take (x44 : Int).toNat : List (S59))).bind fun y555=>(if y552.length + y555.length < 8796093022208 then ((some (y552 ++ y555 : List (S59))).bind fun y559=>(if 0 ≤ (wrap64 (x44 + 1)) then (if (wrap64 (x44 + 1)) ≤ (x4.length : Int) then ((some (x4.drop ((wrap64 (x44 + 1)) : Int).toNat : List (S59))).bind fun y562=>(if y559.length + y562.length < 8796093022208 then ((impl_StrengthOf.f k x476000 x476001 (y559 ++ y562)).bind fun bt569=>(if bt569.2 = true then ((laws_vHas.f k x17 x44).bind fun t571=>(if (t571 != (decide (bt569.1 > 0))) = true then (some false) else (if bt569.1 < (wrap64 (x13 - 1)) then (some false) else (laws_FnSensors.l4 k x4 x13 x17 (wrap64 (x44 + 1)) x476000 x476001)))) else (some false))) else (none))) else (none)) else (none))) else (none))) else (none)) else (none))) else (some true)
def laws_FnSensors.l0 : Nat → List (S59) → List Int → Bool → List (S54) → Int → List Int → List (S59) → List (S59) → List Int → Bool → List Int → Bool → Int → Int → Bool → Int → Bool → Option (Bool)
 | 0,_,_,_,_,_,_,_,_,_,_,_,_,_,_,_,_,_=>none
 | k + 1,x4,x5,x6,x9,x13,x17,x26,x27,x31,x32,x33,x34,x35,x476000,x476001,x517000,x517001=>if x32 = true then (if x34 = true then (laws_FnSensors.j2 k x4 x5 x6 x9 x13 x17 x26 x27 x31 x32 x33 x34 x35 (decide (x35 < x517000)) x476000 x476001 x517000 x517001) else (laws_FnSensors.j2 k x4 x5 x6 x9 x13 x17 x26 x27 x31 x32 x33 x34 x35 false x476000 x476001 x517000 x517001)) else (laws_FnSensors.j2 k x4 x5 x6 x9 x13 x17 x26 x27 x31 x32 x33 x34 x35 false x476000 x476001 x517000 x517001)
def laws_FnSensors.j2 : Nat → List (S59) → List Int → Bool → List (S54) → Int → List Int → List (S59) → List (S59) → List Int → Bool → List Int → Bool → Int → Bool → Int → Bool → Int → Bool → Option (Bool)
 | 0,_,_,_,_,_,_,_,_,_,_,_,_,_,_,_,_,_,_=>none
 | k + 1,x4,x5,x6,x9,x13,x17,x26,x27,x31,x32,x33,x34,x35,x225,x476000,x476001,x517000,x517001=>if x225 = true then (if 0 ≤ x35 then (if x35 < (x31.length : Int) then (if 0 ≤ (wrap64 ((wrap64 (x517000 - 1)) - x35)) then (if (wrap64 ((wrap64 (x517000 - 1)) - x35)) < (x33.length : Int) then (if (rd x31 x35) = (rd x33 (wrap64 ((wrap64 (x517000 - 1)) - x35))) then (laws_FnSensors.l0 k x4 x5 x6 x9 x13 x17 x26 x27 x31 x32 x33 x34 (wrap64 (x35 + 1)) x476000 x476001 x517000 x517001) else (some false)) else (none)) else (none)) else (none)) else (none)) else ((impl_MirrorSensors.f k x517000 x517001 x27).bind fun bt539=>(if x32 = true then (if x34 = true then (if bt539.2 = true then ((laws_vSensors.f k bt539.1 x26).bind fun t543=>(if t543 = true then (laws_FnSensors.j3 k x4 x5 x6 x9 x13 x17 x476000 x476001) else (some false))) else (some false)) else (some false)) else (some false)))
end
def laws_FnSensors.f (k : Nat) (l0 : List Int) : Option (Bool):=(laws_vBig.f l0).bind fun t469=>(if t469 = true then (some true) else ((spec_DrawSeenBy.f k l0).bind fun bt470=>((impl_SeenBy.f k bt470.1 bt470.2.1 bt470.2.2).bind fun bt476=>((spec_SeenBy.f k bt470.1 bt470.2.1 bt470.2.2).bind fun bt480=>((impl_UnseenRuns.f k bt470.1 bt470.2.1 bt470.2.2).bind fun bt484=>((spec_UnseenRuns.f k bt470.1 bt470.2.1 bt470.2.2).bind fun bt488=>((impl_StrengthOf.f k bt470.1 bt470.2.1 bt470.2.2).bind fun bt492=>((spec_StrengthOf.f k bt470.1 bt470.2.1 bt470.2.2).bind fun bt494=>((impl_SpareSensors.f k bt470.1 bt470.2.1 bt470.2.2).bind fun bt496=>((spec_SpareSensors.f k bt470.1 bt470.2.1 bt470.2.2).bind fun bt500=>((impl_AreSensors.f k bt470.1 bt470.2.1 bt470.2.2).bind fun bt504=>((spec_AreSensors.f k bt470.1 bt470.2.1 bt470.2.2).bind fun bt506=>((laws_vCut.f l0 1).bind fun t508=>((spec_DrawMirrorSensors.f k t508).bind fun bt511=>((impl_MirrorSensors.f k bt511.1 bt511.2.1 bt511.2.2).bind fun bt517=>((spec_MirrorSensors.f k bt511.1 bt511.2.1 bt511.2.2).bind fun bt521=>(if (bt476.2 != bt480.2) = true then (laws_FnSensors.j0 k bt470.2.2 bt476.1 bt476.2 bt484.1 bt492.1 bt496.1 bt511.2.2 bt517.1 bt517.2 true bt470.1 bt470.2.1 bt511.1 bt511.2.1) else ((laws_vInts.f k bt476.1 bt480.1).bind fun t525=>(if t525 = true then (if (bt484.2 != bt488.2) = true then (laws_FnSensors.j0 k bt470.2.2 bt476.1 bt476.2 bt484.1 bt492.1 bt496.1 bt511.2.2 bt517.1 bt517.2 true bt470.1 bt470.2.1 bt511.1 bt511.2.1) else ((laws_vPairs.f k bt484.1 bt488.1).bind fun t526=>(if t526 = true then (if bt492.1 = bt494.1 then (if (bt492.2 != bt494.2) = true then (laws_FnSensors.j0 k bt470.2.2 bt476.1 bt476.2 bt484.1 bt492.1 bt496.1 bt511.2.2 bt517.1 bt517.2 true bt470.1 bt470.2.1 bt511.1 bt511.2.1) else (if (bt496.2 != bt500.2) = true then (laws_FnSensors.j0 k bt470.2.2 bt476.1 bt476.2 bt484.1 bt492.1 bt496.1 bt511.2.2 bt517.1 bt517.2 true bt470.1 bt470.2.1 bt511.1 bt511.2.1) else ((laws_vInts.f k bt496.1 bt500.1).bind fun t527=>(if t527 = true then (if (bt504.1 != bt506.1) = true then (laws_FnSensors.j0 k bt470.2.2 bt476.1 bt476.2 bt484.1 bt492.1 bt496.1 bt511.2.2 bt517.1 bt517.2 true bt470.1 bt470.2.1 bt511.1 bt511.2.1) else (if (bt504.2 != bt506.2) = true then (laws_FnSensors.j0 k bt470.2.2 bt476.1 bt476.2 bt484.1 bt492.1 bt496.1 bt511.2.2 bt517.1 bt517.2 true bt470.1 bt470.2.1 bt511.1 bt511.2.1) else (if (bt517.2 != bt521.2) = true then (laws_FnSensors.j0 k bt470.2.2 bt476.1 bt476.2 bt484.1 bt492.1 bt496.1 bt511.2.2 bt517.1 bt517.2 true bt470.1 bt470.2.1 bt511.1 bt511.2.1) else ((laws_vSensors.f k bt517.1 bt521.1).bind fun t528=>(if t528 = true then (if bt504.2 = true then (laws_FnSensors.j0 k bt470.2.2 bt476.1 bt476.2 bt484.1 bt492.1 bt496.1 bt511.2.2 bt517.1 bt517.2 (bt476.2 != bt504.1) bt470.1 bt470.2.1 bt511.1 bt511.2.1) else (laws_FnSensors.j0 k bt470.2.2 bt476.1 bt476.2 bt484.1 bt492.1 bt496.1 bt511.2.2 bt517.1 bt517.2 (bt476.2 != false) bt470.1 bt470.2.1 bt511.1 bt511.2.1)) else (laws_FnSensors.j0 k bt470.2.2 bt476.1 bt476.2 bt484.1 bt492.1 bt496.1 bt511.2.2 bt517.1 bt517.2 true bt470.1 bt470.2.1 bt511.1 bt511.2.1)))))) else (laws_FnSensors.j0 k bt470.2.2 bt476.1 bt476.2 bt484.1 bt492.1 bt496.1 bt511.2.2 bt517.1 bt517.2 true bt470.1 bt470.2.1 bt511.1 bt511.2.1))))) else (laws_FnSensors.j0 k bt470.2.2 bt476.1 bt476.2 bt484.1 bt492.1 bt496.1 bt511.2.2 bt517.1 bt517.2 true bt470.1 bt470.2.1 bt511.1 bt511.2.1)) else (laws_FnSensors.j0 k bt470.2.2 bt476.1 bt476.2 bt484.1 bt492.1 bt496.1 bt511.2.2 bt517.1 bt517.2 true bt470.1 bt470.2.1 bt511.1 bt511.2.1)))) else (laws_FnSensors.j0 k bt470.2.2 bt476.1 bt476.2 bt484.1 bt492.1 bt496.1 bt511.2.2 bt517.1 bt517.2 true bt470.1 bt470.2.1 bt511.1 bt511.2.1))))))))))))))))))))
theorem laws_FnSensors.mono_l : ∀ k,(∀ y0 y1 y2 y3 y4 y5 y6 y7 y8 y9 y10 y11 y12 y13,LeO (laws_FnSensors.j0 k y0 y1 y2 y3 y4 y5 y6 y7 y8 y9 y10 y11 y12 y13) (laws_FnSensors.j0 (k + 1) y0 y1 y2 y3 y4 y5 y6 y7 y8 y9 y10 y11 y12 y13)) ∧ (∀ y0 y1 y2 y3 y4 y5 y6 y7,LeO (laws_FnSensors.j3 k y0 y1 y2 y3 y4 y5 y6 y7) (laws_FnSensors.j3 (k + 1) y0 y1 y2 y3 y4 y5 y6 y7)) ∧ (∀ y0 y1 y2 y3 y4 y5 y6 y7 y8 y9 y10,LeO (laws_FnSensors.l1 k y0 y1 y2 y3 y4 y5 y6 y7 y8 y9 y10) (laws_FnSensors.l1 (k + 1) y0 y1 y2 y3 y4 y5 y6 y7 y8 y9 y10)) ∧ (∀ y0 y1 y2 y3 y4 y5 y6 y7 y8 y9 y10,LeO (laws_FnSensors.l2 k y0 y1 y2 y3 y4 y5 y6 y7 y8 y9 y10) (laws_FnSensors.l2 (k + 1) y0 y1 y2 y3 y4 y5 y6 y7 y8 y9 y10)) ∧ (∀ y0 y1 y2 y3 y4 y5 y6 y7 y8 y9 y10 y11,LeO (laws_FnSensors.l3 k y0 y1 y2 y3 y4 y5 y6 y7 y8 y9 y10 y11) (laws_FnSensors.l3 (k + 1) y0 y1 y2 y3 y4 y5 y6 y7 y8 y9 y10 y11)) ∧ (∀ y0 y1 y2 y3 y4 y5,LeO (laws_FnSensors.j7 k y0 y1 y2 y3 y4 y5) (laws_FnSensors.j7 (k + 1) y0 y1 y2 y3 y4 y5)) ∧ (∀ y0 y1 y2 y3 y4 y5,LeO (laws_FnSensors.l4 k y0 y1 y2 y3 y4 y5) (laws_FnSensors.l4 (k + 1) y0 y1 y2 y3 y4 y5)) ∧ (∀ y0 y1 y2 y3 y4 y5 y6 y7 y8 y9 y10 y11 y12 y13 y14 y15 y16,LeO (laws_FnSensors.l0 k y0 y1 y2 y3 y4 y5 y6 y7 y8 y9 y10 y11 y12 y13 y14 y15 y16) (laws_FnSensors.l0 (k + 1) y0 y1 y2 y3 y4 y5 y6 y7 y8 y9 y10 y11 y12 y13 y14 y15 y16)) ∧ (∀ y0 y1 y2 y3 y4 y5 y6 y7 y8 y9 y10 y11 y12 y13 y14 y15 y16 y17,LeO (laws_FnSensors.j2 k y0 y1 y2 y3 y4 y5 y6 y7 y8 y9 y10 y11 y12 y13 y14 y15 y16 y17) (laws_FnSensors.j2 (k + 1) y0 y1 y2 y3 y4 y5 y6 y7 y8 y9 y10 y11 y12 y13 y14 y15 y16 y17))
 | 0=>by
  refine ⟨?_,?_,?_,?_,?_,?_,?_,?_,?_⟩<;>(intros;intro r h;simp [laws_FnSensors.j0,laws_FnSensors.j3,laws_FnSensors.l1,laws_FnSensors.l2,laws_FnSensors.l3,laws_FnSensors.j7,laws_FnSensors.l4,laws_FnSensors.l0,laws_FnSensors.j2] at h)
 | k + 1=>by
  obtain ⟨ih0,ih1,ih2,ih3,ih4,ih5,ih6,ih7,ih8⟩:=laws_FnSensors.mono_l k
  refine ⟨?_,?_,?_,?_,?_,?_,?_,?_,?_⟩<;>intros<;>(first|unfold laws_FnSensors.j0 | unfold laws_FnSensors.j3 | unfold laws_FnSensors.l1 | unfold laws_FnSensors.l2 | unfold laws_FnSensors.l3 | unfold laws_FnSensors.j7 | unfold laws_FnSensors.l4 | unfold laws_FnSensors.l0 | unfold laws_FnSensors.j2)<;>(repeat' first|(with_reducible exact ih0 ..)|(with_reducible exact ih1 ..)|(with_reducible exact ih2 ..)|(with_reducible exact ih3 ..)|(with_reducible exact ih4 ..)|(with_reducible exact ih5 ..)|(with_reducible exact ih6 ..)|(with_reducible exact ih7 ..)|(with_reducible exact ih8 ..)|(with_reducible exact impl_AreSensors.mono _ _ _ _)|(with_reducible exact impl_MirrorSensors.mono _ _ _ _)|(with_reducible exact impl_SeenBy.mono _ _ _ _)|(with_reducible exact impl_SpareSensors.mono _ _ _ _)|(with_reducible exact impl_StrengthOf.mono _ _ _ _)|(with_reducible exact impl_UnseenRuns.mono _ _ _ _)|(with_reducible exact laws_vHas.mono _ _ _)|(with_reducible exact laws_vInts.mono _ _ _)|(with_reducible exact laws_vPairs.mono _ _ _)|(with_reducible exact laws_vSensors.mono _ _ _)|(with_reducible exact spec_AreSensors.mono _ _ _ _)|(with_reducible exact spec_DrawMirrorSensors.mono _ _)|(with_reducible exact spec_DrawSeenBy.mono _ _)|(with_reducible exact spec_MirrorSensors.mono _ _ _ _)|(with_reducible exact spec_SeenBy.mono _ _ _ _)|(with_reducible exact spec_SpareSensors.mono _ _ _ _)|(with_reducible exact spec_StrengthOf.mono _ _ _ _)|(with_reducible exact spec_UnseenRuns.mono _ _ _ _)|(with_reducible exact LeO.refl _)|(with_reducible exact LeO.none _)|(with_reducible refine LeO.ite ?_ ?_)|(with_reducible refine LeO.bind ?_ (fun _=>?_))|exact ih0 ..|exact ih1 ..|exact ih2 ..|exact ih3 ..|exact ih4 ..|exact ih5 ..|exact ih6 ..|exact ih7 ..|exact ih8 ..|exact impl_AreSensors.mono _ _ _ _|exact impl_MirrorSensors.mono _ _ _ _|exact impl_SeenBy.mono _ _ _ _|exact impl_SpareSensors.mono _ _ _ _|exact impl_StrengthOf.mono _ _ _ _|exact impl_UnseenRuns.mono _ _ _ _|exact laws_vHas.mono _ _ _|exact laws_vInts.mono _ _ _|exact laws_vPairs.mono _ _ _|exact laws_vSensors.mono _ _ _|exact spec_AreSensors.mono _ _ _ _|exact spec_DrawMirrorSensors.mono _ _|exact spec_DrawSeenBy.mono _ _|exact spec_MirrorSensors.mono _ _ _ _|exact spec_SeenBy.mono _ _ _ _|exact spec_SpareSensors.mono _ _ _ _|exact spec_StrengthOf.mono _ _ _ _|exact spec_UnseenRuns.mono _ _ _ _|exact LeO.none _|refine LeO.ite ?_ ?_|refine LeO.bind ?_ (fun _=>?_))
theorem laws_FnSensors.mono : ∀ a0 k,LeO (laws_FnSensors.f k a0) (laws_FnSensors.f (k + 1) a0):=by
 intro a0 k
 obtain ⟨ih0,ih1,ih2,ih3,ih4,ih5,ih6,ih7,ih8⟩:=laws_FnSensors.mono_l k
 unfold laws_FnSensors.f
 repeat' first
   | (with_reducible exact ih0 _ _ _ _ _ _ _ _ _ _ _ _ _ _)
   | (with_reducible exact ih1 _ _ _ _ _ _ _ _)
   | (with_reducible exact ih2 _ _ _ _ _ _ _ _ _ _ _)
   | (with_reducible exact ih3 _ _ _ _ _ _ _ _ _ _ _)
   | (with_reducible exact ih4 _ _ _ _ _ _ _ _ _ _ _ _)
   | (with_reducible exact ih5 _ _ _ _ _ _)
   | (with_reducible exact ih6 _ _ _ _ _ _)
   | (with_reducible exact ih7 _ _ _ _ _ _ _ _ _ _ _ _ _ _ _ _ _)
   | (with_reducible exact ih8 _ _ _ _ _ _ _ _ _ _ _ _ _ _ _ _ _ _)
   | (with_reducible exact impl_AreSensors.mono _ _ _ _)
   | (with_reducible exact impl_MirrorSensors.mono _ _ _ _)
   | (with_reducible exact impl_SeenBy.mono _ _ _ _)
   | (with_reducible exact impl_SpareSensors.mono _ _ _ _)
   | (with_reducible exact impl_StrengthOf.mono _ _ _ _)
   | (with_reducible exact impl_UnseenRuns.mono _ _ _ _)
   | (with_reducible exact laws_vHas.mono _ _ _)
   | (with_reducible exact laws_vInts.mono _ _ _)
   | (with_reducible exact laws_vPairs.mono _ _ _)
   | (with_reducible exact laws_vSensors.mono _ _ _)
   | (with_reducible exact spec_AreSensors.mono _ _ _ _)
   | (with_reducible exact spec_DrawMirrorSensors.mono _ _)
   | (with_reducible exact spec_DrawSeenBy.mono _ _)
   | (with_reducible exact spec_MirrorSensors.mono _ _ _ _)
   | (with_reducible exact spec_SeenBy.mono _ _ _ _)
   | (with_reducible exact spec_SpareSensors.mono _ _ _ _)
   | (with_reducible exact spec_StrengthOf.mono _ _ _ _)
   | (with_reducible exact spec_UnseenRuns.mono _ _ _ _)
   | (with_reducible exact LeO.refl _)
   | (with_reducible exact LeO.none _)
   | (with_reducible refine LeO.ite ?_ ?_)
   | (with_reducible refine LeO.bind ?_ (fun _=>?_))
   | exact ih0 _ _ _ _ _ _ _ _ _ _ _ _ _ _
   | exact ih1 _ _ _ _ _ _ _ _
   | exact ih2 _ _ _ _ _ _ _ _ _ _ _
   | exact ih3 _ _ _ _ _ _ _ _ _ _ _
   | exact ih4 _ _ _ _ _ _ _ _ _ _ _ _
   | exact ih5 _ _ _ _ _ _
   | exact ih6 _ _ _ _ _ _
   | exact ih7 _ _ _ _ _ _ _ _ _ _ _ _ _ _ _ _ _
   | exact ih8 _ _ _ _ _ _ _ _ _ _ _ _ _ _ _ _ _ _
   | exact impl_AreSensors.mono _ _ _ _
   | exact impl_MirrorSensors.mono _ _ _ _
   | exact impl_SeenBy.mono _ _ _ _
   | exact impl_SpareSensors.mono _ _ _ _
   | exact impl_StrengthOf.mono _ _ _ _
   | exact impl_UnseenRuns.mono _ _ _ _
   | exact laws_vHas.mono _ _ _
   | exact laws_vInts.mono _ _ _
   | exact laws_vPairs.mono _ _ _
   | exact laws_vSensors.mono _ _ _
   | exact spec_AreSensors.mono _ _ _ _
   | exact spec_DrawMirrorSensors.mono _ _
   | exact spec_DrawSeenBy.mono _ _
   | exact spec_MirrorSensors.mono _ _ _ _
   | exact spec_SeenBy.mono _ _ _ _
   | exact spec_SpareSensors.mono _ _ _ _
   | exact spec_StrengthOf.mono _ _ _ _
   | exact spec_UnseenRuns.mono _ _ _ _
   | exact LeO.none _
   | refine LeO.ite ?_ ?_
   | refine LeO.bind ?_ (fun _=>?_)
def laws_FnSensors.T25 : Bool × List (List Nat × List Nat):=(true,[([],[]),([],[]),([0,1],[0,1]),([2],[2]),([],[]),([],[]),([5],[5]),([6],[6]),([],[]),([7,8],[7,8]),([4,9],[4,9]),([10],[10]),([3,11],[3,11])])
def laws_FnSensors.B25 : List Nat:=[0,0,3,7,0,0,32,96,0,480,1008,2032,4095]
theorem laws_FnSensors.tab25 : rtab .any (opsOf Try.f9 25) = laws_FnSensors.T25:=by kernel_rfl
theorem laws_FnSensors.bits25 : waitsOk laws_FnSensors.T25.2 laws_FnSensors.B25 = true:=by kernel_rfl
def laws_FnSensors.T54 : Bool × List (List Nat × List Nat):=(true,[([],[]),([],[]),([],[]),([1,2],[1,2]),([0,3],[0,3]),([],[]),([],[]),([6],[6]),([5,7],[5,7]),([4,8,4],[4,8]),([9,9,0,1,2,3,4,5,6,7,8,9],[9])])
def laws_FnSensors.B54 : List Nat:=[0,0,0,6,15,0,0,64,224,511,1023]
theorem laws_FnSensors.tab54 : rtab .any (opsOf Try.f9 54) = laws_FnSensors.T54:=by kernel_rfl
theorem laws_FnSensors.bits54 : waitsOk laws_FnSensors.T54.2 laws_FnSensors.B54 = true:=by kernel_rfl
/-- A part of a function's code: the ways to the left and to the right from its begin. -/
def follow : List Bool → Code → Code
 | false :: p, .seq a _ => follow p a
 | true :: p, .seq _ b => follow p b
 | _, c => c

end
end Go.Proofs.Ytknfhoghimnieaa.QFnSensors
