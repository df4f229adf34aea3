/- Functions that the law FnWires comes to, and their walks: no condition but those named. -/
import Derived.Test.YtciihopkgblpkaaSr
import Derived.Test.YtciihopkgblpkaaQFnWiresx0
import Derived.Test.YtciihopkgblpkaaQFnWiresx1
import Derived.Test.YtciihopkgblpkaaQFnWiresx3
import Derived.Test.YtciihopkgblpkaaQFnWiresx4
import Derived.Test.YtciihopkgblpkaaQFnWiresx5
import Derived.Test.YtciihopkgblpkaaQFnWiresx6
import Derived.Test.YtciihopkgblpkaaQFnWiresx7
import Derived.Test.YtciihopkgblpkaaQFnWiresx9
import Derived.Test.YtciihopkgblpkaaQFnWiresx10
import Derived.Test.YtciihopkgblpkaaQFnWiresx11
import Derived.Test.YtciihopkgblpkaaQFnWiresx14
namespace Go.Proofs.Ytciihopkgblpkaa.QFnWires
open Go.RowKit Go.Proofs.YtciihopkgblpkaaW.PrintWords Go.Proofs.YtciihopkgblpkaaW.PrintLast Go.Proofs.YtciihopkgblpkaaW.PrintMore Go.Proofs.Ytciihopkgblpkaa.Short
attribute [local go_sem] max2_int min2_int max_two min_two max_three min_three max_four min_four
set_option linter.unusedVariables false
set_option linter.unusedSimpArgs false

section
open Kd
/-! ### laws_FnWires: function 10 -/
mutual
def laws_FnWires.j0 : Nat → List Int → List Int → List Int → Bool → Bool → Int → List Int → List Int → Option (Bool)
 | 0,_,_,_,_,_,_,_,_=>none
 | k + 1,x0,x4,x5,x6,x83,x528000,x528001,x528002=>if x83 = true then (some false) else ((impl_ShadeTimes.f k x528000 x528001 x528002).bind fun bt545=>((spec_ShadeTimes.f k x528000 x528001 x528002).bind fun bt549=>(if (bt545.2 != bt549.2) = true then (laws_FnWires.j1 k x0 x4 x5 x6 bt545.1 true x528000 x528001 x528002) else (if (bt545.2 != x6) = true then (laws_FnWires.j1 k x0 x4 x5 x6 bt545.1 true x528000 x528001 x528002) else ((laws_rInts.f k bt545.1 bt549.1).bind fun t553=>(laws_FnWires.j1 k x0 x4 x5 x6 bt545.1 (!t553) x528000 x528001 x528002))))))
def laws_FnWires.j1 : Nat → List Int → List Int → List Int → Bool → List Int → Bool → Int → List Int → List Int → Option (Bool)
 | 0,_,_,_,_,_,_,_,_,_=>none
 | k + 1,x0,x4,x5,x6,x10,x107,x528000,x528001,x528002=>if x107 = true then (some false) else ((impl_LastFall.f k x528000 x528001 x528002).bind fun bt554=>((spec_LastFall.f k x528000 x528001 x528002).bind fun bt556=>(if bt554.1 = bt556.1 then (if (bt554.2 != bt556.2) = true then (laws_FnWires.j2 k x0 x4 x5 x6 x10 bt554.1 true x528000 x528001 x528002) else (laws_FnWires.j2 k x0 x4 x5 x6 x10 bt554.1 (bt554.2 != x6) x528000 x528001 x528002)) else (laws_FnWires.j2 k x0 x4 x5 x6 x10 bt554.1 true x528000 x528001 x528002))))
def laws_FnWires.j2 : Nat → List Int → List Int → List Int → Bool → List Int → Int → Bool → Int → List Int → List Int → Option (Bool)
 | 0,_,_,_,_,_,_,_,_,_,_=>none
 | k + 1,x0,x4,x5,x6,x10,x14,x130,x528000,x528001,x528002=>if x130 = true then (some false) else ((impl_CountMeets.f k x528000 x528001 x528002).bind fun bt558=>((spec_CountMeets.f k x528000 x528001 x528002).bind fun bt560=>(if bt558.1 = bt560.1 then (if (bt558.2 != bt560.2) = true then (laws_FnWires.j3 k x0 x4 x5 x6 x10 x14 bt558.1 true x528000 x528001 x528002) else (laws_FnWires.j3 k x0 x4 x5 x6 x10 x14 bt558.1 (bt558.2 != x6) x528000 x528001 x528002)) else (laws_FnWires.j3 k x0 x4 x5 x6 x10 x14 bt558.1 true x528000 x528001 x528002))))
def laws_FnWires.j3 : Nat → List Int → List Int → List Int → Bool → List Int → Int → Int → Bool → Int → List Int → List Int → Option (Bool)
 | 0,_,_,_,_,_,_,_,_,_,_,_=>none
 | k + 1,x0,x4,x5,x6,x10,x14,x18,x153,x528000,x528001,x528002=>if x153 = true then (some false) else ((impl_MirrorWire.f k x528000 x528001 x528002).bind fun bt562=>((spec_MirrorWire.f k x528000 x528001 x528002).bind fun bt571=>(if (bt562.2.2.2 != bt571.2.2.2) = true then (laws_FnWires.j4 k x0 x4 x5 x6 x10 x14 x18 true x528000 x528001 x528002 bt562.1 bt562.2.1 bt562.2.2.1) else (if (bt562.2.2.2 != x6) = true then (laws_FnWires.j4 k x0 x4 x5 x6 x10 x14 x18 true x528000 x528001 x528002 bt562.1 bt562.2.1 bt562.2.2.1) else ((laws_rWire.f k bt562.1 bt562.2.1 bt562.2.2.1 bt571.1 bt571.2.1 bt571.2.2.1).bind fun t580=>(laws_FnWires.j4 k x0 x4 x5 x6 x10 x14 x18 (!t580) x528000 x528001 x528002 bt562.1 bt562.2.1 bt562.2.2.1))))))
def laws_FnWires.j4 : Nat → List Int → List Int → List Int → Bool → List Int → Int → Int → Bool → Int → List Int → List Int → Int → List Int → List Int → Option (Bool)
 | 0,_,_,_,_,_,_,_,_,_,_,_,_,_,_=>none
 | k + 1,x0,x4,x5,x6,x10,x14,x18,x177,x528000,x528001,x528002,x571000,x571001,x571002=>if x177 = true then (some false) else ((spec_DrawBeadsAt.f k x0).bind fun bt581=>((impl_BeadsAt.f k bt581.1 bt581.2.1 bt581.2.2.1 bt581.2.2.2).bind fun bt590=>((spec_BeadsAt.f k bt581.1 bt581.2.1 bt581.2.2.1 bt581.2.2.2).bind fun bt597=>(if (bt590.2.2 != bt597.2.2) = true then (laws_FnWires.j5 k x4 x5 x6 x10 x14 x18 bt581.2.2.2 bt590.1 bt590.2.1 bt590.2.2 true x528000 x528001 x528002 x571000 x571001 x571002 bt581.1 bt581.2.1 bt581.2.2.1) else ((laws_rInts.f k bt590.1 bt597.1).bind fun t604=>(if t604 = true then ((laws_rInts.f k bt590.2.1 bt597.2.1).bind fun t605=>(laws_FnWires.j5 k x4 x5 x6 x10 x14 x18 bt581.2.2.2 bt590.1 bt590.2.1 bt590.2.2 (!t605) x528000 x528001 x528002 x571000 x571001 x571002 bt581.1 bt581.2.1 bt581.2.2.1)) else (laws_FnWires.j5 k x4 x5 x6 x10 x14 x18 bt581.2.2.2 bt590.1 bt590.2.1 bt590.2.2 true x528000 x528001 x528002 x571000 x571001 x571002 bt581.1 bt581.2.1 bt581.2.2.1)))))))
def laws_FnWires.j5 : Nat → List Int → List Int → Bool → List Int → Int → Int → Int → List Int → List Int → Bool → Bool → Int → List Int → List Int → Int → List Int → List Int → Int → List Int → List Int → Option (Bool)
 | 0,_,_,_,_,_,_,_,_,_,_,_,_,_,_,_,_,_,_,_,_=>none
 | k + 1,x4,x5,x6,x10,x14,x18,x27,x28,x29,x30,x211,x528000,x528001,x528002,x571000,x571001,x571002,x590000,x590001,x590002=>if x211 = true then (some false) else (if x30 = true then ((impl_FallsOf.f k x590000 x590001 x590002).bind fun bt606=>(if bt606.2.2 = true then (laws_FnWires.j6 k x4 x5 x6 x10 x14 x18 x27 x28 x29 bt606.1 ((x28.length : Int) != (x29.length : Int)) x528000 x528001 x528002 x571000 x571001 x571002 x590000 x590001 x590002) else (laws_FnWires.j6 k x4 x5 x6 x10 x14 x18 x27 x28 x29 bt606.1 true x528000 x528001 x528002 x571000 x571001 x571002 x590000 x590001 x590002))) else (laws_FnWires.j8 k x4 x5 x6 x10 x14 x18 x528000 x528001 x528002 x571000 x571001 x571002))
def laws_FnWires.j8 : Nat → List Int → List Int → Bool → List Int → Int → Int → Int → List Int → List Int → Int → List Int → List Int → Option (Bool)
 | 0,_,_,_,_,_,_,_,_,_,_,_,_=>none
 | k + 1,x4,x5,x6,x10,x14,x18,x528000,x528001,x528002,x571000,x571001,x571002=>if x6 = true then (laws_FnWires.l1 k x4 x5 x10 x14 x18 0 0 0 x528000 x528001 x528002 x571000 x571001 x571002) else (some true)
def laws_FnWires.l1 : Nat → List Int → List Int → List Int → Int → Int → Int → Int → Int → Int → List Int → List Int → Int → List Int → List Int → Option (Bool)
 | 0,_,_,_,_,_,_,_,_,_,_,_,_,_,_=>none
 | k + 1,x4,x5,x10,x14,x18,x38,x39,x40,x528000,x528001,x528002,x571000,x571001,x571002=>if x40 < (x4.length : Int) then (if x40 > 0 then (if 0 ≤ x40 then (if x40 < (x5.length : Int) then (if 0 ≤ (wrap64 (x40 - 1)) then (if (wrap64 (x40 - 1)) < (x5.length : Int) then (laws_FnWires.j10 k x4 x5 x10 x14 x18 x38 x39 x40 (decide ((rd x5 x40) < (rd x5 (wrap64 (x40 - 1))))) x528000 x528001 x528002 x571000 x571001 x571002) else (none)) else (none)) else (none)) else (none)) else (laws_FnWires.j10 k x4 x5 x10 x14 x18 x38 x39 x40 false x528000 x528001 x528002 x571000 x571001 x571002)) else (laws_FnWires.l2 k x4 x10 x14 x18 x38 x39 0 0 x528000 x528001 x528002 x571000 x571001 x571002)
def laws_FnWires.j10 : Nat → List Int → List Int → List Int → Int → Int → Int → Int → Int → Bool → Int → List Int → List Int → Int → List Int → List Int → Option (Bool)
 | 0,_,_,_,_,_,_,_,_,_,_,_,_,_,_,_=>none
 | k + 1,x4,x5,x10,x14,x18,x38,x39,x40,x308,x528000,x528001,x528002,x571000,x571001,x571002=>if x308 = true then (some false) else (if 0 ≤ x40 then (if x40 < (x5.length : Int) then (if (rd x5 x40) = (-1) then (if x40 < (x4.length : Int) then (if (rd x4 x40) > x39 then (laws_FnWires.l1 k x4 x5 x10 x14 x18 (wrap64 (x38 + 1)) (rd x4 x40) (wrap64 (x40 + 1)) x528000 x528001 x528002 x571000 x571001 x571002) else (laws_FnWires.l1 k x4 x5 x10 x14 x18 (wrap64 (x38 + 1)) x39 (wrap64 (x40 + 1)) x528000 x528001 x528002 x571000 x571001 x571002)) else (none)) else (if x40 < (x4.length : Int) then (if (rd x4 x40) > x39 then (laws_FnWires.l1 k x4 x5 x10 x14 x18 x38 (rd x4 x40) (wrap64 (x40 + 1)) x528000 x528001 x528002 x571000 x571001 x571002) else (laws_FnWires.l1 k x4 x5 x10 x14 x18 x38 x39 (wrap64 (x40 + 1)) x528000 x528001 x528002 x571000 x571001 x571002)) else (none))) else (none)) else (none))
def laws_FnWires.l2 : Nat → List Int → List Int → Int → Int → Int → Int → Int → Int → Int → List Int → List Int → Int → List Int → List Int → Option (Bool)
 | 0,_,_,_,_,_,_,_,_,_,_,_,_,_,_=>none
 | k + 1,x4,x10,x14,x18,x38,x39,x41,x42,x528000,x528001,x528002,x571000,x571001,x571002=>if x42 < (x528002.length : Int) then (if 0 ≤ x42 then (if (rd x528002 x42) = (-1) then (laws_FnWires.l2 k x4 x10 x14 x18 x38 x39 (wrap64 (x41 + 1)) (wrap64 (x42 + 1)) x528000 x528001 x528002 x571000 x571001 x571002) else (laws_FnWires.l2 k x4 x10 x14 x18 x38 x39 x41 (wrap64 (x42 + 1)) x528000 x528001 x528002 x571000 x571001 x571002)) else (none)) else ((impl_CountMeets.f k x571000 x571001 x571002).bind fun bt631=>((impl_LastFall.f k x571000 x571001 x571002).bind fun bt633=>(if bt631.2 = true then (if bt633.2 = true then (if x38 = x41 then (if x39 = x14 then ((laws_rSum.f k x4).bind fun t635=>((laws_rSum.f k x10).bind fun t636=>(if t635 = t636 then (if bt631.1 = x18 then (some (bt633.1 == x14)) else (some false)) else (some false)))) else (some false)) else (some false)) else (some false)) else (some false))))
def laws_FnWires.j6 : Nat → List Int → List Int → Bool → List Int → Int → Int → Int → List Int → List Int → List Int → Bool → Int → List Int → List Int → Int → List Int → List Int → Int → List Int → List Int → Option (Bool)
 | 0,_,_,_,_,_,_,_,_,_,_,_,_,_,_,_,_,_,_,_,_=>none
 | k + 1,x4,x5,x6,x10,x14,x18,x27,x28,x29,x34,x227,x528000,x528001,x528002,x571000,x571001,x571002,x590000,x590001,x590002=>if x227 = true then (some false) else (laws_FnWires.l0 k x4 x5 x6 x10 x14 x18 x27 x28 x29 x34 0 x528000 x528001 x528002 x571000 x571001 x571002 x590000 x590001 x590002)
def laws_FnWires.l0 : Nat → List Int → List Int → Bool → List Int → Int → Int → Int → List Int → List Int → List Int → Int → Int → List Int → List Int → Int → List Int → List Int → Int → List Int → List Int → Option (Bool)
 | 0,_,_,_,_,_,_,_,_,_,_,_,_,_,_,_,_,_,_,_,_=>none
 | k + 1,x4,x5,x6,x10,x14,x18,x27,x28,x29,x34,x37,x528000,x528001,x528002,x571000,x571001,x571002,x590000,x590001,x590002=>if x37 < (x28.length : Int) then (if 0 ≤ x37 then (if 0 ≤ (rd x28 x37) then (if (rd x28 x37) < (x34.length : Int) then (if (rd x34 (rd x28 x37)) < x27 then (some false) else (if x37 > 0 then (if 0 ≤ (wrap64 (x37 - 1)) then (if (wrap64 (x37 - 1)) < (x28.length : Int) then (if (rd x28 x37) ≤ (rd x28 (wrap64 (x37 - 1))) then (some false) else (if x37 < (x29.length : Int) then (if (wrap64 (x37 - 1)) < (x29.length : Int) then (if (rd x29 x37) < (rd x29 (wrap64 (x37 - 1))) then (some false) else (if (rd x29 x37) < 0 then (some false) else (if (rd x29 x37) > x590000 then (some false) else (laws_FnWires.l0 k x4 x5 x6 x10 x14 x18 x27 x28 x29 x34 (wrap64 (x37 + 1)) x528000 x528001 x528002 x571000 x571001 x571002 x590000 x590001 x590002)))) else (none)) else (none))) else (none)) else (none)) else (if x37 < (x29.length : Int) then (if (rd x29 x37) < 0 then (some false) else (if (rd x29 x37) > x590000 then (some false) else (laws_FnWires.l0 k x4 x5 x6 x10 x14 x18 x27 x28 x29 x34 (wrap64 (x37 + 1)) x528000 x528001 x528002 x571000 x571001 x571002 x590000 x590001 x590002))) else (none)))) else (none)) else (none)) else (none)) else (laws_FnWires.j8 k x4 x5 x6 x10 x14 x18 x528000 x528001 x528002 x571000 x571001 x571002)
end
def laws_FnWires.f (k : Nat) (l0 : List Int) : Option (Bool):=(laws_rBig.f l0).bind fun t519=>(if t519 = true then (some true) else ((spec_DrawFallsOf.f k l0).bind fun bt520=>((impl_FallsOf.f k bt520.1 bt520.2.1 bt520.2.2).bind fun bt528=>((spec_FallsOf.f k bt520.1 bt520.2.1 bt520.2.2).bind fun bt535=>(if (bt528.2.2 != bt535.2.2) = true then (laws_FnWires.j0 k l0 bt528.1 bt528.2.1 bt528.2.2 true bt520.1 bt520.2.1 bt520.2.2) else ((impl_IsWire.f k bt520.1 bt520.2.1 bt520.2.2).bind fun t542=>(if (bt528.2.2 != t542) = true then (laws_FnWires.j0 k l0 bt528.1 bt528.2.1 bt528.2.2 true bt520.1 bt520.2.1 bt520.2.2) else ((laws_rInts.f k bt528.1 bt535.1).bind fun t543=>(if t543 = true then ((laws_rInts.f k bt528.2.1 bt535.2.1).bind fun t544=>(laws_FnWires.j0 k l0 bt528.1 bt528.2.1 bt528.2.2 (!t544) bt520.1 bt520.2.1 bt520.2.2)) else (laws_FnWires.j0 k l0 bt528.1 bt528.2.1 bt528.2.2 true bt520.1 bt520.2.1 bt520.2.2))))))))))
theorem laws_FnWires.mono_l : ∀ k,(∀ y0 y1 y2 y3 y4 y5 y6 y7,LeO (laws_FnWires.j0 k y0 y1 y2 y3 y4 y5 y6 y7) (laws_FnWires.j0 (k + 1) y0 y1 y2 y3 y4 y5 y6 y7)) ∧ (∀ y0 y1 y2 y3 y4 y5 y6 y7 y8,LeO (laws_FnWires.j1 k y0 y1 y2 y3 y4 y5 y6 y7 y8) (laws_FnWires.j1 (k + 1) y0 y1 y2 y3 y4 y5 y6 y7 y8)) ∧ (∀ y0 y1 y2 y3 y4 y5 y6 y7 y8 y9,LeO (laws_FnWires.j2 k y0 y1 y2 y3 y4 y5 y6 y7 y8 y9) (laws_FnWires.j2 (k + 1) y0 y1 y2 y3 y4 y5 y6 y7 y8 y9)) ∧ (∀ y0 y1 y2 y3 y4 y5 y6 y7 y8 y9 y10,LeO (laws_FnWires.j3 k y0 y1 y2 y3 y4 y5 y6 y7 y8 y9 y10) (laws_FnWires.j3 (k + 1) y0 y1 y2 y3 y4 y5 y6 y7 y8 y9 y10)) ∧ (∀ y0 y1 y2 y3 y4 y5 y6 y7 y8 y9 y10 y11 y12 y13,LeO (laws_FnWires.j4 k y0 y1 y2 y3 y4 y5 y6 y7 y8 y9 y10 y11 y12 y13) (laws_FnWires.j4 (k + 1) y0 y1 y2 y3 y4 y5 y6 y7 y8 y9 y10 y11 y12 y13)) ∧ (∀ y0 y1 y2 y3 y4 y5 y6 y7 y8 y9 y10 y11 y12 y13 y14 y15 y16 y17 y18 y19,LeO (laws_FnWires.j5 k y0 y1 y2 y3 y4 y5 y6 y7 y8 y9 y10 y11 y12 y13 y14 y15 y16 y17 y18 y19) (laws_FnWires.j5 (k + 1) y0 y1 y2 y3 y4 y5 y6 y7 y8 y9 y10 y11 y12 y13 y14 y15 y16 y17 y18 y19)) ∧ (∀ y0 y1 y2 y3 y4 y5 y6 y7 y8 y9 y10 y11,LeO (laws_FnWires.j8 k y0 y1 y2 y3 y4 y5 y6 y7 y8 y9 y10 y11) (laws_FnWires.j8 (k + 1) y0 y1 y2 y3 y4 y5 y6 y7 y8 y9 y10 y11)) ∧ (∀ y0 y1 y2 y3 y4 y5 y6 y7 y8 y9 y10 y11 y12 y13,LeO (laws_FnWires.l1 k y0 y1 y2 y3 y4 y5 y6 y7 y8 y9 y10 y11 y12 y13) (laws_FnWires.l1 (k + 1) y0 y1 y2 y3 y4 y5 y6 y7 y8 y9 y10 y11 y12 y13)) ∧ (∀ y0 y1 y2 y3 y4 y5 y6 y7 y8 y9 y10 y11 y12 y13 y14,LeO (laws_FnWires.j10 k y0 y1 y2 y3 y4 y5 y6 y7 y8 y9 y10 y11 y12 y13 y14) (laws_FnWires.j10 (k + 1) y0 y1 y2 y3 y4 y5 y6 y7 y8 y9 y10 y11 y12 y13 y14)) ∧ (∀ y0 y1 y2 y3 y4 y5 y6 y7 y8 y9 y10 y11 y12 y13,LeO (laws_FnWires.l2 k y0 y1 y2 y3 y4 y5 y6 y7 y8 y9 y10 y11 y12 y13) (laws_FnWires.l2 (k + 1) y0 y1 y2 y3 y4 y5 y6 y7 y8 y9 y10 y11 y12 y13)) ∧ (∀ y0 y1 y2 y3 y4 y5 y6 y7 y8 y9 y10 y11 y12 y13 y14 y15 y16 y17 y18 y19,LeO (laws_FnWires.j6 k y0 y1 y2 y3 y4 y5 y6 y7 y8 y9 y10 y11 y12 y13 y14 y15 y16 y17 y18 y19) (laws_FnWires.j6 (k + 1) y0 y1 y2 y3 y4 y5 y6 y7 y8 y9 y10 y11 y12 y13 y14 y15 y16 y17 y18 y19)) ∧ (∀ y0 y1 y2 y3 y4 y5 y6 y7 y8 y9 y10 y11 y12 y13 y14 y15 y16 y17 y18 y19,LeO (laws_FnWires.l0 k y0 y1 y2 y3 y4 y5 y6 y7 y8 y9 y10 y11 y12 y13 y14 y15 y16 y17 y18 y19) (laws_FnWires.l0 (k + 1) y0 y1 y2 y3 y4 y5 y6 y7 y8 y9 y10 y11 y12 y13 y14 y15 y16 y17 y18 y19))
 | 0=>by
  refine ⟨?_,?_,?_,?_,?_,?_,?_,?_,?_,?_,?_,?_⟩<;>(intros;intro r h;simp [laws_FnWires.j0,laws_FnWires.j1,laws_FnWires.j2,laws_FnWires.j3,laws_FnWires.j4,laws_FnWires.j5,laws_FnWires.j8,laws_FnWires.l1,laws_FnWires.j10,laws_FnWires.l2,laws_FnWires.j6,laws_FnWires.l0] at h)
 | k + 1=>by
  obtain ⟨ih0,ih1,ih2,ih3,ih4,ih5,ih6,ih7,ih8,ih9,ih10,ih11⟩:=laws_FnWires.mono_l k
  refine ⟨?_,?_,?_,?_,?_,?_,?_,?_,?_,?_,?_,?_⟩<;>intros<;>(first|unfold laws_FnWires.j0 | unfold laws_FnWires.j1 | unfold laws_FnWires.j2 | unfold laws_FnWires.j3 | unfold laws_FnWires.j4 | unfold laws_FnWires.j5 | unfold laws_FnWires.j8 | unfold laws_FnWires.l1 | unfold laws_FnWires.j10 | unfold laws_FnWires.l2 | unfold laws_FnWires.j6 | unfold laws_FnWires.l0)<;>(repeat' first|(with_reducible exact ih0 ..)|(with_reducible exact ih1 ..)|(with_reducible exact ih2 ..)|(with_reducible exact ih3 ..)|(with_reducible exact ih4 ..)|(with_reducible exact ih5 ..)|(with_reducible exact ih6 ..)|(with_reducible exact ih7 ..)|(with_reducible exact ih8 ..)|(with_reducible exact ih9 ..)|(with_reducible exact ih10 ..)|(with_reducible exact ih11 ..)|(with_reducible exact impl_BeadsAt.mono _ _ _ _ _)|(with_reducible exact impl_CountMeets.mono _ _ _ _)|(with_reducible exact impl_FallsOf.mono _ _ _ _)|(with_reducible exact impl_IsWire.mono _ _ _ _)|(with_reducible exact impl_LastFall.mono _ _ _ _)|(with_reducible exact impl_MirrorWire.mono _ _ _ _)|(with_reducible exact impl_ShadeTimes.mono _ _ _ _)|(with_reducible exact laws_rInts.mono _ _ _)|(with_reducible exact laws_rSum.mono _ _)|(with_reducible exact laws_rWire.mono _ _ _ _ _ _ _)|(with_reducible exact spec_BeadsAt.mono _ _ _ _ _)|(with_reducible exact spec_CountMeets.mono _ _ _ _)|(with_reducible exact spec_DrawBeadsAt.mono _ _)|(with_reducible exact spec_DrawFallsOf.mono _ _)|(with_reducible exact spec_FallsOf.mono _ _ _ _)|(with_reducible exact spec_LastFall.mono _ _ _ _)|(with_reducible exact spec_MirrorWire.mono _ _ _ _)|(with_reducible exact spec_ShadeTimes.mono _ _ _ _)|(with_reducible exact LeO.refl _)|(with_reducible exact LeO.none _)|(with_reducible refine LeO.ite ?_ ?_)|(with_reducible refine LeO.bind ?_ (fun _=>?_))|exact ih0 ..|exact ih1 ..|exact ih2 ..|exact ih3 ..|exact ih4 ..|exact ih5 ..|exact ih6 ..|exact ih7 ..|exact ih8 ..|exact ih9 ..|exact ih10 ..|exact ih11 ..|exact impl_BeadsAt.mono _ _ _ _ _|exact impl_CountMeets.mono _ _ _ _|exact impl_FallsOf.mono _ _ _ _|exact impl_IsWire.mono _ _ _ _|exact impl_LastFall.mono _ _ _ _|exact impl_MirrorWire.mono _ _ _ _|exact impl_ShadeTimes.mono _ _ _ _|exact laws_rInts.mono _ _ _|exact laws_rSum.mono _ _|exact laws_rWire.mono _ _ _ _ _ _ _|exact spec_BeadsAt.mono _ _ _ _ _|exact spec_CountMeets.mono _ _ _ _|exact spec_DrawBeadsAt.mono _ _|exact spec_DrawFallsOf.mono _ _|exact spec_FallsOf.mono _ _ _ _|exact spec_LastFall.mono _ _ _ _|exact spec_MirrorWire.mono _ _ _ _|exact spec_ShadeTimes.mono _ _ _ _|exact LeO.none _|refine LeO.ite ?_ ?_|refine LeO.bind ?_ (fun _=>?_))
theorem laws_FnWires.mono : ∀ a0 k,LeO (laws_FnWires.f k a0) (laws_FnWires.f (k + 1) a0):=by
 intro a0 k
 obtain ⟨ih0,ih1,ih2,ih3,ih4,ih5,ih6,ih7,ih8,ih9,ih10,ih11⟩:=laws_FnWires.mono_l k
 unfold laws_FnWires.f
 repeat' first
   | (with_reducible exact ih0 _ _ _ _ _ _ _ _)
   | (with_reducible exact ih1 _ _ _ _ _ _ _ _ _)
   | (with_reducible exact ih2 _ _ _ _ _ _ _ _ _ _)
   | (with_reducible exact ih3 _ _ _ _ _ _ _ _ _ _ _)
   | (with_reducible exact ih4 _ _ _ _ _ _ _ _ _ _ _ _ _ _)
   | (with_reducible exact ih5 _ _ _ _ _ _ _ _ _ _ _ _ _ _ _ _ _ _ _ _)
   | (with_reducible exact ih6 _ _ _ _ _ _ _ _ _ _ _ _)
   | (with_reducible exact ih7 _ _ _ _ _ _ _ _ _ _ _ _ _ _)
   | (with_reducible exact ih8 _ _ _ _ _ _ _ _ _ _ _ _ _ _ _)
   | (with_reducible exact ih9 _ _ _ _ _ _ _ _ _ _ _ _ _ _)
   | (with_reducible exact ih10 _ _ _ _ _ _ _ _ _ _ _ _ _ _ _ _ _ _ _ _)
   | (with_reducible exact ih11 _ _ _ _ _ _ _ _ _ _ _ _ _ _ _ _ _ _ _ _)
   | (with_reducible exact impl_BeadsAt.mono _ _ _ _ _)
   | (with_reducible exact impl_CountMeets.mono _ _ _ _)
   | (with_reducible exact impl_FallsOf.mono _ _ _ _)
   | (with_reducible exact impl_IsWire.mono _ _ _ _)
   | (with_reducible exact impl_LastFall.mono _ _ _ _)
   | (with_reducible exact impl_MirrorWire.mono _ _ _ _)
   | (with_reducible exact impl_ShadeTimes.mono _ _ _ _)
   | (with_reducible exact laws_rInts.mono _ _ _)
   | (with_reducible exact laws_rSum.mono _ _)
   | (with_reducible exact laws_rWire.mono _ _ _ _ _ _ _)
   | (with_reducible exact spec_BeadsAt.mono _ _ _ _ _)
   | (with_reducible exact spec_CountMeets.mono _ _ _ _)
   | (with_reducible exact spec_DrawBeadsAt.mono _ _)
   | (with_reducible exact spec_DrawFallsOf.mono _ _)
   | (with_reducible exact spec_FallsOf.mono _ _ _ _)
   | (with_reducible exact spec_LastFall.mono _ _ _ _)
   | (with_reducible exact spec_MirrorWire.mono _ _ _ _)
   | (with_reducible exact spec_ShadeTimes.mono _ _ _ _)
   | (with_reducible exact LeO.refl _)
   | (with_reducible exact LeO.none _)
   | (with_reducible refine LeO.ite ?_ ?_)
   | (with_reducible refine LeO.bind ?_ (fun _=>?_))
   | exact ih0 _ _ _ _ _ _ _ _
   | exact ih1 _ _ _ _ _ _ _ _ _
   | exact ih2 _ _ _ _ _ _ _ _ _ _
   | exact ih3 _ _ _ _ _ _ _ _ _ _ _
   | exact ih4 _ _ _ _ _ _ _ _ _ _ _ _ _ _
   | exact ih5 _ _ _ _ _ _ _ _ _ _ _ _ _ _ _ _ _ _ _ _
   | exact ih6 _ _ _ _ _ _ _ _ _ _ _ _
   | exact ih7 _ _ _ _ _ _ _ _ _ _ _ _ _ _
   | exact ih8 _ _ _ _ _ _ _ _ _ _ _ _ _ _ _
   | exact ih9 _ _ _ _ _ _ _ _ _ _ _ _ _ _
   | exact ih10 _ _ _ _ _ _ _ _ _ _ _ _ _ _ _ _ _ _ _ _
   | exact ih11 _ _ _ _ _ _ _ _ _ _ _ _ _ _ _ _ _ _ _ _
   | exact impl_BeadsAt.mono _ _ _ _ _
   | exact impl_CountMeets.mono _ _ _ _
   | exact impl_FallsOf.mono _ _ _ _
   | exact impl_IsWire.mono _ _ _ _
   | exact impl_LastFall.mono _ _ _ _
   | exact impl_MirrorWire.mono _ _ _ _
   | exact impl_ShadeTimes.mono _ _ _ _
   | exact laws_rInts.mono _ _ _
   | exact laws_rSum.mono _ _
   | exact laws_rWire.mono _ _ _ _ _ _ _
   | exact spec_BeadsAt.mono _ _ _ _ _
   | exact spec_CountMeets.mono _ _ _ _
   | exact spec_DrawBeadsAt.mono _ _
   | exact spec_DrawFallsOf.mono _ _
   | exact spec_FallsOf.mono _ _ _ _
   | exact spec_LastFall.mono _ _ _ _
   | exact spec_MirrorWire.mono _ _ _ _
   | exact spec_ShadeTimes.mono _ _ _ _
   | exact LeO.none _
   | refine LeO.ite ?_ ?_
   | refine LeO.bind ?_ (fun _=>?_)
/-- A part of a function's code: the ways to the left and to the right from its begin. -/
def follow : List Bool → Code → Code
 | false :: p, .seq a _ => follow p a
 | true :: p, .seq _ b => follow p b
 | _, c => c

/-- A row that may be less than it was told, by looking. -/
theorem rq {α : Type} {d : Kd α} {e base : Nat} {ok ok' : Nat → Prop} {W W' : World} {v : Value} {xs : List α} (h : Aside0 (d.R e W base ok v xs)) [m : Mov W W'] (k : ∀ k, ok k → ok' k := by first | exact fun _ _ => trivial | (intro k_ hk; (repeat' apply And.intro) <;> first | exact hk | simp only [hk] | simp [hk])) : Aside0 (d.R e W' base ok' v xs) := ⟨rm (Kd.R_mono h.out k)⟩

end
end Go.Proofs.Ytciihopkgblpkaa.QFnWires
