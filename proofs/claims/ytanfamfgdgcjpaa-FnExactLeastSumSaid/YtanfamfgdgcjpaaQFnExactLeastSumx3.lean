/- Functions that the law FnExactLeastSum comes to, as Lean functions, with the proof that the Go code does what they say: written by a program of this session over the kit's print. No condition but those named. -/
import Derived.Test.YtanfamfgdgcjpaaQFnExactLeastSumx0
import Derived.Test.YtanfamfgdgcjpaaQFnExactLeastSumx2
namespace Go.Proofs.Ytanfamfgdgcjpaa.QFnExactLeastSum
open Go.RowKit Go.Proofs.YtanfamfgdgcjpaaW.PrintWords Go.Proofs.YtanfamfgdgcjpaaW.PrintLast Go.Proofs.YtanfamfgdgcjpaaW.PrintMore
attribute [local go_sem] max2_int min2_int max_two min_two max_three min_three max_four min_four   -- for this text's walks alone
set_option linter.unusedVariables false
set_option linter.unusedSimpArgs false

/-! ### spec_l9Sum: function 59 -/
mutual
def spec_l9Sum.l0 : Nat → List (S58) → List (List Int) → Int → Int → Bool → Option (Int)
 | 0, _, _, _, _, _ => none
 | k + 1, x1, x5, x6, x135000, x135001 => if x6 < (shl .i64 1 (x1.length : Int)) then (if 0 ≤ (wrap64 (x135000 + 1)) then (if (wrap64 (x135000 + 1) : Int).toNat ≤ 35184372088832 then (spec_l9Sum.l1 k x1 x5 x6 (List.replicate (wrap64 (x135000 + 1) : Int).toNat 0) 0 x135000 x135001) else (none)) else (none)) else (if 0 < (x5.length : Int) then (if 0 < ((rd_L3 x5 0).length : Int) then (spec_l9Sum.l2 k x1 (x5.set (0 : Int).toNat ((rd_L3 x5 0).set (0 : Int).toNat 0)) (-1) 0 x135000 x135001) else (none)) else (none))
def spec_l9Sum.l1 : Nat → List (S58) → List (List Int) → Int → List Int → Int → Int → Bool → Option (Int)
 | 0, _, _, _, _, _, _, _ => none
 | k + 1, x1, x5, x6, x7, x8, x135000, x135001 => if x8 ≤ x135000 then (if 0 ≤ x8 then (if x8 < (x7.length : Int) then (spec_l9Sum.l1 k x1 x5 x6 (x7.set (x8 : Int).toNat (-1)) (wrap64 (x8 + 1)) x135000 x135001) else (none)) else (none)) else (if x5.length < 5864062014805 then (spec_l9Sum.l0 k x1 (x5 ++ [x7]) (wrap64 (x6 + 1)) x135000 x135001) else (none))
def spec_l9Sum.l2 : Nat → List (S58) → List (List Int) → Int → Int → Int → Bool → Option (Int)
 | 0, _, _, _, _, _, _ => none
 | k + 1, x1, x5, x9, x10, x135000, x135001 => if x10 < (x5.length : Int) then (spec_l9Sum.l3 k x1 x5 x9 x10 0 x135000 x135001) else (some x9)
def spec_l9Sum.l3 : Nat → List (S58) → List (List Int) → Int → Int → Int → Int → Bool → Option (Int)
 | 0, _, _, _, _, _, _, _ => none
 | k + 1, x1, x5, x9, x10, x11, x135000, x135001 => if x11 ≤ x135000 then (if 0 ≤ x10 then (if x10 < (x5.length : Int) then (if 0 ≤ x11 then (if x11 < ((rd_L3 x5 x10).length : Int) then (if (rd (rd_L3 x5 x10) x11) < 0 then (spec_l9Sum.l3 k x1 x5 x9 x10 (wrap64 (x11 + 1)) x135000 x135001) else (if x11 = x135000 then (if x9 < 0 then (spec_l9Sum.j4 k x1 x5 x9 x10 x11 (rd (rd_L3 x5 x10) x11) true x135000 x135001) else (spec_l9Sum.j4 k x1 x5 x9 x10 x11 (rd (rd_L3 x5 x10) x11) (decide ((rd (rd_L3 x5 x10) x11) < x9)) x135000 x135001)) else (spec_l9Sum.j4 k x1 x5 x9 x10 x11 (rd (rd_L3 x5 x10) x11) false x135000 x135001))) else (none)) else (none)) else (none)) else (none)) else (spec_l9Sum.l2 k x1 x5 x9 (wrap64 (x10 + 1)) x135000 x135001)
def spec_l9Sum.j4 : Nat → List (S58) → List (List Int) → Int → Int → Int → Int → Bool → Int → Bool → Option (Int)
 | 0, _, _, _, _, _, _, _, _, _ => none
 | k + 1, x1, x5, x9, x10, x11, x12, x80, x135000, x135001 => if x80 = true then (spec_l9Sum.j5 k x1 x5 x12 x10 x11 x12 x135000 x135001) else (spec_l9Sum.j5 k x1 x5 x9 x10 x11 x12 x135000 x135001)
def spec_l9Sum.j5 : Nat → List (S58) → List (List Int) → Int → Int → Int → Int → Int → Bool → Option (Int)
 | 0, _, _, _, _, _, _, _, _ => none
 | k + 1, x1, x5, x9, x10, x11, x12, x135000, x135001 => spec_l9Sum.l4 k x1 x5 x9 x10 x11 x12 0 x135000 x135001
def spec_l9Sum.l4 : Nat → List (S58) → List (List Int) → Int → Int → Int → Int → Int → Int → Bool → Option (Int)
 | 0, _, _, _, _, _, _, _, _, _ => none
 | k + 1, x1, x5, x9, x10, x11, x12, x13, x135000, x135001 => if x13 < (x1.length : Int) then (spec_l9Sum.j7 k x1 x5 x9 x10 x11 x12 x13 (decide (x11 < x135000)) x135000 x135001) else (spec_l9Sum.j7 k x1 x5 x9 x10 x11 x12 x13 false x135000 x135001)
def spec_l9Sum.j7 : Nat → List (S58) → List (List Int) → Int → Int → Int → Int → Int → Bool → Int → Bool → Option (Int)
 | 0, _, _, _, _, _, _, _, _, _, _ => none
 | k + 1, x1, x5, x9, x10, x11, x12, x13, x91, x135000, x135001 => if x91 = true then (if 0 ≤ x13 then (if (Go.bits .and .i64 (shr .i64 x10 x13) 1) = 1 then (spec_l9Sum.l4 k x1 x5 x9 x10 x11 x12 (wrap64 (x13 + 1)) x135000 x135001) else (if x13 < (x1.length : Int) then ((spec_l1Most.f 0 (wrap64 (x11 - ((rd_T58 x1 x13).f1)))).bind fun t152 => (spec_l9Sum.l5 k x1 x5 x9 x10 x11 x12 x13 t152 x135000 x135001)) else (none))) else (none)) else (spec_l9Sum.l3 k x1 x5 x9 x10 (wrap64 (x11 + 1)) x135000 x135001)
def spec_l9Sum.l5 : Nat → List (S58) → List (List Int) → Int → Int → Int → Int → Int → Int → Int → Bool → Option (Int)
 | 0, _, _, _, _, _, _, _, _, _, _ => none
 | k + 1, x1, x5, x9, x10, x11, x12, x13, x14, x135000, x135001 => if 0 ≤ x13 then (if x13 < (x1.length : Int) then ((spec_l1Least.f (wrap64 (x135000 - 1)) (wrap64 (x11 + ((rd_T58 x1 x13).f1)))).bind fun t154 => (if x14 ≤ t154 then ((spec_l1Least.f x135000 (wrap64 ((wrap64 (x14 + ((rd_T58 x1 x13).f1))) + 1))).bind fun t156 => ((spec_l2Gap.f x135000 x135001 ((rd_T58 x1 x13).f0) x14).bind fun t158 => (if 0 ≤ (wrap64 (x10 + (shl .i64 1 x13))) then (if (wrap64 (x10 + (shl .i64 1 x13))) < (x5.length : Int) then (if 0 ≤ t156 then (if t156 < ((rd_L3 x5 (wrap64 (x10 + (shl .i64 1 x13)))).length : Int) then (if (rd (rd_L3 x5 (wrap64 (x10 + (shl .i64 1 x13)))) t156) < 0 then (spec_l9Sum.l5 k x1 (x5.set ((wrap64 (x10 + (shl .i64 1 x13))) : Int).toNat ((rd_L3 x5 (wrap64 (x10 + (shl .i64 1 x13)))).set (t156 : Int).toNat (wrap64 (x12 + t158)))) x9 x10 x11 x12 x13 (wrap64 (x14 + 1)) x135000 x135001) else (if (wrap64 (x12 + t158)) < (rd (rd_L3 x5 (wrap64 (x10 + (shl .i64 1 x13)))) t156) then (spec_l9Sum.l5 k x1 (x5.set ((wrap64 (x10 + (shl .i64 1 x13))) : Int).toNat ((rd_L3 x5 (wrap64 (x10 + (shl .i64 1 x13)))).set (t156 : Int).toNat (wrap64 (x12 + t158)))) x9 x10 x11 x12 x13 (wrap64 (x14 + 1)) x135000 x135001) else (spec_l9Sum.l5 k x1 x5 x9 x10 x11 x12 x13 (wrap64 (x14 + 1)) x135000 x135001))) else (none)) else (none)) else (none)) else (none)))) else (spec_l9Sum.l4 k x1 x5 x9 x10 x11 x12 (wrap64 (x13 + 1)) x135000 x135001))) else (none)) else (none)
end
def spec_l9Sum.f (k : Nat) (a0_0 : Int) (a0_1 : Bool) (l1 : List (S58)) : Option (Int) := spec_l9Sum.l0 k l1 (([] : List (List Int))) 0 a0_0 a0_1
theorem spec_l9Sum.mono_l : ∀ k, (∀ y0 y1 y2 y3 y4, LeO (spec_l9Sum.l0 k y0 y1 y2 y3 y4) (spec_l9Sum.l0 (k + 1) y0 y1 y2 y3 y4)) ∧ (∀ y0 y1 y2 y3 y4 y5 y6, LeO (spec_l9Sum.l1 k y0 y1 y2 y3 y4 y5 y6) (spec_l9Sum.l1 (k + 1) y0 y1 y2 y3 y4 y5 y6)) ∧ (∀ y0 y1 y2 y3 y4 y5, LeO (spec_l9Sum.l2 k y0 y1 y2 y3 y4 y5) (spec_l9Sum.l2 (k + 1) y0 y1 y2 y3 y4 y5)) ∧ (∀ y0 y1 y2 y3 y4 y5 y6, LeO (spec_l9Sum.l3 k y0 y1 y2 y3 y4 y5 y6) (spec_l9Sum.l3 (k + 1) y0 y1 y2 y3 y4 y5 y6)) ∧ (∀ y0 y1 y2 y3 y4 y5 y6 y7 y8, LeO (spec_l9Sum.j4 k y0 y1 y2 y3 y4 y5 y6 y7 y8) (spec_l9Sum.j4 (k + 1) y0 y1 y2 y3 y4 y5 y6 y7 y8)) ∧ (∀ y0 y1 y2 y3 y4 y5 y6 y7, LeO (spec_l9Sum.j5 k y0 y1 y2 y3 y4 y5 y6 y7) (spec_l9Sum.j5 (k + 1) y0 y1 y2 y3 y4 y5 y6 y7)) ∧ (∀ y0 y1 y2 y3 y4 y5 y6 y7 y8, LeO (spec_l9Sum.l4 k y0 y1 y2 y3 y4 y5 y6 y7 y8) (spec_l9Sum.l4 (k + 1) y0 y1 y2 y3 y4 y5 y6 y7 y8)) ∧ (∀ y0 y1 y2 y3 y4 y5 y6 y7 y8 y9, LeO (spec_l9Sum.j7 k y0 y1 y2 y3 y4 y5 y6 y7 y8 y9) (spec_l9Sum.j7 (k + 1) y0 y1 y2 y3 y4 y5 y6 y7 y8 y9)) ∧ (∀ y0 y1 y2 y3 y4 y5 y6 y7 y8 y9, LeO (spec_l9Sum.l5 k y0 y1 y2 y3 y4 y5 y6 y7 y8 y9) (spec_l9Sum.l5 (k + 1) y0 y1 y2 y3 y4 y5 y6 y7 y8 y9))
 | 0 => ⟨fun _ _ _ _ _ r h => by simp [spec_l9Sum.l0] at h, fun _ _ _ _ _ _ _ r h => by simp [spec_l9Sum.l1] at h, fun _ _ _ _ _ _ r h => by simp [spec_l9Sum.l2] at h, fun _ _ _ _ _ _ _ r h => by simp [spec_l9Sum.l3] at h, fun _ _ _ _ _ _ _ _ _ r h => by simp [spec_l9Sum.j4] at h, fun _ _ _ _ _ _ _ _ r h => by simp [spec_l9Sum.j5] at h, fun _ _ _ _ _ _ _ _ _ r h => by simp [spec_l9Sum.l4] at h, fun _ _ _ _ _ _ _ _ _ _ r h => by simp [spec_l9Sum.j7] at h, fun _ _ _ _ _ _ _ _ _ _ r h => by simp [spec_l9Sum.l5] at h⟩
 | k + 1 => by
  obtain ⟨ih0, ih1, ih2, ih3, ih4, ih5, ih6, ih7, ih8⟩ := spec_l9Sum.mono_l k
  refine ⟨?_, ?_, ?_, ?_, ?_, ?_, ?_, ?_, ?_⟩
  ·intro y0 y1 y2 y3 y4
   unfold spec_l9Sum.l0
   repeat' first
   | (with_reducible exact ih0 _ _ _ _ _)
   | (with_reducible exact ih1 _ _ _ _ _ _ _)
   | (with_reducible exact ih2 _ _ _ _ _ _)
   | (with_reducible exact ih3 _ _ _ _ _ _ _)
   | (with_reducible exact ih4 _ _ _ _ _ _ _ _ _)
   | (with_reducible exact ih5 _ _ _ _ _ _ _ _)
   | (with_reducible exact ih6 _ _ _ _ _ _ _ _ _)
   | (with_reducible exact ih7 _ _ _ _ _ _ _ _ _ _)
   | (with_reducible exact ih8 _ _ _ _ _ _ _ _ _ _)
   | (with_reducible exact LeO.refl _)
   | (with_reducible exact LeO.none _)
   | (with_reducible refine LeO.ite ?_ ?_)
   | (with_reducible refine LeO.bind ?_ (fun _ => ?_))
   | exact ih0 _ _ _ _ _
   | exact ih1 _ _ _ _ _ _ _
   | exact ih2 _ _ _ _ _ _
   | exact ih3 _ _ _ _ _ _ _
   | exact ih4 _ _ _ _ _ _ _ _ _
   | exact ih5 _ _ _ _ _ _ _ _
   | exact ih6 _ _ _ _ _ _ _ _ _
   | exact ih7 _ _ _ _ _ _ _ _ _ _
   | exact ih8 _ _ _ _ _ _ _ _ _ _
   | exact LeO.none _
   | refine LeO.ite ?_ ?_
   | refine LeO.bind ?_ (fun _ => ?_)
  ·intro y0 y1 y2 y3 y4 y5 y6
   unfold spec_l9Sum.l1
   repeat' first
   | (with_reducible exact ih0 _ _ _ _ _)
   | (with_reducible exact ih1 _ _ _ _ _ _ _)
   | (with_reducible exact ih2 _ _ _ _ _ _)
   | (with_reducible exact ih3 _ _ _ _ _ _ _)
   | (with_reducible exact ih4 _ _ _ _ _ _ _ _ _)
   | (with_reducible exact ih5 _ _ _ _ _ _ _ _)
   | (with_reducible exact ih6 _ _ _ _ _ _ _ _ _)
   | (with_reducible exact ih7 _ _ _ _ _ _ _ _ _ _)
   | (with_reducible exact ih8 _ _ _ _ _ _ _ _ _ _)
   | (with_reducible exact LeO.refl _)
   | (with_reducible exact LeO.none _)
   | (with_reducible refine LeO.ite ?_ ?_)
   | (with_reducible refine LeO.bind ?_ (fun _ => ?_))
   | exact ih0 _ _ _ _ _
   | exact ih1 _ _ _ _ _ _ _
   | exact ih2 _ _ _ _ _ _
   | exact ih3 _ _ _ _ _ _ _
   | exact ih4 _ _ _ _ _ _ _ _ _
   | exact ih5 _ _ _ _ _ _ _ _
   | exact ih6 _ _ _ _ _ _ _ _ _
   | exact ih7 _ _ _ _ _ _ _ _ _ _
   | exact ih8 _ _ _ _ _ _ _ _ _ _
   | exact LeO.none _
   | refine LeO.ite ?_ ?_
   | refine LeO.bind ?_ (fun _ => ?_)
  ·intro y0 y1 y2 y3 y4 y5
   unfold spec_l9Sum.l2
   repeat' first
   | (with_reducible exact ih0 _ _ _ _ _)
   | (with_reducible exact ih1 _ _ _ _ _ _ _)
   | (with_reducible exact ih2 _ _ _ _ _ _)
   | (with_reducible exact ih3 _ _ _ _ _ _ _)
   | (with_reducible exact ih4 _ _ _ _ _ _ _ _ _)
   | (with_reducible exact ih5 _ _ _ _ _ _ _ _)
   | (with_reducible exact ih6 _ _ _ _ _ _ _ _ _)
   | (with_reducible exact ih7 _ _ _ _ _ _ _ _ _ _)
   | (with_reducible exact ih8 _ _ _ _ _ _ _ _ _ _)
   | (with_reducible exact LeO.refl _)
   | (with_reducible exact LeO.none _)
   | (with_reducible refine LeO.ite ?_ ?_)
   | (with_reducible refine LeO.bind ?_ (fun _ => ?_))
   | exact ih0 _ _ _ _ _
   | exact ih1 _ _ _ _ _ _ _
   | exact ih2 _ _ _ _ _ _
   | exact ih3 _ _ _ _ _ _ _
   | exact ih4 _ _ _ _ _ _ _ _ _
   | exact ih5 _ _ _ _ _ _ _ _
   | exact ih6 _ _ _ _ _ _ _ _ _
   | exact ih7 _ _ _ _ _ _ _ _ _ _
   | exact ih8 _ _ _ _ _ _ _ _ _ _
   | exact LeO.none _
   | refine LeO.ite ?_ ?_
   | refine LeO.bind ?_ (fun _ => ?_)
  ·intro y0 y1 y2 y3 y4 y5 y6
   unfold spec_l9Sum.l3
   repeat' first
   | (with_reducible exact ih0 _ _ _ _ _)
   | (with_reducible exact ih1 _ _ _ _ _ _ _)
   | (with_reducible exact ih2 _ _ _ _ _ _)
   | (with_reducible exact ih3 _ _ _ _ _ _ _)
   | (with_reducible exact ih4 _ _ _ _ _ _ _ _ _)
   | (with_reducible exact ih5 _ _ _ _ _ _ _ _)
   | (with_reducible exact ih6 _ _ _ _ _ _ _ _ _)
   | (with_reducible exact ih7 _ _ _ _ _ _ _ _ _ _)
   | (with_reducible exact ih8 _ _ _ _ _ _ _ _ _ _)
   | (with_reducible exact LeO.refl _)
   | (with_reducible exact LeO.none _)
   | (with_reducible refine LeO.ite ?_ ?_)
   | (with_reducible refine LeO.bind ?_ (fun _ => ?_))
   | exact ih0 _ _ _ _ _
   | exact ih1 _ _ _ _ _ _ _
   | exact ih2 _ _ _ _ _ _
   | exact ih3 _ _ _ _ _ _ _
   | exact ih4 _ _ _ _ _ _ _ _ _
   | exact ih5 _ _ _ _ _ _ _ _
   | exact ih6 _ _ _ _ _ _ _ _ _
   | exact ih7 _ _ _ _ _ _ _ _ _ _
   | exact ih8 _ _ _ _ _ _ _ _ _ _
   | exact LeO.none _
   | refine LeO.ite ?_ ?_
   | refine LeO.bind ?_ (fun _ => ?_)
  ·intro y0 y1 y2 y3 y4 y5 y6 y7 y8
   unfold spec_l9Sum.j4
   repeat' first
   | (with_reducible exact ih0 _ _ _ _ _)
   | (with_reducible exact ih1 _ _ _ _ _ _ _)
   | (with_reducible exact ih2 _ _ _ _ _ _)
   | (with_reducible exact ih3 _ _ _ _ _ _ _)
   | (with_reducible exact ih4 _ _ _ _ _ _ _ _ _)
   | (with_reducible exact ih5 _ _ _ _ _ _ _ _)
   | (with_reducible exact ih6 _ _ _ _ _ _ _ _ _)
   | (with_reducible exact ih7 _ _ _ _ _ _ _ _ _ _)
   | (with_reducible exact ih8 _ _ _ _ _ _ _ _ _ _)
   | (with_reducible exact LeO.refl _)
   | (with_reducible exact LeO.none _)
   | (with_reducible refine LeO.ite ?_ ?_)
   | (with_reducible refine LeO.bind ?_ (fun _ => ?_))
   | exact ih0 _ _ _ _ _
   | exact ih1 _ _ _ _ _ _ _
   | exact ih2 _ _ _ _ _ _
   | exact ih3 _ _ _ _ _ _ _
   | exact ih4 _ _ _ _ _ _ _ _ _
   | exact ih5 _ _ _ _ _ _ _ _
   | exact ih6 _ _ _ _ _ _ _ _ _
   | exact ih7 _ _ _ _ _ _ _ _ _ _
   | exact ih8 _ _ _ _ _ _ _ _ _ _
   | exact LeO.none _
   | refine LeO.ite ?_ ?_
   | refine LeO.bind ?_ (fun _ => ?_)
  ·intro y0 y1 y2 y3 y4 y5 y6 y7
   unfold spec_l9Sum.j5
   repeat' first
   | (with_reducible exact ih0 _ _ _ _ _)
   | (with_reducible exact ih1 _ _ _ _ _ _ _)
   | (with_reducible exact ih2 _ _ _ _ _ _)
   | (with_reducible exact ih3 _ _ _ _ _ _ _)
   | (with_reducible exact ih4 _ _ _ _ _ _ _ _ _)
   | (with_reducible exact ih5 _ _ _ _ _ _ _ _)
   | (with_reducible exact ih6 _ _ _ _ _ _ _ _ _)
   | (with_reducible exact ih7 _ _ _ _ _ _ _ _ _ _)
   | (with_reducible exact ih8 _ _ _ _ _ _ _ _ _ _)
   | (with_reducible exact LeO.refl _)
   | (with_reducible exact LeO.none _)
   | (with_reducible refine LeO.ite ?_ ?_)
   | (with_reducible refine LeO.bind ?_ (fun _ => ?_))
   | exact ih0 _ _ _ _ _
   | exact ih1 _ _ _ _ _ _ _
   | exact ih2 _ _ _ _ _ _
   | exact ih3 _ _ _ _ _ _ _
   | exact ih4 _ _ _ _ _ _ _ _ _
   | exact ih5 _ _ _ _ _ _ _ _
   | exact ih6 _ _ _ _ _ _ _ _ _
   | exact ih7 _ _ _ _ _ _ _ _ _ _
   | exact ih8 _ _ _ _ _ _ _ _ _ _
   | exact LeO.none _
   | refine LeO.ite ?_ ?_
   | refine LeO.bind ?_ (fun _ => ?_)
  ·intro y0 y1 y2 y3 y4 y5 y6 y7 y8
   unfold spec_l9Sum.l4
   repeat' first
   | (with_reducible exact ih0 _ _ _ _ _)
   | (with_reducible exact ih1 _ _ _ _ _ _ _)
   | (with_reducible exact ih2 _ _ _ _ _ _)
   | (with_reducible exact ih3 _ _ _ _ _ _ _)
   | (with_reducible exact ih4 _ _ _ _ _ _ _ _ _)
   | (with_reducible exact ih5 _ _ _ _ _ _ _ _)
   | (with_reducible exact ih6 _ _ _ _ _ _ _ _ _)
   | (with_reducible exact ih7 _ _ _ _ _ _ _ _ _ _)
   | (with_reducible exact ih8 _ _ _ _ _ _ _ _ _ _)
   | (with_reducible exact LeO.refl _)
   | (with_reducible exact LeO.none _)
   | (with_reducible refine LeO.ite ?_ ?_)
   | (with_reducible refine LeO.bind ?_ (fun _ => ?_))
   | exact ih0 _ _ _ _ _
   | exact ih1 _ _ _ _ _ _ _
   | exact ih2 _ _ _ _ _ _
   | exact ih3 _ _ _ _ _ _ _
   | exact ih4 _ _ _ _ _ _ _ _ _
   | exact ih5 _ _ _ _ _ _ _ _
   | exact ih6 _ _ _ _ _ _ _ _ _
   | exact ih7 _ _ _ _ _ _ _ _ _ _
   | exact ih8 _ _ _ _ _ _ _ _ _ _
   | exact LeO.none _
   | refine LeO.ite ?_ ?_
   | refine LeO.bind ?_ (fun _ => ?_)
  ·intro y0 y1 y2 y3 y4 y5 y6 y7 y8 y9
   unfold spec_l9Sum.j7
   repeat' first
   | (with_reducible exact ih0 _ _ _ _ _)
   | (with_reducible exact ih1 _ _ _ _ _ _ _)
   | (with_reducible exact ih2 _ _ _ _ _ _)
   | (with_reducible exact ih3 _ _ _ _ _ _ _)
   | (with_reducible exact ih4 _ _ _ _ _ _ _ _ _)
   | (with_reducible exact ih5 _ _ _ _ _ _ _ _)
   | (with_reducible exact ih6 _ _ _ _ _ _ _ _ _)
   | (with_reducible exact ih7 _ _ _ _ _ _ _ _ _ _)
   | (with_reducible exact ih8 _ _ _ _ _ _ _ _ _ _)
   | (with_reducible exact LeO.refl _)
   | (with_reducible exact LeO.none _)
   | (with_reducible refine LeO.ite ?_ ?_)
   | (with_reducible refine LeO.bind ?_ (fun _ => ?_))
   | exact ih0 _ _ _ _ _
   | exact ih1 _ _ _ _ _ _ _
   | exact ih2 _ _ _ _ _ _
   | exact ih3 _ _ _ _ _ _ _
   | exact ih4 _ _ _ _ _ _ _ _ _
   | exact ih5 _ _ _ _ _ _ _ _
   | exact ih6 _ _ _ _ _ _ _ _ _
   | exact ih7 _ _ _ _ _ _ _ _ _ _
   | exact ih8 _ _ _ _ _ _ _ _ _ _
   | exact LeO.none _
   | refine LeO.ite ?_ ?_
   | refine LeO.bind ?_ (fun _ => ?_)
  ·intro y0 y1 y2 y3 y4 y5 y6 y7 y8 y9
   unfold spec_l9Sum.l5
   repeat' first
   | (with_reducible exact ih0 _ _ _ _ _)
   | (with_reducible exact ih1 _ _ _ _ _ _ _)
   | (with_reducible exact ih2 _ _ _ _ _ _)
   | (with_reducible exact ih3 _ _ _ _ _ _ _)
   | (with_reducible exact ih4 _ _ _ _ _ _ _ _ _)
   | (with_reducible exact ih5 _ _ _ _ _ _ _ _)
   | (with_reducible exact ih6 _ _ _ _ _ _ _ _ _)
   | (with_reducible exact ih7 _ _ _ _ _ _ _ _ _ _)
   | (with_reducible exact ih8 _ _ _ _ _ _ _ _ _ _)
   | (with_reducible exact LeO.refl _)
   | (with_reducible exact LeO.none _)
   | (with_reducible refine LeO.ite ?_ ?_)
   | (with_reducible refine LeO.bind ?_ (fun _ => ?_))
   | exact ih0 _ _ _ _ _
   | exact ih1 _ _ _ _ _ _ _
   | exact ih2 _ _ _ _ _ _
   | exact ih3 _ _ _ _ _ _ _
   | exact ih4 _ _ _ _ _ _ _ _ _
   | exact ih5 _ _ _ _ _ _ _ _
   | exact ih6 _ _ _ _ _ _ _ _ _
   | exact ih7 _ _ _ _ _ _ _ _ _ _
   | exact ih8 _ _ _ _ _ _ _ _ _ _
   | exact LeO.none _
   | refine LeO.ite ?_ ?_
   | refine LeO.bind ?_ (fun _ => ?_)
theorem spec_l9Sum.mono : ∀ a0 a1 a2 k, LeO (spec_l9Sum.f k a0 a1 a2) (spec_l9Sum.f (k + 1) a0 a1 a2) := by
 intro a0 a1 a2 k
 obtain ⟨ih0, ih1, ih2, ih3, ih4, ih5, ih6, ih7, ih8⟩ := spec_l9Sum.mono_l k
 unfold spec_l9Sum.f
 repeat' first
   | (with_reducible exact ih0 _ _ _ _ _)
   | (with_reducible exact ih1 _ _ _ _ _ _ _)
   | (with_reducible exact ih2 _ _ _ _ _ _)
   | (with_reducible exact ih3 _ _ _ _ _ _ _)
   | (with_reducible exact ih4 _ _ _ _ _ _ _ _ _)
   | (with_reducible exact ih5 _ _ _ _ _ _ _ _)
   | (with_reducible exact ih6 _ _ _ _ _ _ _ _ _)
   | (with_reducible exact ih7 _ _ _ _ _ _ _ _ _ _)
   | (with_reducible exact ih8 _ _ _ _ _ _ _ _ _ _)
   | (with_reducible exact LeO.refl _)
   | (with_reducible exact LeO.none _)
   | (with_reducible refine LeO.ite ?_ ?_)
   | (with_reducible refine LeO.bind ?_ (fun _ => ?_))
   | exact ih0 _ _ _ _ _
   | exact ih1 _ _ _ _ _ _ _
   | exact ih2 _ _ _ _ _ _
   | exact ih3 _ _ _ _ _ _ _
   | exact ih4 _ _ _ _ _ _ _ _ _
   | exact ih5 _ _ _ _ _ _ _ _
   | exact ih6 _ _ _ _ _ _ _ _ _
   | exact ih7 _ _ _ _ _ _ _ _ _ _
   | exact ih8 _ _ _ _ _ _ _ _ _ _
   | exact LeO.none _
   | refine LeO.ite ?_ ?_
   | refine LeO.bind ?_ (fun _ => ?_)
def spec_l9Sum.T28 : Bool × List (List Nat × List Nat) := (true, [([], []), ([], []), ([1], [1]), ([2], [2]), ([], []), ([], []), ([], []), ([5, 6], [5, 6]), ([7], [7]), ([8], [8]), ([4, 9], [4, 9]), ([3, 10], [3, 10]), ([0, 11], [0, 11])])
def spec_l9Sum.B28 : List Nat := [0, 0, 2, 6, 0, 0, 0, 96, 224, 480, 1008, 2046, 4095]
theorem spec_l9Sum.tab28 : rtab .any (opsOf Try.f59 28) = spec_l9Sum.T28 := by kernel_rfl
theorem spec_l9Sum.bits28 : waitsOk spec_l9Sum.T28.2 spec_l9Sum.B28 = true := by kernel_rfl
def spec_l9Sum.T30 : Bool × List (List Nat × List Nat) := (true, [([], []), ([0], [0]), ([], []), ([], []), ([], []), ([3, 4], [3, 4]), ([5], [5]), ([6], [6]), ([2, 7], [2, 7]), ([8], [8]), ([1, 9], [1, 9]), ([10, 10, 0, 1, 2, 3, 4, 5, 6, 7, 8, 9, 10], [10])])
def spec_l9Sum.B30 : List Nat := [0, 1, 0, 0, 0, 24, 56, 120, 252, 508, 1023, 2047]
theorem spec_l9Sum.tab30 : rtab .any (opsOf Try.f59 30) = spec_l9Sum.T30 := by kernel_rfl
theorem spec_l9Sum.bits30 : waitsOk spec_l9Sum.T30.2 spec_l9Sum.B30 = true := by kernel_rfl
def spec_l9Sum.T31 : Bool × List (List Nat × List Nat) := (true, [([], []), ([], []), ([], []), ([], []), ([2, 3], [2, 3]), ([4], [4]), ([5], [5]), ([], []), ([1, 6, 7], [1, 6, 7]), ([0, 8], [0, 8]), ([9, 8, 0, 1, 2, 3, 4, 5, 6, 7, 8, 9], [9])])
def spec_l9Sum.B31 : List Nat := [0, 0, 0, 0, 12, 28, 60, 0, 254, 511, 1023]
theorem spec_l9Sum.tab31 : rtab .any (opsOf Try.f59 31) = spec_l9Sum.T31 := by kernel_rfl
theorem spec_l9Sum.bits31 : waitsOk spec_l9Sum.T31.2 spec_l9Sum.B31 = true := by kernel_rfl
set_option maxHeartbeats 8000000 in
set_option maxRecDepth 100000 in
theorem spec_l9Sum.calls (k : Nat) (a0_0 : Int) (a0_1 : Bool) (A1 : Option Addr) (c1 : Nat) (l1 : List (S58)) (r : Int) (w : World) (hr1 : Kd.C k58 w A1 l1.length l1) (hc1 : l1.length ≤ c1) (h : spec_l9Sum.f k a0_0 a0_1 l1 = some r) :
  Calls Try.prog 59 #[.agg #[.int .i64 a0_0, .bool a0_1], .slice A1 l1.length c1] w fun e w' => e = .returned (.int .i64 r) ∧ Below w.heap.size w w' := by
 have hu27 := Try.underlying27
 have HR1 := Aside0.mk hr1
 have HC1 := Aside0.mk hc1
 clear hr1 hc1
 have HB := Aside0.mk (Below.refl w.heap.size w)
 have H : (spec_l9Sum.l0 k l1 (([] : List (List Int))) 0 a0_0 a0_1) = some r := h
 clear h
 obtain ⟨y135, hy135⟩ : ∃ y_ : List (List Int), y_ = (([] : List (List Int))) := ⟨_, rfl⟩
 replace H : (spec_l9Sum.l0 k l1 y135 0 a0_0 a0_1) = some r := by first | (rw [hy135]; with_reducible exact H) | (have H2_ := (Option.bind_some _ _).symm.trans H; rw [hy135]; with_reducible exact H2_) | (have H2_ := (Option.bind_some _ _).symm.trans H; with_reducible exact H2_) | with_reducible exact H | (rw [hy135]; exact H) | exact H
 have Ny135 := Aside0.mk hy135
 clear hy135
 have H' := Aside0.mk H
 clear H
 go_enter Try.func59, Try.ntmps59
 go_wp2_with (first | ((with_reducible refine gate_dst (N := 2) rfl ?_); refine box_event ?hg (N := 2) ?hd (cs := #[.int .i64 a0_0, .bool a0_1]) (t := 27) ?hr ?_; (case hd => rfl); (case hg => rfl); (case hr => first | (go_simp; done) | (go_simp; rfl)); intro gb134 hg w3 hbox hb; have n0_ := Aside0.mk (below_step (by repeat (first | (with_reducible first | exact HB.out | apply below_alloc | apply pw_below_drewN | apply below_drew1) | exact HB.out)) hb); have n1_ := Aside0.mk (hbox); have n2_ := Aside0.mk ((by rw [hg]; exact (below_size (by repeat (first | (with_reducible first | exact HB.out | apply below_alloc | apply pw_below_drewN | apply below_drew1) | exact HB.out))) : w.heap.size ≤ gb134)); have n3_ := Aside0.mk ((by rw [hg]; exact (below_size (by repeat (first | (with_reducible first | exact HB.out | apply below_alloc | apply pw_below_drewN | apply below_drew1) | exact HB.out))) : w.heap.size ≤ gb134)); clear HB; have HB := n0_; have BK134 := n1_; have GW134 := n2_; have GE134 := n3_; clear n0_ n1_ n2_ n3_; clear hb hbox hg) | ((with_reducible refine gate_dst (N := 18) rfl ?_); refine Kd.S_lit (Kd.slice 3 (Kd.int .i64)) _ 24 ?hg (N := 18) ?hd (xs := ([] : List (List Int))) (inner := []) (ok := fun _ => True) (okp := fun _ => True) ?hr ?hp (fun _ hk => hk) trivial (Below.refl _ _) (Nat.le_refl _) (by simp) ?_; (case hd => rfl); (case hg => rfl); (case hr => first | (go_simp; done) | (go_simp; rfl)); (case hp => exact (Reps.none _ _)); intro v136 w4 ho5 hb hg_ hnew_; clear hg_ hnew_; (first | rw [← Ny135.out] at ho5 | (simp only [Int.reduceToNat] at ho5; rw [← Ny135.out] at ho5)); have n0_ := Aside0.mk (Kd.S_lower ho5 (below_size (by repeat (first | (with_reducible first | exact HB.out | apply below_alloc | apply pw_below_drewN | apply below_drew1 | refine below_set ?_ GE134.out) | exact HB.out)))); have n1_ := Aside0.mk (blk_below (g := gb134) (o := .cells #[.int .i64 a0_0, .bool a0_1] 27 (0, 0)) (by (with_reducible repeat (first | refine blk_drewN ?_ _ | refine blk_drew ?_ | refine blk_alloc ?_ _)); exact BK134.out) hb); have n2_ := Aside0.mk (below_step (by repeat (first | (with_reducible first | exact HB.out | apply below_alloc | apply pw_below_drewN | apply below_drew1 | refine below_set ?_ GE134.out) | exact HB.out)) hb); clear BK134; clear HB; have HO137 := n0_; have BK134 := n1_; have HB := n2_; clear n0_ n1_ n2_; clear hb ho5))
 go_loopg [5, 6] k (fun kq v5 v6 w' => ∃ (x5_1 : List (List Int)) (x6_1 : Int), v6 = .int .i64 x6_1 ∧ Aside0 (spec_l9Sum.l0 kq l1 x5_1 x6_1 a0_0 a0_1 = some r) ∧ Aside0 (kq ≤ k) ∧ Aside0 (Kd.S (Kd.slice 3 (Kd.int .i64)) 24 w' w.heap.size (fun _ => True) v5 x5_1) ∧ Aside0 (w'.heap[gb134]? = some (.cells #[.int .i64 a0_0, .bool a0_1] 27 (0, 0))) ∧ Aside0 (Below w.heap.size w w'))
 case atStart => exact ⟨(y135), (0), (by first | rfl | (simp; done) | (simp [*]; done)), H', ⟨Nat.le_refl _⟩, ⟨by (with_reducible repeat (first | apply Kd.S_alloc | apply Kd.S_drewN | apply Kd.S_drew)); exact HO137.out⟩, ⟨by (with_reducible repeat (first | refine blk_drewN ?_ _ | refine blk_drew ?_ | refine blk_alloc ?_ _)); exact BK134.out⟩, ⟨by repeat (first | (with_reducible first | exact HB.out | apply below_alloc | apply pw_below_drewN | apply below_drew1 | refine below_set ?_ GE134.out) | exact HB.out)⟩⟩
 case round =>
  clear H'
  try clear c1
  try clear p2
  try clear c5
  obtain ⟨x5_1, x6_1, rfl, HA, HK1, HO_5, BK134, HB⟩ := hrel
  cases gk with
  | zero => exact absurd HA.out (by simp [spec_l9Sum.l0])
  | succ k1 =>
   have H := HA.out
   clear HA
   simp only [spec_l9Sum.l0] at H
   obtain ⟨ji6, hji6⟩ : ∃ j_ : Int, (shl .i64 1 (l1.length : Int)) = j_ := ⟨_, rfl⟩
   replace H : (if x6_1 < (ji6) then (if 0 ≤ (wrap64 (a0_0 + 1)) then (if (wrap64 (a0_0 + 1) : Int).toNat ≤ 35184372088832 then (spec_l9Sum.l1 k1 l1 x5_1 x6_1 (List.replicate (wrap64 (a0_0 + 1) : Int).toNat 0) 0 a0_0 a0_1) else (none)) else (none)) else (if 0 < (x5_1.length : Int) then (if 0 < ((rd_L3 x5_1 0).length : Int) then (spec_l9Sum.l2 k1 l1 (x5_1.set (0 : Int).toNat ((rd_L3 x5_1 0).set (0 : Int).toNat 0)) (-1) 0 a0_0 a0_1) else (none)) else (none))) = some r := by first | (rw [hji6] at H; exact H) | (simp only [hji6] at H ⊢; exact H)
   have hji6_ : (IntKind.i64.wrap (1 * 2 ^ min (l1.length : Int).toNat 64)) = ji6 := hji6
   have hji6z : (l1.length : Int) ≤ 64 → (IntKind.i64.wrap (1 * 2 ^ (l1.length : Int).toNat)) = ji6 := shl_small hji6
   have hji6p : (IntKind.i64.wrap (1 * 2 ^ min l1.length 64)) = ji6 := hji6_
   have hji6q : (l1.length : Int) ≤ 64 → (IntKind.i64.wrap (1 * 2 ^ l1.length)) = ji6 := hji6z
   have hji6r : (IntKind.i64.wrap (2 ^ min l1.length 64)) = ji6 := by have h_ := hji6p; rw [Int.one_mul] at h_; exact h_
   have hji6s : (l1.length : Int) ≤ 64 → (IntKind.i64.wrap (2 ^ l1.length)) = ji6 := fun hle_ => by have h_ := hji6q hle_; rw [Int.one_mul] at h_; exact h_
   have hji6u : (IntKind.i64.wrap (2 ^ min (l1.length : Int).toNat 64)) = ji6 := by have h_ := hji6_; rw [Int.one_mul] at h_; exact h_
   have hji6v : (l1.length : Int) ≤ 64 → (IntKind.i64.wrap (2 ^ (l1.length : Int).toNat)) = ji6 := fun hle_ => by have h_ := hji6z hle_; rw [Int.one_mul] at h_; exact h_
   have hji6y : (wrap64 (1 * 2 ^ min (l1.length : Int).toNat 64)) = ji6 := (i64_w _).symm.trans hji6_
   have hji6x : (l1.length : Int) ≤ 64 → (wrap64 (1 * 2 ^ (l1.length : Int).toNat)) = ji6 := fun h_ => (i64_w _).symm.trans (hji6z h_)
   by_cases c7 : x6_1 < (ji6)
   ·rw [if_pos c7] at H
    have c7b0 : decide (x6_1 < (ji6)) = true := decide_eq_true c7
    clear c7
    obtain ⟨ji8, hji8⟩ : ∃ j_ : Int, (wrap64 (a0_0 + 1)) = j_ := ⟨_, rfl⟩
    replace H : (if 0 ≤ (ji8) then (if (ji8 : Int).toNat ≤ 35184372088832 then (spec_l9Sum.l1 k1 l1 x5_1 x6_1 (List.replicate (ji8 : Int).toNat 0) 0 a0_0 a0_1) else (none)) else (none)) = some r := by first | (rw [hji8] at H; exact H) | (simp only [hji8] at H ⊢; exact H)
    have hji8w : (IntKind.i64.wrap (a0_0 + 1)) = ji8 := (i64_w _).trans hji8
    by_cases c9 : 0 ≤ (ji8)
    ·rw [if_pos c9] at H
     have c9b0 := eq_true c9
     have c9b1 : decide (0 ≤ (ji8)) = true := decide_eq_true c9
     clear c9
     by_cases c10 : (ji8 : Int).toNat ≤ 35184372088832
     ·rw [if_pos c10] at H
      have c10b0 := eq_true c10
      have c10b1 : decide ((ji8 : Int).toNat ≤ 35184372088832) = true := decide_eq_true c10
      clear c10
      obtain ⟨y138, hy138⟩ : ∃ y_ : List Int, y_ = (List.replicate (ji8 : Int).toNat 0) := ⟨_, rfl⟩
      replace H : (spec_l9Sum.l1 k1 l1 x5_1 x6_1 y138 0 a0_0 a0_1) = some r := by first | (rw [hy138]; with_reducible exact H) | (have H2_ := (Option.bind_some _ _).symm.trans H; rw [hy138]; with_reducible exact H2_) | (have H2_ := (Option.bind_some _ _).symm.trans H; with_reducible exact H2_) | with_reducible exact H | (rw [hy138]; exact H) | exact H
      have Ny138 := Aside0.mk hy138
      clear hy138
      have H' := Aside0.mk H
      clear H
      have hcz11_0 : wr.cell? ⟨gb134, 0, none⟩ = some (.int .i64 a0_0) := (blk_cell BK134.out 0).trans rfl
      have hcz11_1 : wr.cell? ⟨gb134, 1, none⟩ = some (.bool a0_1) := (blk_cell BK134.out 1).trans rfl
      have hfz11_0 := blk_frozen BK134.out 0
      have hfz11_1 := blk_frozen BK134.out 1
      go_wp2_with (first | ((with_reducible refine gate_dst (N := 29) rfl ?_); refine Kd.R_make (Kd.int .i64) _ 3 rfl (N := 29) rfl 24 _ _ rfl ji8 rfl rfl Try.underlying24 (.int .i64 0) 8 info3 rfl (by decide) (by omega) 0 (ok := fun _ => True) (okp := fun _ => True) rfl (fun _ hk => hk) trivial (of_decide_eq_true (by first | (with_reducible assumption) | assumption)) (Nat.le_trans (Nat.mul_le_mul_right _ (of_decide_eq_true (by first | (with_reducible assumption) | assumption) : ji8.toNat ≤ 35184372088832)) (by omega)) (Below.refl _ _) (Nat.le_refl _) ?_; intro v139 w12 ho13 hb hg_ hnew_; clear hg_ hnew_; (first | rw [← Ny138.out] at ho13 | (simp only [Int.reduceToNat] at ho13; rw [← Ny138.out] at ho13)); have n0_ := Aside0.mk (Kd.S_elder' (by (with_reducible repeat (first | apply Kd.S_alloc | apply Kd.S_drewN | apply Kd.S_drew)); exact HO_5.out) (Kd.R_base ho13) hb); have n1_ := Aside0.mk (Kd.R_lower ho13 (below_size (by repeat (first | (with_reducible first | exact HB.out | apply below_alloc | apply pw_below_drewN | apply below_drew1 | refine below_set ?_ GE134.out) | exact HB.out)))); have n2_ := Aside0.mk (blk_below (g := gb134) (o := .cells #[.int .i64 a0_0, .bool a0_1] 27 (0, 0)) (by (with_reducible repeat (first | refine blk_drewN ?_ _ | refine blk_drew ?_ | refine blk_alloc ?_ _)); exact BK134.out) hb); have n3_ := Aside0.mk (below_step (by repeat (first | (with_reducible first | exact HB.out | apply below_alloc | apply pw_below_drewN | apply below_drew1 | refine below_set ?_ GE134.out) | exact HB.out)) hb); clear HO_5; clear BK134; clear HB; have HO_5 := n0_; have HO140 := n1_; have BK134 := n2_; have HB := n3_; clear n0_ n1_ n2_ n3_; clear hb ho13))
      go_loopg [8] k1 (fun kq v8 w' => ∃ (x7_2 : List Int) (x8_2 : Int), v8 = .int .i64 x8_2 ∧ Aside0 (spec_l9Sum.l1 kq l1 x5_1 x6_1 x7_2 x8_2 a0_0 a0_1 = some r) ∧ Aside0 (kq ≤ k1) ∧ Aside0 (Kd.S (Kd.slice 3 (Kd.int .i64)) 24 w' w.heap.size (fun k_ => some k_ ≠ (v139 : Value).ownBlock) u5 x5_1) ∧ Aside0 (Kd.R (Kd.int .i64) 3 w' w.heap.size (fun _ => True) v139 x7_2) ∧ Aside0 (w'.heap[gb134]? = some (.cells #[.int .i64 a0_0, .bool a0_1] 27 (0, 0))) ∧ Aside0 (Below w.heap.size w w'))
      case atStart => exact ⟨(y138), (0), (by first | rfl | (simp; done) | (simp [*]; done)), H', ⟨Nat.le_refl _⟩, ⟨by (with_reducible repeat (first | apply Kd.S_alloc | apply Kd.S_drewN | apply Kd.S_drew)); exact Kd.S_mono HO_5.out (fun _ hk => hk.2)⟩, ⟨by (with_reducible repeat (first | apply Kd.R_alloc | apply Kd.R_drewN | apply Kd.R_drew)); exact HO140.out⟩, ⟨by (with_reducible repeat (first | refine blk_drewN ?_ _ | refine blk_drew ?_ | refine blk_alloc ?_ _)); exact BK134.out⟩, ⟨by repeat (first | (with_reducible first | exact HB.out | apply below_alloc | apply pw_below_drewN | apply below_drew1 | refine below_set ?_ GE134.out) | exact HB.out)⟩⟩
      case round =>
       clear H'
       try clear c1
       try clear p2
       try clear c5
       try clear p6
       try clear c7
       try clear c7b0
       try clear c9
       try clear c9b0
       try clear c9b1
       try clear c10
       try clear c10b0
       try clear c10b1
       try clear hcz11_0
       try clear hcz11_1
       try clear hfz11_0
       try clear hfz11_1
       try clear p2
       obtain ⟨x7_2, x8_2, rfl, HA, HK2, HO_5, HO_7, BK134, HB⟩ := hrel
       cases gk with
       | zero => exact absurd HA.out (by simp [spec_l9Sum.l1])
       | succ k2 =>
        have H := HA.out
        clear HA
        simp only [spec_l9Sum.l1] at H
        by_cases c14 : x8_2 ≤ a0_0
        ·rw [if_pos c14] at H
         have c14b0 : decide (x8_2 ≤ a0_0) = true := decide_eq_true c14
         clear c14
         by_cases c15 : 0 ≤ x8_2
         ·rw [if_pos c15] at H
          have c15b0 : decide (0 ≤ x8_2) = true := decide_eq_true c15
          clear c15
          by_cases c16 : x8_2 < (x7_2.length : Int)
          ·rw [if_pos c16] at H
           have c16b0 : decide (x8_2 < (x7_2.length : Int)) = true := decide_eq_true c16
           clear c16
           obtain ⟨y141, hy141⟩ : ∃ y_ : List Int, y_ = (x7_2.set (x8_2 : Int).toNat (-1)) := ⟨_, rfl⟩
           replace H : (spec_l9Sum.l1 k2 l1 x5_1 x6_1 y141 (wrap64 (x8_2 + 1)) a0_0 a0_1) = some r := by first | (rw [hy141]; with_reducible exact H) | (have H2_ := (Option.bind_some _ _).symm.trans H; rw [hy141]; with_reducible exact H2_) | (have H2_ := (Option.bind_some _ _).symm.trans H; with_reducible exact H2_) | with_reducible exact H | (rw [hy141]; exact H) | exact H
           have Ny141 := Aside0.mk hy141
           clear hy141
           have H' := Aside0.mk H
           clear H
           have hcz18_0 : wr.cell? ⟨gb134, 0, none⟩ = some (.int .i64 a0_0) := (blk_cell BK134.out 0).trans rfl
           have hcz18_1 : wr.cell? ⟨gb134, 1, none⟩ = some (.bool a0_1) := (blk_cell BK134.out 1).trans rfl
           have hfz18_0 := blk_frozen BK134.out 0
           have hfz18_1 := blk_frozen BK134.out 1
           have p17 : 0 ≤ (x8_2 : Int) := of_decide_eq_true (by first | (with_reducible assumption) | assumption)
           have q17 : (x8_2 : Int) < ((x7_2.length : Int) : Int) := of_decide_eq_true (by first | (with_reducible assumption) | assumption)
           obtain ⟨go17, co17, eo17, gb17, gl17, cl17, HG17⟩ := Kd.R_form HO_7.out (by omega)
           (first | cases eo17 | (injection eo17 with ea_ en_ ec_; (first | subst ea_ | (injection ea_ with ea_; subst ea_)); subst ec_; clear en_))
           have GB17 := Aside0.mk gb17
           have GG17 := Aside0.mk HG17
           clear gb17 gl17 HG17
           obtain ⟨hx17_0, hf17_0⟩ := Kd.R_celln 0 HO_7.out (x8_2 : Int) p17 q17
           replace p17 := eq_true p17
           replace q17 := eq_true q17
           have HP19 := Kd.R_putg HO_7.out (x8_2 : Int) (-1)
           go_wp2_with (first | ((with_reducible refine gate_store (t := 3) (p := 38) rfl ?_); refine store_event (t := 3) (p := 38) (v := ?vo_w20) (w1 := (wr.setCell ⟨go17, (x8_2 : Int).toNat, none⟩ (.int .i64 (-1)))) ?hg ?ho ?hn ?hr ?_; (case ho => rfl); (case hg => rfl); (case hn => rfl); (case hr => first | (go_simp; done) | (go_simp; rfl)); intro w20 hw; have hg : wr.grownBy w20 (some go17) := (by rw [hw]; exact HP19.2); have hp_ : Kd.R (Kd.int .i64) 3 w20 w.heap.size (fun _ => True) (.slice (some ⟨go17, 0, none⟩) x7_2.length co17) y141 := (by rw [hw, Ny141.out]; exact HP19.1); clear HP19; have n0_ := Aside0.mk (Kd.S_after (v := (.slice (some ⟨go17, 0, none⟩) x7_2.length co17)) (v1 := (.slice (some ⟨go17, 0, none⟩) x7_2.length co17)) (ok := (fun _ => True)) (by (with_reducible repeat (first | apply Kd.S_alloc | apply Kd.S_drewN | apply Kd.S_drew)); exact Kd.S_mono HO_5.out (fun _ hk => ⟨trivial, hk⟩)) hg (.inl rfl)); have n1_ := Aside0.mk (hp_); have n2_ := Aside0.mk (blk_grown (g := gb134) (o := .cells #[.int .i64 a0_0, .bool a0_1] 27 (0, 0)) (by (with_reducible repeat (first | refine blk_drewN ?_ _ | refine blk_drew ?_ | refine blk_alloc ?_ _)); exact BK134.out) hg (Kd.R_ne HO_7.out BK134.out (by decide))); have n3_ := Aside0.mk ((by rw [hw]; exact below_set (HB.out) GB17.out : Below w.heap.size w w20)); clear HO_5; clear HO_7; clear BK134; clear HB; have HO_5 := n0_; have HO_7 := n1_; have BK134 := n2_; have HB := n3_; clear n0_ n1_ n2_ n3_; clear hg hw hp_))
           go_roundg k2
           case measure => have := HK1.out; have := HK2.out; omega
           case rel => exact ⟨(y141), (wrap64 (x8_2 + 1)), (by first | rfl | (simp; done) | (simp [*]; done)), H', ⟨by have := HK1.out; have := HK2.out; omega⟩, ⟨by (with_reducible repeat (first | apply Kd.S_alloc | apply Kd.S_drewN | apply Kd.S_drew)); exact Kd.S_mono HO_5.out (fun _ hk => hk.2)⟩, ⟨by (with_reducible repeat (first | apply Kd.R_alloc | apply Kd.R_drewN | apply Kd.R_drew)); exact HO_7.out⟩, ⟨by (with_reducible repeat (first | refine blk_drewN ?_ _ | refine blk_drew ?_ | refine blk_alloc ?_ _)); exact BK134.out⟩, ⟨by repeat (first | (with_reducible first | exact HB.out | apply below_alloc | apply pw_below_drewN | apply below_drew1 | refine below_set ?_ GE134.out) | exact HB.out)⟩⟩
          ·rw [if_neg c16] at H
           exact absurd H (by simp)
         ·rw [if_neg c15] at H
          exact absurd H (by simp)
        ·rw [if_neg c14] at H
         have c14b0 : decide (x8_2 ≤ a0_0) = false := decide_eq_false c14
         clear c14
         by_cases c21 : x5_1.length < 5864062014805
         ·rw [if_pos c21] at H
          have LMc21 := Aside0.mk c21
          clear c21
          obtain ⟨y142, hy142⟩ : ∃ y_ : List (List Int), y_ = (x5_1 ++ [x7_2]) := ⟨_, rfl⟩
          replace H : (spec_l9Sum.l0 k2 l1 y142 (wrap64 (x6_1 + 1)) a0_0 a0_1) = some r := by first | (rw [hy142]; with_reducible exact H) | (have H2_ := (Option.bind_some _ _).symm.trans H; rw [hy142]; with_reducible exact H2_) | (have H2_ := (Option.bind_some _ _).symm.trans H; with_reducible exact H2_) | with_reducible exact H | (rw [hy142]; exact H) | exact H
          have Ny142 := Aside0.mk hy142
          clear hy142
          have H' := Aside0.mk H
          clear H
          have hcz22_0 : wr.cell? ⟨gb134, 0, none⟩ = some (.int .i64 a0_0) := (blk_cell BK134.out 0).trans rfl
          have hcz22_1 : wr.cell? ⟨gb134, 1, none⟩ = some (.bool a0_1) := (blk_cell BK134.out 1).trans rfl
          have hfz22_0 := blk_frozen BK134.out 0
          have hfz22_1 := blk_frozen BK134.out 1
          obtain ⟨Ao24, co24, eo24⟩ := Kd.R_slice HO_7.out
          subst eo24
          go_wp2_with (first | ((with_reducible refine gate_builtin (b := .append) (xs := #[.tmp 39, .tmp 41]) rfl ?_); at_builtin; refine Kd.S_append (Kd.slice 3 (Kd.int .i64)) (w0 := w) w.heap.size rfl (.tmp 39) (.tmp 41) 97 24 (.slice none 0 0) 24 rfl Try.underlying97 info24 rfl (by decide) (by omega) u5 x5_1 x7_2 [.slice Ao24 x7_2.length co24] (fun _ => True) (fun k_ => some k_ = (.slice Ao24 x7_2.length co24 : Value).ownBlock) rfl rfl ?aP (fun k_ hk_ => ((Kd.R_mono (ok' := fun k_ => ((fun _ => True)) k_ ∧ some k_ ≠ (u5 : Value).ownBlock) (Kd.R_apart' (HO_7.out) (Kd.S_typed HO_5.out) (by decide)) (fun k_ hk => ⟨trivial, hk.2⟩))).1 k_ hk_.symm) ?aF ?aO ?aB ?aS ?aL ?_; (case aP => exact Kd.M_row (Kd.R_mono (Kd.R_tight rfl (Kd.R_mono (ok' := fun k_ => ((fun _ => True)) k_ ∧ some k_ ≠ (u5 : Value).ownBlock) (Kd.R_apart' (HO_7.out) (Kd.S_typed HO_5.out) (by decide)) (fun k_ hk => ⟨trivial, hk.2⟩))) (fun _ h_ => h_))); (case aB => exact (by repeat (first | (with_reducible first | exact HB.out | apply below_alloc | apply pw_below_drewN | apply below_drew1 | refine below_set ?_ GE134.out) | exact HB.out))); (case aF => exact (fun _ _ => trivial)); (case aO => exact (by (with_reducible repeat (first | apply Kd.S_alloc | apply Kd.S_drewN | apply Kd.S_drew)); exact Kd.S_mono HO_5.out (fun k_ hk => ⟨trivial, fun e_ => hk e_⟩))); (case aS => exact (below_size (by repeat (first | (with_reducible first | exact HB.out | apply below_alloc | apply pw_below_drewN | apply below_drew1 | refine below_set ?_ GE134.out) | exact HB.out)))); (case aL => have := LMc21.out; omega); intro v143 w23 ho hb hg hat; rw [← Ny142.out] at ho; have n0_ := Aside0.mk (blk_grown (g := gb134) (o := .cells #[.int .i64 a0_0, .bool a0_1] 27 (0, 0)) (by (with_reducible repeat (first | refine blk_drewN ?_ _ | refine blk_drew ?_ | refine blk_alloc ?_ _)); exact BK134.out) hg (Kd.S_ne HO_5.out BK134.out (by decide))); have n1_ := Aside0.mk (hb); have n2_ := Aside0.mk (ho); clear BK134; clear HB; clear HO_5; clear HO_7; have BK134 := n0_; have HB := n1_; have HO144 := n2_; clear n0_ n1_ n2_; clear ho hb hg hat))
          go_roundg k2
          case measure => have := HK1.out; have := HK2.out; omega
          case rel => exact ⟨(y142), (wrap64 (x6_1 + 1)), (by first | rfl | (simp; done) | (simp [*]; done)), H', ⟨by have := HK1.out; have := HK2.out; omega⟩, ⟨by (with_reducible repeat (first | apply Kd.S_alloc | apply Kd.S_drewN | apply Kd.S_drew)); exact HO144.out⟩, ⟨by (with_reducible repeat (first | refine blk_drewN ?_ _ | refine blk_drew ?_ | refine blk_alloc ?_ _)); exact BK134.out⟩, ⟨by repeat (first | (with_reducible first | exact HB.out | apply below_alloc | apply pw_below_drewN | apply below_drew1 | refine below_set ?_ GE134.out) | exact HB.out)⟩⟩
         ·rw [if_neg c21] at H
          exact absurd H (by simp)
     ·rw [if_neg c10] at H
      exact absurd H (by simp)
    ·rw [if_neg c9] at H
     exact absurd H (by simp)
   ·rw [if_neg c7] at H
    have c7b0 : decide (x6_1 < (ji6)) = false := decide_eq_false c7
    clear c7
    by_cases c25 : 0 < (x5_1.length : Int)
    ·rw [if_pos c25] at H
     have c25b0 : decide (0 < (x5_1.length : Int)) = true := decide_eq_true c25
     have c25b1 : decide (0 < x5_1.length) = true := decide_eq_true (by omega)
     clear c25
     by_cases c26 : 0 < ((rd_L3 x5_1 0).length : Int)
     ·rw [if_pos c26] at H
      have c26b0 : decide (0 < ((rd_L3 x5_1 0).length : Int)) = true := decide_eq_true c26
      have c26b1 : decide (0 < (rd_L3 x5_1 0).length) = true := decide_eq_true (by omega)
      clear c26
      obtain ⟨y146, hy146⟩ : ∃ y_ : List Int, y_ = ((rd_L3 x5_1 0).set (0 : Int).toNat 0) := ⟨_, rfl⟩
      replace H : (spec_l9Sum.l2 k1 l1 (x5_1.set (0 : Int).toNat y146) (-1) 0 a0_0 a0_1) = some r := by first | (rw [hy146]; with_reducible exact H) | (have H2_ := (Option.bind_some _ _).symm.trans H; rw [hy146]; with_reducible exact H2_) | (have H2_ := (Option.bind_some _ _).symm.trans H; with_reducible exact H2_) | with_reducible exact H | (rw [hy146]; exact H) | exact H
      have Ny146 := Aside0.mk hy146
      clear hy146
      obtain ⟨y148, hy148⟩ : ∃ y_ : List (List Int), y_ = (x5_1.set (0 : Int).toNat y146) := ⟨_, rfl⟩
      replace H : (spec_l9Sum.l2 k1 l1 y148 (-1) 0 a0_0 a0_1) = some r := by first | (rw [hy148]; with_reducible exact H) | (have H2_ := (Option.bind_some _ _).symm.trans H; rw [hy148]; with_reducible exact H2_) | (have H2_ := (Option.bind_some _ _).symm.trans H; with_reducible exact H2_) | with_reducible exact H | (rw [hy148]; exact H) | exact H
      have Ny148 := Aside0.mk hy148
      clear hy148
      have H' := Aside0.mk H
      clear H
      obtain ⟨Ao28, co28, eo28⟩ := Kd.S_slice HO_5.out
      subst eo28
      have p145 : 0 ≤ (0 : Int) := (by omega)
      have q145 : 0 < (x5_1.length : Int) := of_decide_eq_true (by first | (with_reducible assumption) | assumption)
      obtain ⟨ad145, A145_0, c145_0, e145, hx145_0, hl145_0, hi145_0⟩ := at_L3 (Kd.S_reads' HO_5.out).2.2 0 p145 q145
      cases e145
      obtain ⟨ce145, hce145, hMe145, hcc145⟩ := Kd.S_get HO_5.out [] 0 p145 (by first | exact q145 | exact of_decide_eq_true (by first | (with_reducible assumption) | assumption) | (have e_ := (Kd.S_reads' HO_5.out).1; omega))
      obtain ⟨ve145_0, rfl, ge145_0⟩ := hMe145
      have hv145_0 := hcc145 0 _ rfl
      rw [Nat.add_zero, show ((Kd.slice 3 (Kd.int .i64))).sz = 1 from rfl, Nat.mul_one] at hv145_0
      replace hv145_0 := Option.some.inj (hv145_0.symm.trans hx145_0)
      rw [hv145_0] at ge145_0
      have HL145_0 := Aside0.mk (show Kd.R (Kd.int .i64) 3 _ _ _ _ (rd_L3 x5_1 0) from ge145_0)
      clear hv145_0 ge145_0
      have HX145_0 := Aside0.mk hx145_0
      clear hcc145 hce145
      have qi145 : (0 < x5_1.length) = True := eq_true (by omega)
      (try rw [show ((0 : Int)).toNat = 0 from rfl] at hx145_0)
      (try rw [Addr.add_zero'] at hx145_0)
      have HR145_0 := Aside0.mk hi145_0
      have HC145_0 := Aside0.mk hl145_0
      clear hi145_0 hl145_0
      replace p145 := eq_true p145
      replace q145 := eq_true q145
      have p27 : 0 ≤ (0 : Int) := (by omega)
      have q27 : (0 : Int) < (((rd_L3 x5_1 0).length : Int) : Int) := of_decide_eq_true (by first | (with_reducible assumption) | assumption)
      have qi27 : (0 < (rd_L3 x5_1 0).length) = True := eq_true (by omega)
      obtain ⟨go27, co27, eo27, gb27, gl27, cl27, HG27⟩ := Kd.R_form HL145_0.out (by omega)
      (first | cases eo27 | (injection eo27 with ea_ en_ ec_; (first | subst ea_ | (injection ea_ with ea_; subst ea_)); subst ec_; clear en_))
      have GB27 := Aside0.mk gb27
      have GG27 := Aside0.mk HG27
      clear gb27 gl27 HG27
      obtain ⟨hx27_0, hf27_0⟩ := Kd.R_celln 0 HL145_0.out (0 : Int) p27 q27
      (try rw [show ((0 : Int)).toNat = 0 from rfl] at hx27_0)
      (try simp only [Nat.reduceMul, Nat.zero_mul, Nat.zero_add, Nat.reduceAdd] at hx27_0)
      (try rw [show ((0 : Int)).toNat = 0 from rfl] at hf27_0)
      (try simp only [Nat.reduceMul, Nat.zero_mul, Nat.zero_add, Nat.reduceAdd] at hf27_0)
      replace p27 := eq_true p27
      replace q27 := eq_true q27
      have hq29 : (0 : Int) < (x5_1.length : Int) := (by have h_ : (0 : Int) < ((x5_1.length : Int) : Int) := of_decide_eq_true (by first | (with_reducible assumption) | assumption); first | exact h_ | (have e_ := (Kd.S_reads' HO_5.out).1; omega) | simpa only [List.length_set, List.length_set] using h_)
      obtain ⟨oki29, ce29, hcl29, hM29, hcc29, hok29, hbk29⟩ := Kd.S_borrow HO_5.out [] (0 : Int) (by omega) hq29
      obtain ⟨ve29_0, rfl, ge29_0⟩ := hM29
      have hv29 := hcc29 0 _ rfl
      rw [Nat.add_zero, show ((Kd.slice 3 (Kd.int .i64))).sz = 1 from rfl, Nat.mul_one] at hv29
      replace hv29 := Option.some.inj (hv29.symm.trans HX145_0.out)
      subst hv29
      clear hcc29 hcl29
      replace ge29_0 := (show Kd.R (Kd.int .i64) 3 _ _ _ _ (rd_L3 x5_1 0) from ge29_0)
      have HP29 := Kd.R_putg ge29_0 (0 : Int) 0
      go_wp2_with (first | ((with_reducible refine gate_store (t := 3) (p := 46) rfl ?_); refine store_event (t := 3) (p := 46) (v := ?vo_w30) (w1 := (wr.setCell ⟨go27, 0, none⟩ (.int .i64 0))) ?hg ?ho ?hn ?hr ?_; (case ho => rfl); (case hg => rfl); (case hn => rfl); (case hr => first | (go_simp; done) | (go_simp; rfl)); intro w30 hw; have hg : wr.grownBy w30 (some go27) := (by rw [hw]; exact HP29.2); have hz_ : Kd.R (Kd.int .i64) 3 w30 w.heap.size oki29 (.slice (some ⟨go27, 0, none⟩) (rd_L3 x5_1 0).length c145_0) y146 := (by rw [hw, Ny146.out]; exact HP29.1); have hp_ : Kd.S (Kd.slice 3 (Kd.int .i64)) 24 w30 w.heap.size (fun _ => True) (.slice (some ad145) x5_1.length co28) y148 := (by rw [Ny148.out]; exact hbk29 hg (fun k_ e_ => by injection e_ with e_; subst e_; exact ge29_0.1 _ rfl) (Kd.M_row hz_)); have hm_ := Kd.R_mono hz_ hok29; clear HP29 hbk29; have n0_ := Aside0.mk (hp_); have n1_ := Aside0.mk (blk_grown (g := gb134) (o := .cells #[.int .i64 a0_0, .bool a0_1] 27 (0, 0)) (by (with_reducible repeat (first | refine blk_drewN ?_ _ | refine blk_drew ?_ | refine blk_alloc ?_ _)); exact BK134.out) hg (Kd.R_ne HL145_0.out BK134.out (by decide))); have n2_ := Aside0.mk ((by rw [hw]; exact below_set (HB.out) GB27.out : Below w.heap.size w w30)); have n3_ := Aside0.mk (hm_); have n4_ := Aside0.mk ((Kd.R_reads' hm_).2.1); clear HO_5; clear BK134; clear HB; clear HL145_0; have HO_5 := n0_; have BK134 := n1_; have HB := n2_; have HL169 := n3_; have HC147 := n4_; clear n0_ n1_ n2_ n3_ n4_; clear hg hw hp_ hz_ hm_ hok29))
      go_loopg [9, 10] k1 (fun kq v9 v10 w' => ∃ (x5_2 : List (List Int)) (x9_2 : Int) (x10_2 : Int), v9 = .int .i64 x9_2 ∧ v10 = .int .i64 x10_2 ∧ Aside0 (spec_l9Sum.l2 kq l1 x5_2 x9_2 x10_2 a0_0 a0_1 = some r) ∧ Aside0 (kq ≤ k1) ∧ Aside0 (Kd.S (Kd.slice 3 (Kd.int .i64)) 24 w' w.heap.size (fun _ => True) (.slice (some ad145) x5_1.length co28) x5_2) ∧ Aside0 (w'.heap[gb134]? = some (.cells #[.int .i64 a0_0, .bool a0_1] 27 (0, 0))) ∧ Aside0 (Below w.heap.size w w'))
      case atStart => exact ⟨(y148), ((-1)), (0), (by first | rfl | (simp; done) | (simp [*]; done)), (by first | rfl | (simp; done) | (simp [*]; done)), H', ⟨Nat.le_refl _⟩, ⟨by (with_reducible repeat (first | apply Kd.S_alloc | apply Kd.S_drewN | apply Kd.S_drew)); exact HO_5.out⟩, ⟨by (with_reducible repeat (first | refine blk_drewN ?_ _ | refine blk_drew ?_ | refine blk_alloc ?_ _)); exact BK134.out⟩, ⟨by repeat (first | (with_reducible first | exact HB.out | apply below_alloc | apply pw_below_drewN | apply below_drew1 | refine below_set ?_ GE134.out) | exact HB.out)⟩⟩
      case round =>
       clear H'
       try clear c1
       try clear p1
       try clear q1
       try clear hx1
       try clear qi1
       try clear c2
       try clear p2
       try clear q2
       try clear hx2
       try clear qi2
       try clear hf2
       try clear c5
       try clear p6
       try clear c7
       try clear c7b0
       try clear c9
       try clear c9b0
       try clear c9b1
       try clear c10
       try clear c10b0
       try clear c10b1
       try clear c14
       try clear c14b0
       try clear p14
       try clear q14
       try clear hx14
       try clear qi14
       try clear c15
       try clear c15b0
       try clear c16
       try clear c16b0
       try clear p17
       try clear q17
       try clear hx17
       try clear hf17
       try clear c21
       try clear c25
       try clear c25b0
       try clear c25b1
       try clear c26
       try clear c26b0
       try clear c26b1
       try clear p27
       try clear q27
       try clear hx27
       try clear qi27
       try clear hf27
       try clear c29
       try clear q29
       try clear hcz11_0
       try clear hcz11_1
       try clear hcz18_0
       try clear hcz18_1
       try clear hcz22_0
       try clear hcz22_1
       try clear hfz11_0
       try clear hfz11_1
       try clear hfz18_0
       try clear hfz18_1
       try clear hfz22_0
       try clear hfz22_1
       try clear hx145_0
       try clear hx17_0
       try clear hx27_0
       try clear p145
       try clear p17
       try clear p2
       try clear p27
       try clear p6
       try clear q145
       try clear q17
       try clear q27
       obtain ⟨x5_2, x9_2, x10_2, rfl, rfl, HA, HK2, HO_5, BK134, HB⟩ := hrel
       have hl5_2 := (Kd.S_reads' HO_5.out).1
       rw [hl5_2] at HO_5
       (try simp only [hl5_2])
       (try simp only [hl5_2] at BK134)
       cases gk with
       | zero => exact absurd HA.out (by simp [spec_l9Sum.l2])
       | succ k2 =>
        have H := HA.out
        clear HA
        simp only [spec_l9Sum.l2] at H
        by_cases c31 : x10_2 < (x5_2.length : Int)
        ·rw [if_pos c31] at H
         have c31b0 : decide (x10_2 < (x5_2.length : Int)) = true := decide_eq_true c31
         (try simp only [hl5_2] at c31b0)
         clear c31
         have H' := Aside0.mk H
         clear H
         go_wp2
         go_loopg [9, 11] k2 (fun kq v9 v11 w' => ∃ (x5_3 : List (List Int)) (x9_3 : Int) (x11_3 : Int), v9 = .int .i64 x9_3 ∧ v11 = .int .i64 x11_3 ∧ Aside0 (spec_l9Sum.l3 kq l1 x5_3 x9_3 x10_2 x11_3 a0_0 a0_1 = some r) ∧ Aside0 (kq ≤ k2) ∧ Aside0 (Kd.S (Kd.slice 3 (Kd.int .i64)) 24 w' w.heap.size (fun _ => True) (.slice (some ad145) x5_2.length co28) x5_3) ∧ Aside0 (w'.heap[gb134]? = some (.cells #[.int .i64 a0_0, .bool a0_1] 27 (0, 0))) ∧ Aside0 (Below w.heap.size w w'))
         case atStart => exact ⟨(x5_2), (x9_2), (0), (by first | rfl | (simp; done) | (simp [*]; done)), (by first | rfl | (simp; done) | (simp [*]; done)), H', ⟨Nat.le_refl _⟩, ⟨by (try simp only [hl5_2]); (with_reducible repeat (first | apply Kd.S_alloc | apply Kd.S_drewN | apply Kd.S_drew)); exact HO_5.out⟩, ⟨by (try simp only [hl5_2]); (with_reducible repeat (first | refine blk_drewN ?_ _ | refine blk_drew ?_ | refine blk_alloc ?_ _)); exact BK134.out⟩, ⟨by repeat (first | (with_reducible first | exact HB.out | apply below_alloc | apply pw_below_drewN | apply below_drew1 | refine below_set ?_ GE134.out) | exact HB.out)⟩⟩
         case round =>
          clear H'
          try clear c1
          try clear p1
          try clear q1
          try clear hx1
          try clear qi1
          try clear c2
          try clear p2
          try clear q2
          try clear hx2
          try clear qi2
          try clear hf2
          try clear c3
          try clear c5
          try clear p6
          try clear c7
          try clear c7b0
          try clear c9
          try clear c9b0
          try clear c9b1
          try clear c10
          try clear c10b0
          try clear c10b1
          try clear c14
          try clear c14b0
          try clear p14
          try clear q14
          try clear hx14
          try clear qi14
          try clear c15
          try clear c15b0
          try clear c16
          try clear c16b0
          try clear p17
          try clear q17
          try clear hx17
          try clear hf17
          try clear c21
          try clear c25
          try clear c25b0
          try clear c25b1
          try clear c26
          try clear c26b0
          try clear c26b1
          try clear p27
          try clear q27
          try clear hx27
          try clear qi27
          try clear hf27
          try clear c29
          try clear q29
          try clear c31
          try clear c31b0
          try clear hcz11_0
          try clear hcz11_1
          try clear hcz18_0
          try clear hcz18_1
          try clear hcz22_0
          try clear hcz22_1
          try clear hfz11_0
          try clear hfz11_1
          try clear hfz18_0
          try clear hfz18_1
          try clear hfz22_0
          try clear hfz22_1
          try clear hx145_0
          try clear hx17_0
          try clear hx27_0
          try clear p1
          try clear p14
          try clear p145
          try clear p17
          try clear p2
          try clear p27
          try clear p6
          try clear q1
          try clear q14
          try clear q145
          try clear q17
          try clear q2
          try clear q27
          try clear q29
          obtain ⟨x5_3, x9_3, x11_3, rfl, rfl, HA, HK3, HO_5, BK134, HB⟩ := hrel
          have hl5_3 := (Kd.S_reads' HO_5.out).1
          rw [hl5_3] at HO_5
          (try simp only [hl5_3])
          (try simp only [hl5_3] at BK134)
          cases gk with
          | zero => exact absurd HA.out (by simp [spec_l9Sum.l3])
          | succ k3 =>
           have H := HA.out
           clear HA
           simp only [spec_l9Sum.l3] at H
           by_cases c32 : x11_3 ≤ a0_0
           ·rw [if_pos c32] at H
            have c32b0 : decide (x11_3 ≤ a0_0) = true := decide_eq_true c32
            clear c32
            by_cases c33 : 0 ≤ x10_2
            ·rw [if_pos c33] at H
             have c33b0 : decide (0 ≤ x10_2) = true := decide_eq_true c33
             clear c33
             by_cases c34 : x10_2 < (x5_3.length : Int)
             ·rw [if_pos c34] at H
              have c34b0 : decide (x10_2 < (x5_3.length : Int)) = true := decide_eq_true c34
              (try simp only [hl5_2, hl5_3] at c34b0)
              clear c34
              by_cases c35 : 0 ≤ x11_3
              ·rw [if_pos c35] at H
               have c35b0 : decide (0 ≤ x11_3) = true := decide_eq_true c35
               clear c35
               by_cases c36 : x11_3 < ((rd_L3 x5_3 x10_2).length : Int)
               ·rw [if_pos c36] at H
                have c36b0 : decide (x11_3 < ((rd_L3 x5_3 x10_2).length : Int)) = true := decide_eq_true c36
                (try simp only [hl5_2, hl5_3] at c36b0)
                clear c36
                by_cases c37 : (rd (rd_L3 x5_3 x10_2) x11_3) < 0
                ·rw [if_pos c37] at H
                 have c37b0 : decide ((rd (rd_L3 x5_3 x10_2) x11_3) < 0) = true := decide_eq_true c37
                 clear c37
                 have H' := Aside0.mk H
                 clear H
                 have hcz38_0 : wr.cell? ⟨gb134, 0, none⟩ = some (.int .i64 a0_0) := (blk_cell BK134.out 0).trans rfl
                 have hcz38_1 : wr.cell? ⟨gb134, 1, none⟩ = some (.bool a0_1) := (blk_cell BK134.out 1).trans rfl
                 have hfz38_0 := blk_frozen BK134.out 0
                 have hfz38_1 := blk_frozen BK134.out 1
                 have p149 : 0 ≤ (x10_2 : Int) := of_decide_eq_true (by first | (with_reducible assumption) | assumption)
                 have q149 : x10_2 < (x5_3.length : Int) := of_decide_eq_true (by first | (with_reducible assumption) | assumption)
                 obtain ⟨ad149, A149_0, c149_0, e149, hx149_0, hl149_0, hi149_0⟩ := at_L3 (Kd.S_reads' HO_5.out).2.2 x10_2 p149 q149
                 obtain rfl : ad145 = ad149 := (by injection e149)
                 obtain ⟨ce149, hce149, hMe149, hcc149⟩ := Kd.S_get HO_5.out [] x10_2 p149 (by first | exact q149 | exact of_decide_eq_true (by first | (with_reducible assumption) | assumption) | (have e_ := (Kd.S_reads' HO_5.out).1; omega))
                 obtain ⟨ve149_0, rfl, ge149_0⟩ := hMe149
                 have hv149_0 := hcc149 0 _ rfl
                 rw [Nat.add_zero, show ((Kd.slice 3 (Kd.int .i64))).sz = 1 from rfl, Nat.mul_one] at hv149_0
                 replace hv149_0 := Option.some.inj (hv149_0.symm.trans hx149_0)
                 rw [hv149_0] at ge149_0
                 have HL149_0 := Aside0.mk (show Kd.R (Kd.int .i64) 3 _ _ _ _ (rd_L3 x5_3 x10_2) from ge149_0)
                 clear hv149_0 ge149_0
                 have HX149_0 := Aside0.mk hx149_0
                 clear hcc149 hce149
                 have HR149_0 := Aside0.mk hi149_0
                 have HC149_0 := Aside0.mk hl149_0
                 clear hi149_0 hl149_0
                 replace p149 := eq_true p149
                 replace q149 := eq_true q149
                 have p150 : 0 ≤ (x11_3 : Int) := of_decide_eq_true (by first | (with_reducible assumption) | assumption)
                 have q150 : x11_3 < ((rd_L3 x5_3 x10_2).length : Int) := of_decide_eq_true (by first | (with_reducible assumption) | assumption)
                 obtain ⟨ad150, e150, hx150_0⟩ := Kd.at_int (by repeat (first | (with_reducible exact HR149_0.out) | (with_reducible refine Kd.C_alloc ?_ _) | (with_reducible refine Kd.C_drewN ?_ _) | (with_reducible refine Kd.C_drew ?_) | exact HR149_0.out)) x11_3 p150 q150
                 cases e150
                 replace p150 := eq_true p150
                 replace q150 := eq_true q150
                 go_wp2
                 (try simp only [← hl5_3])
                 go_roundg k3
                 case measure => have := HK1.out; have := HK2.out; have := HK3.out; omega
                 case rel => exact ⟨(x5_3), (x9_3), (wrap64 (x11_3 + 1)), (by first | rfl | (simp; done) | (simp [*]; done)), (by first | rfl | (simp; done) | (simp [*]; done)), H', ⟨by have := HK1.out; have := HK2.out; have := HK3.out; omega⟩, ⟨by (try simp only [hl5_2]); (try simp only [hl5_3]); (with_reducible repeat (first | apply Kd.S_alloc | apply Kd.S_drewN | apply Kd.S_drew)); exact HO_5.out⟩, ⟨by (try simp only [hl5_2]); (try simp only [hl5_3]); (with_reducible repeat (first | refine blk_drewN ?_ _ | refine blk_drew ?_ | refine blk_alloc ?_ _)); exact BK134.out⟩, ⟨by repeat (first | (with_reducible first | exact HB.out | apply below_alloc | apply pw_below_drewN | apply below_drew1 | refine below_set ?_ GE134.out) | exact HB.out)⟩⟩
                ·rw [if_neg c37] at H
                 have c37b0 : decide ((rd (rd_L3 x5_3 x10_2) x11_3) < 0) = false := decide_eq_false c37
                 clear c37
                 have HC39 := Aside0.mk H
                 clear H
                 have hcz40_0 : wr.cell? ⟨gb134, 0, none⟩ = some (.int .i64 a0_0) := (blk_cell BK134.out 0).trans rfl
                 have hcz40_1 : wr.cell? ⟨gb134, 1, none⟩ = some (.bool a0_1) := (blk_cell BK134.out 1).trans rfl
                 have hfz40_0 := blk_frozen BK134.out 0
                 have hfz40_1 := blk_frozen BK134.out 1
                 have p149 : 0 ≤ (x10_2 : Int) := of_decide_eq_true (by first | (with_reducible assumption) | assumption)
                 have q149 : x10_2 < (x5_3.length : Int) := of_decide_eq_true (by first | (with_reducible assumption) | assumption)
                 obtain ⟨ad149, A149_0, c149_0, e149, hx149_0, hl149_0, hi149_0⟩ := at_L3 (Kd.S_reads' HO_5.out).2.2 x10_2 p149 q149
                 obtain rfl : ad145 = ad149 := (by injection e149)
                 obtain ⟨ce149, hce149, hMe149, hcc149⟩ := Kd.S_get HO_5.out [] x10_2 p149 (by first | exact q149 | exact of_decide_eq_true (by first | (with_reducible assumption) | assumption) | (have e_ := (Kd.S_reads' HO_5.out).1; omega))
                 obtain ⟨ve149_0, rfl, ge149_0⟩ := hMe149
                 have hv149_0 := hcc149 0 _ rfl
                 rw [Nat.add_zero, show ((Kd.slice 3 (Kd.int .i64))).sz = 1 from rfl, Nat.mul_one] at hv149_0
                 replace hv149_0 := Option.some.inj (hv149_0.symm.trans hx149_0)
                 rw [hv149_0] at ge149_0
                 have HL149_0 := Aside0.mk (show Kd.R (Kd.int .i64) 3 _ _ _ _ (rd_L3 x5_3 x10_2) from ge149_0)
                 clear hv149_0 ge149_0
                 have HX149_0 := Aside0.mk hx149_0
                 clear hcc149 hce149
                 have HR149_0 := Aside0.mk hi149_0
                 have HC149_0 := Aside0.mk hl149_0
                 clear hi149_0 hl149_0
                 replace p149 := eq_true p149
                 replace q149 := eq_true q149
                 have p150 : 0 ≤ (x11_3 : Int) := of_decide_eq_true (by first | (with_reducible assumption) | assumption)
                 have q150 : x11_3 < ((rd_L3 x5_3 x10_2).length : Int) := of_decide_eq_true (by first | (with_reducible assumption) | assumption)
                 obtain ⟨ad150, e150, hx150_0⟩ := Kd.at_int (by repeat (first | (with_reducible exact HR149_0.out) | (with_reducible refine Kd.C_alloc ?_ _) | (with_reducible refine Kd.C_drewN ?_ _) | (with_reducible refine Kd.C_drew ?_) | exact HR149_0.out)) x11_3 p150 q150
                 cases e150
                 replace p150 := eq_true p150
                 replace q150 := eq_true q150
                 go_upto_region 21 with (fail)
                 go_cut [80] (fun v80 wc => ∃ (kq : Nat) (x80_38 : Bool), v80 = .bool x80_38 ∧ Aside0 (spec_l9Sum.j4 kq l1 x5_3 x9_3 x10_2 x11_3 (rd (rd_L3 x5_3 x10_2) x11_3) x80_38 a0_0 a0_1 = some r) ∧ Aside0 (kq ≤ k3) ∧ Aside0 (Kd.S (Kd.slice 3 (Kd.int .i64)) 24 wc w.heap.size (fun _ => True) (.slice (some ad145) x5_3.length co28) x5_3) ∧ Aside0 (wc.heap[gb134]? = some (.cells #[.int .i64 a0_0, .bool a0_1] 27 (0, 0))) ∧ Aside0 (Kd.C (Kd.int .i64) wc (some ad150) (rd_L3 x5_3 x10_2).length (rd_L3 x5_3 x10_2)) ∧ Aside0 (Below w.heap.size w wc))
                 case first =>
                  have H := HC39.out
                  clear HC39
                  by_cases c41 : x11_3 = a0_0
                  ·rw [if_pos c41] at H
                   have c41b0 : (x11_3 == a0_0) = true := beq_iff_eq.mpr c41
                   have c41b1 : (x11_3 != a0_0) = false := bne_eq_false_iff_eq.mpr c41
                   clear c41
                   (first | rw [c41b0] | (simp only [i64_w, i32_w]; rw [c41b0]) | skip)
                   by_cases c42 : x9_3 < 0
                   ·rw [if_pos c42] at H
                    have c42b0 : decide (x9_3 < 0) = true := decide_eq_true c42
                    clear c42
                    have H' := Aside0.mk H
                    clear H
                    have hcz43_0 : wr.cell? ⟨gb134, 0, none⟩ = some (.int .i64 a0_0) := (blk_cell BK134.out 0).trans rfl
                    have hcz43_1 : wr.cell? ⟨gb134, 1, none⟩ = some (.bool a0_1) := (blk_cell BK134.out 1).trans rfl
                    have hfz43_0 := blk_frozen BK134.out 0
                    have hfz43_1 := blk_frozen BK134.out 1
                    go_wp2
                    go_meet
                    case rel => exact ⟨_, (true), (by first | rfl | (simp; done) | (simp [*]; done)), H', ⟨by have := HK1.out; have := HK2.out; have := HK3.out; first | omega | exact Nat.le_refl _⟩, ⟨by (try simp only [hl5_2]); (try simp only [hl5_3]); (with_reducible repeat (first | apply Kd.S_alloc | apply Kd.S_drewN | apply Kd.S_drew)); exact HO_5.out⟩, ⟨by (try simp only [hl5_2]); (try simp only [hl5_3]); (with_reducible repeat (first | refine blk_drewN ?_ _ | refine blk_drew ?_ | refine blk_alloc ?_ _)); exact BK134.out⟩, ⟨by repeat (first | (with_reducible exact HR149_0.out) | (with_reducible refine Kd.C_alloc ?_ _) | (with_reducible refine Kd.C_drewN ?_ _) | (with_reducible refine Kd.C_drew ?_) | exact HR149_0.out)⟩, ⟨by repeat (first | (with_reducible first | exact HB.out | apply below_alloc | apply pw_below_drewN | apply below_drew1 | refine below_set ?_ GE134.out) | exact HB.out)⟩⟩
                   ·rw [if_neg c42] at H
                    have c42b0 : decide (x9_3 < 0) = false := decide_eq_false c42
                    clear c42
                    have H' := Aside0.mk H
                    clear H
                    have hcz44_0 : wr.cell? ⟨gb134, 0, none⟩ = some (.int .i64 a0_0) := (blk_cell BK134.out 0).trans rfl
                    have hcz44_1 : wr.cell? ⟨gb134, 1, none⟩ = some (.bool a0_1) := (blk_cell BK134.out 1).trans rfl
                    have hfz44_0 := blk_frozen BK134.out 0
                    have hfz44_1 := blk_frozen BK134.out 1
                    go_wp2
                    go_meet
                    case rel => exact ⟨_, (decide ((rd (rd_L3 x5_3 x10_2) x11_3) < x9_3)), (by first | rfl | (simp; done) | (simp [*]; done)), H', ⟨by have := HK1.out; have := HK2.out; have := HK3.out; first | omega | exact Nat.le_refl _⟩, ⟨by (try simp only [hl5_2]); (try simp only [hl5_3]); (with_reducible repeat (first | apply Kd.S_alloc | apply Kd.S_drewN | apply Kd.S_drew)); exact HO_5.out⟩, ⟨by (try simp only [hl5_2]); (try simp only [hl5_3]); (with_reducible repeat (first | refine blk_drewN ?_ _ | refine blk_drew ?_ | refine blk_alloc ?_ _)); exact BK134.out⟩, ⟨by repeat (first | (with_reducible exact HR149_0.out) | (with_reducible refine Kd.C_alloc ?_ _) | (with_reducible refine Kd.C_drewN ?_ _) | (with_reducible refine Kd.C_drew ?_) | exact HR149_0.out)⟩, ⟨by repeat (first | (with_reducible first | exact HB.out | apply below_alloc | apply pw_below_drewN | apply below_drew1 | refine below_set ?_ GE134.out) | exact HB.out)⟩⟩
                  ·rw [if_neg c41] at H
                   have c41b0 : (x11_3 == a0_0) = false := beq_eq_false_iff_ne.mpr c41
                   have c41b1 : (x11_3 != a0_0) = true := bne_iff_ne.mpr c41
                   (first | rw [c41b0] | (simp only [i64_w, i32_w]; rw [c41b0]) | skip)
                   have H' := Aside0.mk H
                   clear H
                   have hcz45_0 : wr.cell? ⟨gb134, 0, none⟩ = some (.int .i64 a0_0) := (blk_cell BK134.out 0).trans rfl
                   have hcz45_1 : wr.cell? ⟨gb134, 1, none⟩ = some (.bool a0_1) := (blk_cell BK134.out 1).trans rfl
                   have hfz45_0 := blk_frozen BK134.out 0
                   have hfz45_1 := blk_frozen BK134.out 1
                   go_wp2
                   go_meet
                   case rel => exact ⟨_, (false), (by first | rfl | (simp; done) | (simp [*]; done)), H', ⟨by have := HK1.out; have := HK2.out; have := HK3.out; first | omega | exact Nat.le_refl _⟩, ⟨by (try simp only [hl5_2]); (try simp only [hl5_3]); (with_reducible repeat (first | apply Kd.S_alloc | apply Kd.S_drewN | apply Kd.S_drew)); exact HO_5.out⟩, ⟨by (try simp only [hl5_2]); (try simp only [hl5_3]); (with_reducible repeat (first | refine blk_drewN ?_ _ | refine blk_drew ?_ | refine blk_alloc ?_ _)); exact BK134.out⟩, ⟨by repeat (first | (with_reducible exact HR149_0.out) | (with_reducible refine Kd.C_alloc ?_ _) | (with_reducible refine Kd.C_drewN ?_ _) | (with_reducible refine Kd.C_drew ?_) | exact HR149_0.out)⟩, ⟨by repeat (first | (with_reducible first | exact HB.out | apply below_alloc | apply pw_below_drewN | apply below_drew1 | refine below_set ?_ GE134.out) | exact HB.out)⟩⟩
                 case rest =>
                  clear HC39
                  try clear c1
                  try clear p1
                  try clear q1
                  try clear hx1
                  try clear qi1
                  try clear c2
                  try clear p2
                  try clear q2
                  try clear hx2
                  try clear qi2
                  try clear hf2
                  try clear c3
                  try clear c4
                  try clear c5
                  try clear p6
                  try clear c7
                  try clear c7b0
                  try clear c9
                  try clear c9b0
                  try clear c9b1
                  try clear c10
                  try clear c10b0
                  try clear c10b1
                  try clear c14
                  try clear c14b0
                  try clear p14
                  try clear q14
                  try clear hx14
                  try clear qi14
                  try clear c15
                  try clear c15b0
                  try clear p15
                  try clear q15
                  try clear hx15
                  try clear c16
                  try clear c16b0
                  try clear p17
                  try clear q17
                  try clear hx17
                  try clear hf17
                  try clear c21
                  try clear c25
                  try clear c25b0
                  try clear c25b1
                  try clear c26
                  try clear c26b0
                  try clear c26b1
                  try clear p27
                  try clear q27
                  try clear hx27
                  try clear qi27
                  try clear hf27
                  try clear c29
                  try clear q29
                  try clear c31
                  try clear c31b0
                  try clear c32
                  try clear c32b0
                  try clear c33
                  try clear c33b0
                  try clear c34
                  try clear c34b0
                  try clear c35
                  try clear c35b0
                  try clear c36
                  try clear c36b0
                  try clear c37
                  try clear c37b0
                  try clear c41
                  try clear c41b0
                  try clear c41b1
                  try clear c42
                  try clear c42b0
                  try clear hcz11_0
                  try clear hcz11_1
                  try clear hcz18_0
                  try clear hcz18_1
                  try clear hcz22_0
                  try clear hcz22_1
                  try clear hcz38_0
                  try clear hcz38_1
                  try clear hcz40_0
                  try clear hcz40_1
                  try clear hcz43_0
                  try clear hcz43_1
                  try clear hcz44_0
                  try clear hcz44_1
                  try clear hcz45_0
                  try clear hcz45_1
                  try clear hfz11_0
                  try clear hfz11_1
                  try clear hfz18_0
                  try clear hfz18_1
                  try clear hfz22_0
                  try clear hfz22_1
                  try clear hfz38_0
                  try clear hfz38_1
                  try clear hfz40_0
                  try clear hfz40_1
                  try clear hfz43_0
                  try clear hfz43_1
                  try clear hfz44_0
                  try clear hfz44_1
                  try clear hfz45_0
                  try clear hfz45_1
                  try clear hx145_0
                  try clear hx149_0
                  try clear hx150_0
                  try clear hx17_0
                  try clear hx27_0
                  try clear p1
                  try clear p14
                  try clear p145
                  try clear p149
                  try clear p150
                  try clear p17
                  try clear p2
                  try clear p27
                  try clear p6
                  try clear q1
                  try clear q14
                  try clear q145
                  try clear q149
                  try clear q150
                  try clear q17
                  try clear q2
                  try clear q27
                  try clear q29
                  obtain ⟨kq, x80_38, rfl, HA, HJ38, HO_5, BK134, HR149_0, HB⟩ := hcut
                  cases kq with
                  | zero => exact absurd HA.out (by simp [spec_l9Sum.j4])
                  | succ kj38 =>
                   have H := HA.out
                   clear HA
                   simp only [spec_l9Sum.j4] at H
                   have HC46 := Aside0.mk H
                   clear H
                   go_upto_if 80 with (fail)
                   go_cut [9] (fun v9 wc => ∃ (kq : Nat) (x9_45 : Int), v9 = .int .i64 x9_45 ∧ Aside0 (spec_l9Sum.j5 kq l1 x5_3 x9_45 x10_2 x11_3 (rd (rd_L3 x5_3 x10_2) x11_3) a0_0 a0_1 = some r) ∧ Aside0 (kq ≤ kj38) ∧ Aside0 (Kd.S (Kd.slice 3 (Kd.int .i64)) 24 wc w.heap.size (fun _ => True) (.slice (some ad145) x5_3.length co28) x5_3) ∧ Aside0 (wc.heap[gb134]? = some (.cells #[.int .i64 a0_0, .bool a0_1] 27 (0, 0))) ∧ Aside0 (Kd.C (Kd.int .i64) wc (some ad150) (rd_L3 x5_3 x10_2).length (rd_L3 x5_3 x10_2)) ∧ Aside0 (Below w.heap.size w wc))
                   case first =>
                    have H := HC46.out
                    clear HC46
                    by_cases c47 : x80_38 = true
                    ·subst c47
                     have H1 : (spec_l9Sum.j5 kj38 l1 x5_3 (rd (rd_L3 x5_3 x10_2) x11_3) x10_2 x11_3 (rd (rd_L3 x5_3 x10_2) x11_3) a0_0 a0_1) = some r := by rw [if_pos rfl] at H; exact H
                     clear H
                     have H := H1
                     clear H1
                     have H' := Aside0.mk H
                     clear H
                     go_wp2
                     go_meet
                     case rel => exact ⟨_, ((rd (rd_L3 x5_3 x10_2) x11_3)), (by first | rfl | (simp; done) | (simp [*]; done)), H', ⟨by have := HK1.out; have := HK2.out; have := HK3.out; have := HJ38.out; first | omega | exact Nat.le_refl _⟩, ⟨by (try simp only [hl5_2]); (try simp only [hl5_3]); (with_reducible repeat (first | apply Kd.S_alloc | apply Kd.S_drewN | apply Kd.S_drew)); exact HO_5.out⟩, ⟨by (try simp only [hl5_2]); (try simp only [hl5_3]); (with_reducible repeat (first | refine blk_drewN ?_ _ | refine blk_drew ?_ | refine blk_alloc ?_ _)); exact BK134.out⟩, ⟨by repeat (first | (with_reducible exact HR149_0.out) | (with_reducible refine Kd.C_alloc ?_ _) | (with_reducible refine Kd.C_drewN ?_ _) | (with_reducible refine Kd.C_drew ?_) | exact HR149_0.out)⟩, ⟨by repeat (first | (with_reducible first | exact HB.out | apply below_alloc | apply pw_below_drewN | apply below_drew1 | refine below_set ?_ GE134.out) | exact HB.out)⟩⟩
                    ·replace c47 := Bool.eq_false_iff.mpr c47
                     subst c47
                     have H1 : (spec_l9Sum.j5 kj38 l1 x5_3 x9_3 x10_2 x11_3 (rd (rd_L3 x5_3 x10_2) x11_3) a0_0 a0_1) = some r := by rw [if_neg (show ¬ (false = true) by decide)] at H; exact H
                     clear H
                     have H := H1
                     clear H1
                     have H' := Aside0.mk H
                     clear H
                     go_wp2
                     go_meet
                     case rel => exact ⟨_, (x9_3), (by first | rfl | (simp; done) | (simp [*]; done)), H', ⟨by have := HK1.out; have := HK2.out; have := HK3.out; have := HJ38.out; first | omega | exact Nat.le_refl _⟩, ⟨by (try simp only [hl5_2]); (try simp only [hl5_3]); (with_reducible repeat (first | apply Kd.S_alloc | apply Kd.S_drewN | apply Kd.S_drew)); exact HO_5.out⟩, ⟨by (try simp only [hl5_2]); (try simp only [hl5_3]); (with_reducible repeat (first | refine blk_drewN ?_ _ | refine blk_drew ?_ | refine blk_alloc ?_ _)); exact BK134.out⟩, ⟨by repeat (first | (with_reducible exact HR149_0.out) | (with_reducible refine Kd.C_alloc ?_ _) | (with_reducible refine Kd.C_drewN ?_ _) | (with_reducible refine Kd.C_drew ?_) | exact HR149_0.out)⟩, ⟨by repeat (first | (with_reducible first | exact HB.out | apply below_alloc | apply pw_below_drewN | apply below_drew1 | refine below_set ?_ GE134.out) | exact HB.out)⟩⟩
                   case rest =>
                    clear HC46
                    try clear c1
                    try clear p1
                    try clear q1
                    try clear hx1
                    try clear qi1
                    try clear c2
                    try clear p2
                    try clear q2
                    try clear hx2
                    try clear qi2
                    try clear hf2
                    try clear c3
                    try clear c4
                    try clear c5
                    try clear p6
                    try clear c7
                    try clear c7b0
                    try clear c9
                    try clear c9b0
                    try clear c9b1
                    try clear c10
                    try clear c10b0
                    try clear c10b1
                    try clear c14
                    try clear c14b0
                    try clear p14
                    try clear q14
                    try clear hx14
                    try clear qi14
                    try clear c15
                    try clear c15b0
                    try clear p15
                    try clear q15
                    try clear hx15
                    try clear c16
                    try clear c16b0
                    try clear p17
                    try clear q17
                    try clear hx17
                    try clear hf17
                    try clear c21
                    try clear c25
                    try clear c25b0
                    try clear c25b1
                    try clear c26
                    try clear c26b0
                    try clear c26b1
                    try clear p27
                    try clear q27
                    try clear hx27
                    try clear qi27
                    try clear hf27
                    try clear c29
                    try clear q29
                    try clear c31
                    try clear c31b0
                    try clear c32
                    try clear c32b0
                    try clear c33
                    try clear c33b0
                    try clear c34
                    try clear c34b0
                    try clear c35
                    try clear c35b0
                    try clear c36
                    try clear c36b0
                    try clear c37
                    try clear c37b0
                    try clear c41
                    try clear c41b0
                    try clear c41b1
                    try clear c42
                    try clear c42b0
                    try clear c47
                    try clear hcz11_0
                    try clear hcz11_1
                    try clear hcz18_0
                    try clear hcz18_1
                    try clear hcz22_0
                    try clear hcz22_1
                    try clear hcz38_0
                    try clear hcz38_1
                    try clear hcz40_0
                    try clear hcz40_1
                    try clear hcz43_0
                    try clear hcz43_1
                    try clear hcz44_0
                    try clear hcz44_1
                    try clear hcz45_0
                    try clear hcz45_1
                    try clear hfz11_0
                    try clear hfz11_1
                    try clear hfz18_0
                    try clear hfz18_1
                    try clear hfz22_0
                    try clear hfz22_1
                    try clear hfz38_0
                    try clear hfz38_1
                    try clear hfz40_0
                    try clear hfz40_1
                    try clear hfz43_0
                    try clear hfz43_1
                    try clear hfz44_0
                    try clear hfz44_1
                    try clear hfz45_0
                    try clear hfz45_1
                    try clear hx145_0
                    try clear hx149_0
                    try clear hx150_0
                    try clear hx17_0
                    try clear hx27_0
                    try clear p1
                    try clear p14
                    try clear p145
                    try clear p149
                    try clear p15
                    try clear p150
                    try clear p17
                    try clear p2
                    try clear p27
                    try clear p6
                    try clear q1
                    try clear q14
                    try clear q145
                    try clear q149
                    try clear q15
                    try clear q150
                    try clear q17
                    try clear q2
                    try clear q27
                    try clear q29
                    obtain ⟨kq, x9_45, rfl, HA, HJ45, HO_5, BK134, HR149_0, HB⟩ := hcut
                    cases kq with
                    | zero => exact absurd HA.out (by simp [spec_l9Sum.j5])
                    | succ kj45 =>
                     have H := HA.out
                     clear HA
                     simp only [spec_l9Sum.j5] at H
                     have H' := Aside0.mk H
                     clear H
                     go_wp2
                     go_loopg [13] kj45 (fun kq v13 w' => ∃ (x5_6 : List (List Int)) (x13_6 : Int), v13 = .int .i64 x13_6 ∧ Aside0 (spec_l9Sum.l4 kq l1 x5_6 x9_45 x10_2 x11_3 (rd (rd_L3 x5_3 x10_2) x11_3) x13_6 a0_0 a0_1 = some r) ∧ Aside0 (kq ≤ kj45) ∧ Aside0 (Kd.S (Kd.slice 3 (Kd.int .i64)) 24 w' w.heap.size (fun _ => True) (.slice (some ad145) x5_3.length co28) x5_6) ∧ Aside0 (w'.heap[gb134]? = some (.cells #[.int .i64 a0_0, .bool a0_1] 27 (0, 0))) ∧ Aside0 (Below w.heap.size w w'))
                     case atStart => exact ⟨(x5_3), (0), (by first | rfl | (simp; done) | (simp [*]; done)), H', ⟨Nat.le_refl _⟩, ⟨by (try simp only [hl5_2]); (try simp only [hl5_3]); (with_reducible repeat (first | apply Kd.S_alloc | apply Kd.S_drewN | apply Kd.S_drew)); exact HO_5.out⟩, ⟨by (try simp only [hl5_2]); (try simp only [hl5_3]); (with_reducible repeat (first | refine blk_drewN ?_ _ | refine blk_drew ?_ | refine blk_alloc ?_ _)); exact BK134.out⟩, ⟨by repeat (first | (with_reducible first | exact HB.out | apply below_alloc | apply pw_below_drewN | apply below_drew1 | refine below_set ?_ GE134.out) | exact HB.out)⟩⟩
                     case round =>
                      clear H'
                      try clear c1
                      try clear p1
                      try clear q1
                      try clear hx1
                      try clear qi1
                      try clear c2
                      try clear p2
                      try clear q2
                      try clear hx2
                      try clear qi2
                      try clear hf2
                      try clear c3
                      try clear c4
                      try clear c5
                      try clear p6
                      try clear c7
                      try clear c7b0
                      try clear c9
                      try clear c9b0
                      try clear c9b1
                      try clear c10
                      try clear c10b0
                      try clear c10b1
                      try clear c14
                      try clear c14b0
                      try clear p14
                      try clear q14
                      try clear hx14
                      try clear qi14
                      try clear c15
                      try clear c15b0
                      try clear p15
                      try clear q15
                      try clear hx15
                      try clear c16
                      try clear c16b0
                      try clear p17
                      try clear q17
                      try clear hx17
                      try clear hf17
                      try clear c21
                      try clear c25
                      try clear c25b0
                      try clear c25b1
                      try clear c26
                      try clear c26b0
                      try clear c26b1
                      try clear p27
                      try clear q27
                      try clear hx27
                      try clear qi27
                      try clear hf27
                      try clear c29
                      try clear q29
                      try clear c31
                      try clear c31b0
                      try clear c32
                      try clear c32b0
                      try clear c33
                      try clear c33b0
                      try clear c34
                      try clear c34b0
                      try clear c35
                      try clear c35b0
                      try clear c36
                      try clear c36b0
                      try clear c37
                      try clear c37b0
                      try clear c41
                      try clear c41b0
                      try clear c41b1
                      try clear c42
                      try clear c42b0
                      try clear c47
                      try clear hcz11_0
                      try clear hcz11_1
                      try clear hcz18_0
                      try clear hcz18_1
                      try clear hcz22_0
                      try clear hcz22_1
                      try clear hcz38_0
                      try clear hcz38_1
                      try clear hcz40_0
                      try clear hcz40_1
                      try clear hcz43_0
                      try clear hcz43_1
                      try clear hcz44_0
                      try clear hcz44_1
                      try clear hcz45_0
                      try clear hcz45_1
                      try clear hfz11_0
                      try clear hfz11_1
                      try clear hfz18_0
                      try clear hfz18_1
                      try clear hfz22_0
                      try clear hfz22_1
                      try clear hfz38_0
                      try clear hfz38_1
                      try clear hfz40_0
                      try clear hfz40_1
                      try clear hfz43_0
                      try clear hfz43_1
                      try clear hfz44_0
                      try clear hfz44_1
                      try clear hfz45_0
                      try clear hfz45_1
                      try clear hx145_0
                      try clear hx149_0
                      try clear hx150_0
                      try clear hx17_0
                      try clear hx27_0
                      try clear p1
                      try clear p14
                      try clear p145
                      try clear p149
                      try clear p15
                      try clear p150
                      try clear p17
                      try clear p2
                      try clear p27
                      try clear p6
                      try clear q1
                      try clear q14
                      try clear q145
                      try clear q149
                      try clear q15
                      try clear q150
                      try clear q17
                      try clear q2
                      try clear q27
                      try clear q29
                      obtain ⟨x5_6, x13_6, rfl, HA, HK6, HO_5, BK134, HB⟩ := hrel
                      have hl5_6 := (Kd.S_reads' HO_5.out).1
                      rw [hl5_6] at HO_5
                      (try simp only [hl5_6])
                      (try simp only [hl5_6] at BK134)
                      cases gk with
                      | zero => exact absurd HA.out (by simp [spec_l9Sum.l4])
                      | succ k6 =>
                       have H := HA.out
                       clear HA
                       simp only [spec_l9Sum.l4] at H
                       have HC48 := Aside0.mk H
                       clear H
                       go_upto_region 24 with (fail)
                       go_cut [91] (fun v91 wc => ∃ (kq : Nat) (x91_47 : Bool), v91 = .bool x91_47 ∧ Aside0 (spec_l9Sum.j7 kq l1 x5_6 x9_45 x10_2 x11_3 (rd (rd_L3 x5_3 x10_2) x11_3) x13_6 x91_47 a0_0 a0_1 = some r) ∧ Aside0 (kq ≤ k6) ∧ Aside0 (Kd.S (Kd.slice 3 (Kd.int .i64)) 24 wc w.heap.size (fun _ => True) (.slice (some ad145) x5_6.length co28) x5_6) ∧ Aside0 (wc.heap[gb134]? = some (.cells #[.int .i64 a0_0, .bool a0_1] 27 (0, 0))) ∧ Aside0 (Below w.heap.size w wc))
                       case first =>
                        have H := HC48.out
                        clear HC48
                        by_cases c49 : x13_6 < (l1.length : Int)
                        ·rw [if_pos c49] at H
                         have c49b0 : decide (x13_6 < (l1.length : Int)) = true := decide_eq_true c49
                         (try simp only [hl5_2, hl5_3, hl5_6] at c49b0)
                         clear c49
                         (first | rw [c49b0] | (simp only [i64_w, i32_w]; rw [c49b0]) | skip)
                         have H' := Aside0.mk H
                         clear H
                         have hcz50_0 : wr.cell? ⟨gb134, 0, none⟩ = some (.int .i64 a0_0) := (blk_cell BK134.out 0).trans rfl
                         have hcz50_1 : wr.cell? ⟨gb134, 1, none⟩ = some (.bool a0_1) := (blk_cell BK134.out 1).trans rfl
                         have hfz50_0 := blk_frozen BK134.out 0
                         have hfz50_1 := blk_frozen BK134.out 1
                         go_wp2
                         go_meet
                         case rel => exact ⟨_, (decide (x11_3 < a0_0)), (by first | rfl | (simp; done) | (simp [*]; done)), H', ⟨by have := HK1.out; have := HK2.out; have := HK3.out; have := HJ38.out; have := HJ45.out; have := HK6.out; first | omega | exact Nat.le_refl _⟩, ⟨by (try simp only [hl5_2]); (try simp only [hl5_3]); (try simp only [hl5_6]); (with_reducible repeat (first | apply Kd.S_alloc | apply Kd.S_drewN | apply Kd.S_drew)); exact HO_5.out⟩, ⟨by (try simp only [hl5_2]); (try simp only [hl5_3]); (try simp only [hl5_6]); (with_reducible repeat (first | refine blk_drewN ?_ _ | refine blk_drew ?_ | refine blk_alloc ?_ _)); exact BK134.out⟩, ⟨by repeat (first | (with_reducible first | exact HB.out | apply below_alloc | apply pw_below_drewN | apply below_drew1 | refine below_set ?_ GE134.out) | exact HB.out)⟩⟩
                        ·rw [if_neg c49] at H
                         have c49b0 : decide (x13_6 < (l1.length : Int)) = false := decide_eq_false c49
                         (try simp only [hl5_2, hl5_3, hl5_6] at c49b0)
                         clear c49
                         (first | rw [c49b0] | (simp only [i64_w, i32_w]; rw [c49b0]) | skip)
                         have H' := Aside0.mk H
                         clear H
                         go_wp2
                         go_meet
                         case rel => exact ⟨_, (false), (by first | rfl | (simp; done) | (simp [*]; done)), H', ⟨by have := HK1.out; have := HK2.out; have := HK3.out; have := HJ38.out; have := HJ45.out; have := HK6.out; first | omega | exact Nat.le_refl _⟩, ⟨by (try simp only [hl5_2]); (try simp only [hl5_3]); (try simp only [hl5_6]); (with_reducible repeat (first | apply Kd.S_alloc | apply Kd.S_drewN | apply Kd.S_drew)); exact HO_5.out⟩, ⟨by (try simp only [hl5_2]); (try simp only [hl5_3]); (try simp only [hl5_6]); (with_reducible repeat (first | refine blk_drewN ?_ _ | refine blk_drew ?_ | refine blk_alloc ?_ _)); exact BK134.out⟩, ⟨by repeat (first | (with_reducible first | exact HB.out | apply below_alloc | apply pw_below_drewN | apply below_drew1 | refine below_set ?_ GE134.out) | exact HB.out)⟩⟩
                       case rest =>
                        clear HC48
                        try clear c1
                        try clear p1
                        try clear q1
                        try clear hx1
                        try clear qi1
                        try clear c2
                        try clear p2
                        try clear q2
                        try clear hx2
                        try clear qi2
                        try clear hf2
                        try clear c3
                        try clear c4
                        try clear c5
                        try clear p6
                        try clear c7
                        try clear c7b0
                        try clear c9
                        try clear c9b0
                        try clear c9b1
                        try clear c10
                        try clear c10b0
                        try clear c10b1
                        try clear c14
                        try clear c14b0
                        try clear p14
                        try clear q14
                        try clear hx14
                        try clear qi14
                        try clear c15
                        try clear c15b0
                        try clear p15
                        try clear q15
                        try clear hx15
                        try clear c16
                        try clear c16b0
                        try clear p17
                        try clear q17
                        try clear hx17
                        try clear hf17
                        try clear c21
                        try clear c25
                        try clear c25b0
                        try clear c25b1
                        try clear c26
                        try clear c26b0
                        try clear c26b1
                        try clear p27
                        try clear q27
                        try clear hx27
                        try clear qi27
                        try clear hf27
                        try clear c29
                        try clear q29
                        try clear c31
                        try clear c31b0
                        try clear c32
                        try clear c32b0
                        try clear c33
                        try clear c33b0
                        try clear c34
                        try clear c34b0
                        try clear c35
                        try clear c35b0
                        try clear c36
                        try clear c36b0
                        try clear c37
                        try clear c37b0
                        try clear c41
                        try clear c41b0
                        try clear c41b1
                        try clear c42
                        try clear c42b0
                        try clear c47
                        try clear c49
                        try clear c49b0
                        try clear hcz11_0
                        try clear hcz11_1
                        try clear hcz18_0
                        try clear hcz18_1
                        try clear hcz22_0
                        try clear hcz22_1
                        try clear hcz38_0
                        try clear hcz38_1
                        try clear hcz40_0
                        try clear hcz40_1
                        try clear hcz43_0
                        try clear hcz43_1
                        try clear hcz44_0
                        try clear hcz44_1
                        try clear hcz45_0
                        try clear hcz45_1
                        try clear hcz50_0
                        try clear hcz50_1
                        try clear hfz11_0
                        try clear hfz11_1
                        try clear hfz18_0
                        try clear hfz18_1
                        try clear hfz22_0
                        try clear hfz22_1
                        try clear hfz38_0
                        try clear hfz38_1
                        try clear hfz40_0
                        try clear hfz40_1
                        try clear hfz43_0
                        try clear hfz43_1
                        try clear hfz44_0
                        try clear hfz44_1
                        try clear hfz45_0
                        try clear hfz45_1
                        try clear hfz50_0
                        try clear hfz50_1
                        try clear hx145_0
                        try clear hx149_0
                        try clear hx150_0
                        try clear hx17_0
                        try clear hx27_0
                        try clear p1
                        try clear p14
                        try clear p145
                        try clear p149
                        try clear p15
                        try clear p150
                        try clear p17
                        try clear p2
                        try clear p27
                        try clear p6
                        try clear q1
                        try clear q14
                        try clear q145
                        try clear q149
                        try clear q15
                        try clear q150
                        try clear q17
                        try clear q2
                        try clear q27
                        try clear q29
                        obtain ⟨kq, x91_47, rfl, HA, HJ47, HO_5, BK134, HB⟩ := hcut
                        cases kq with
                        | zero => exact absurd HA.out (by simp [spec_l9Sum.j7])
                        | succ kj47 =>
                         have H := HA.out
                         clear HA
                         simp only [spec_l9Sum.j7] at H
                         by_cases c51 : x91_47 = true
                         ·subst c51
                          have H1 : (if 0 ≤ x13_6 then (if (Go.bits .and .i64 (shr .i64 x10_2 x13_6) 1) = 1 then (spec_l9Sum.l4 kj47 l1 x5_6 x9_45 x10_2 x11_3 (rd (rd_L3 x5_3 x10_2) x11_3) (wrap64 (x13_6 + 1)) a0_0 a0_1) else (if x13_6 < (l1.length : Int) then ((spec_l1Most.f 0 (wrap64 (x11_3 - ((rd_T58 l1 x13_6).f1)))).bind fun t152 => (spec_l9Sum.l5 kj47 l1 x5_6 x9_45 x10_2 x11_3 (rd (rd_L3 x5_3 x10_2) x11_3) x13_6 t152 a0_0 a0_1)) else (none))) else (none)) = some r := by rw [if_pos rfl] at H; exact H
                          clear H
                          have H := H1
                          clear H1
                          by_cases c52 : 0 ≤ x13_6
                          ·rw [if_pos c52] at H
                           have c52b0 := eq_true c52
                           have c52b1 : decide (0 ≤ x13_6) = true := decide_eq_true c52
                           clear c52
                           obtain ⟨ji53, hji53⟩ : ∃ j_ : Int, (shr .i64 x10_2 x13_6) = j_ := ⟨_, rfl⟩
                           replace H : (if (Go.bits .and .i64 (ji53) 1) = 1 then (spec_l9Sum.l4 kj47 l1 x5_6 x9_45 x10_2 x11_3 (rd (rd_L3 x5_3 x10_2) x11_3) (wrap64 (x13_6 + 1)) a0_0 a0_1) else (if x13_6 < (l1.length : Int) then ((spec_l1Most.f 0 (wrap64 (x11_3 - ((rd_T58 l1 x13_6).f1)))).bind fun t152 => (spec_l9Sum.l5 kj47 l1 x5_6 x9_45 x10_2 x11_3 (rd (rd_L3 x5_3 x10_2) x11_3) x13_6 t152 a0_0 a0_1)) else (none))) = some r := by first | (rw [hji53] at H; exact H) | (simp only [hji53] at H ⊢; exact H)
                           have hji53_ : (x10_2 / 2 ^ min x13_6.toNat 64) = ji53 := hji53
                           have hji53z : x13_6 ≤ 64 → (x10_2 / 2 ^ x13_6.toNat) = ji53 := shr_small hji53
                           by_cases c54 : (Go.bits .and .i64 (ji53) 1) = 1
                           ·rw [if_pos c54] at H
                            have c54b0 : ((Go.bits .and .i64 (ji53) 1) == 1) = true := beq_iff_eq.mpr c54
                            have c54b1 : ((Go.bits .and .i64 (ji53) 1) != 1) = false := bne_eq_false_iff_eq.mpr c54
                            clear c54
                            have H' := Aside0.mk H
                            clear H
                            go_wp2
                            (try simp only [← hl5_6])
                            go_roundg kj47
                            case measure => have := HK1.out; have := HK2.out; have := HK3.out; have := HJ38.out; have := HJ45.out; have := HK6.out; have := HJ47.out; omega
                            case rel => exact ⟨(x5_6), (wrap64 (x13_6 + 1)), (by first | rfl | (simp; done) | (simp [*]; done)), H', ⟨by have := HK1.out; have := HK2.out; have := HK3.out; have := HJ38.out; have := HJ45.out; have := HK6.out; have := HJ47.out; omega⟩, ⟨by (try simp only [hl5_2]); (try simp only [hl5_3]); (try simp only [hl5_6]); (with_reducible repeat (first | apply Kd.S_alloc | apply Kd.S_drewN | apply Kd.S_drew)); exact HO_5.out⟩, ⟨by (try simp only [hl5_2]); (try simp only [hl5_3]); (try simp only [hl5_6]); (with_reducible repeat (first | refine blk_drewN ?_ _ | refine blk_drew ?_ | refine blk_alloc ?_ _)); exact BK134.out⟩, ⟨by repeat (first | (with_reducible first | exact HB.out | apply below_alloc | apply pw_below_drewN | apply below_drew1 | refine below_set ?_ GE134.out) | exact HB.out)⟩⟩
                           ·rw [if_neg c54] at H
                            have c54b0 : ((Go.bits .and .i64 (ji53) 1) == 1) = false := beq_eq_false_iff_ne.mpr c54
                            have c54b1 : ((Go.bits .and .i64 (ji53) 1) != 1) = true := bne_iff_ne.mpr c54
                            by_cases c55 : x13_6 < (l1.length : Int)
                            ·rw [if_pos c55] at H
                             have c55b0 : decide (x13_6 < (l1.length : Int)) = true := decide_eq_true c55
                             (try simp only [hl5_2, hl5_3, hl5_6] at c55b0)
                             clear c55
                             replace H := Option.bind_eq_some_iff.mp H
                             obtain ⟨t152, A560, H⟩ := H
                             replace H : (spec_l9Sum.l5 kj47 l1 x5_6 x9_45 x10_2 x11_3 (rd (rd_L3 x5_3 x10_2) x11_3) x13_6 t152 a0_0 a0_1) = some r := H
                             have A56 := Aside0.mk A560
                             clear A560
                             have H' := Aside0.mk H
                             clear H
                             have p151 : 0 ≤ (x13_6 : Int) := of_decide_eq_true (by first | (with_reducible assumption) | assumption)
                             have q151 : x13_6 < (l1.length : Int) := of_decide_eq_true (by first | (with_reducible assumption) | assumption)
                             obtain ⟨ad151, e151, hx151_0, hx151_1⟩ := at_T58 HR1.out x13_6 p151 q151
                             cases e151
                             replace hx151_0 := (HB.out.cell (World.block_lt_of_cell? w _ hx151_0)).trans hx151_0
                             replace hx151_1 := (HB.out.cell (World.block_lt_of_cell? w _ hx151_1)).trans hx151_1
                             replace p151 := eq_true p151
                             replace q151 := eq_true q151
                             go_wp2_with (first | ((with_reducible refine gate_callee (f := 43) rfl ?_); refine goesL_ (some 106) rfl rfl Try.func43 (by kernel_rfl) rfl #[.int .i64 0, .int .i64 (wrap64 (x11_3 - ((rd_T58 l1 x13_6).f1)))] rfl (by (try simp only [List.map_toArray, List.map_cons, List.map_nil]); first | done | rfl | (simp only [List.length_drop, List.length_take]; rfl)) ?_; (with_reducible refine (spec_l1Most.calls 0 (wrap64 (x11_3 - ((rd_T58 l1 x13_6).f1))) t152 _ A56.out).mono ?_); rintro e w' ⟨rfl, ⟨nd, rfl⟩⟩; refine ⟨_, rfl, ?_⟩))
                             go_loopg [14] kj47 (fun kq v14 w' => ∃ (x5_8 : List (List Int)) (x14_8 : Int), v14 = .int .i64 x14_8 ∧ Aside0 (spec_l9Sum.l5 kq l1 x5_8 x9_45 x10_2 x11_3 (rd (rd_L3 x5_3 x10_2) x11_3) x13_6 x14_8 a0_0 a0_1 = some r) ∧ Aside0 (kq ≤ kj47) ∧ Aside0 (Kd.S (Kd.slice 3 (Kd.int .i64)) 24 w' w.heap.size (fun _ => True) (.slice (some ad145) x5_6.length co28) x5_8) ∧ Aside0 (w'.heap[gb134]? = some (.cells #[.int .i64 a0_0, .bool a0_1] 27 (0, 0))) ∧ Aside0 (Below w.heap.size w w'))
                             case atStart => exact ⟨(x5_6), (t152), (by first | rfl | (simp; done) | (simp [*]; done)), H', ⟨Nat.le_refl _⟩, ⟨by (try simp only [hl5_2]); (try simp only [hl5_3]); (try simp only [hl5_6]); (with_reducible repeat (first | apply Kd.S_alloc | apply Kd.S_drewN | apply Kd.S_drew)); exact HO_5.out⟩, ⟨by (try simp only [hl5_2]); (try simp only [hl5_3]); (try simp only [hl5_6]); (with_reducible repeat (first | refine blk_drewN ?_ _ | refine blk_drew ?_ | refine blk_alloc ?_ _)); exact BK134.out⟩, ⟨by repeat (first | (with_reducible first | exact HB.out | apply below_alloc | apply pw_below_drewN | apply below_drew1 | refine below_set ?_ GE134.out) | exact HB.out)⟩⟩
                             case round =>
                              clear H'
                              try clear c1
                              try clear p1
                              try clear q1
                              try clear hx1
                              try clear qi1
                              try clear c2
                              try clear p2
                              try clear q2
                              try clear hx2
                              try clear qi2
                              try clear hf2
                              try clear c3
                              try clear c4
                              try clear c5
                              try clear p6
                              try clear c7
                              try clear c7b0
                              try clear c9
                              try clear c9b0
                              try clear c9b1
                              try clear c10
                              try clear c10b0
                              try clear c10b1
                              try clear c14
                              try clear c14b0
                              try clear p14
                              try clear q14
                              try clear hx14
                              try clear qi14
                              try clear c15
                              try clear c15b0
                              try clear p15
                              try clear q15
                              try clear hx15
                              try clear c16
                              try clear c16b0
                              try clear p17
                              try clear q17
                              try clear hx17
                              try clear hf17
                              try clear c21
                              try clear c25
                              try clear c25b0
                              try clear c25b1
                              try clear c26
                              try clear c26b0
                              try clear c26b1
                              try clear p27
                              try clear q27
                              try clear hx27
                              try clear qi27
                              try clear hf27
                              try clear c29
                              try clear q29
                              try clear c31
                              try clear c31b0
                              try clear c32
                              try clear c32b0
                              try clear c33
                              try clear c33b0
                              try clear c34
                              try clear c34b0
                              try clear c35
                              try clear c35b0
                              try clear c36
                              try clear c36b0
                              try clear c37
                              try clear c37b0
                              try clear c41
                              try clear c41b0
                              try clear c41b1
                              try clear c42
                              try clear c42b0
                              try clear c43
                              try clear c47
                              try clear c49
                              try clear c49b0
                              try clear c51
                              try clear c52
                              try clear c52b0
                              try clear c52b1
                              try clear c54
                              try clear c54b0
                              try clear c54b1
                              try clear c55
                              try clear c55b0
                              try clear hcz11_0
                              try clear hcz11_1
                              try clear hcz18_0
                              try clear hcz18_1
                              try clear hcz22_0
                              try clear hcz22_1
                              try clear hcz38_0
                              try clear hcz38_1
                              try clear hcz40_0
                              try clear hcz40_1
                              try clear hcz43_0
                              try clear hcz43_1
                              try clear hcz44_0
                              try clear hcz44_1
                              try clear hcz45_0
                              try clear hcz45_1
                              try clear hcz50_0
                              try clear hcz50_1
                              try clear hfz11_0
                              try clear hfz11_1
                              try clear hfz18_0
                              try clear hfz18_1
                              try clear hfz22_0
                              try clear hfz22_1
                              try clear hfz38_0
                              try clear hfz38_1
                              try clear hfz40_0
                              try clear hfz40_1
                              try clear hfz43_0
                              try clear hfz43_1
                              try clear hfz44_0
                              try clear hfz44_1
                              try clear hfz45_0
                              try clear hfz45_1
                              try clear hfz50_0
                              try clear hfz50_1
                              try clear hx145_0
                              try clear hx149_0
                              try clear hx150_0
                              try clear hx151_0
                              try clear hx151_1
                              try clear hx17_0
                              try clear hx27_0
                              try clear p1
                              try clear p14
                              try clear p145
                              try clear p149
                              try clear p15
                              try clear p150
                              try clear p151
                              try clear p17
                              try clear p2
                              try clear p27
                              try clear p6
                              try clear q1
                              try clear q14
                              try clear q145
                              try clear q149
                              try clear q15
                              try clear q150
                              try clear q151
                              try clear q17
                              try clear q2
                              try clear q27
                              try clear q29
                              obtain ⟨x5_8, x14_8, rfl, HA, HK8, HO_5, BK134, HB⟩ := hrel
                              have hl5_8 := (Kd.S_reads' HO_5.out).1
                              rw [hl5_8] at HO_5
                              (try simp only [hl5_8])
                              (try simp only [hl5_8] at BK134)
                              cases gk with
                              | zero => exact absurd HA.out (by simp [spec_l9Sum.l5])
                              | succ k8 =>
                               have H := HA.out
                               clear HA
                               simp only [spec_l9Sum.l5] at H
                               by_cases c57 : 0 ≤ x13_6
                               ·rw [if_pos c57] at H
                                have c57b0 : decide (0 ≤ x13_6) = true := decide_eq_true c57
                                clear c57
                                by_cases c58 : x13_6 < (l1.length : Int)
                                ·rw [if_pos c58] at H
                                 have c58b0 : decide (x13_6 < (l1.length : Int)) = true := decide_eq_true c58
                                 (try simp only [hl5_2, hl5_3, hl5_6, hl5_8] at c58b0)
                                 clear c58
                                 replace H := Option.bind_eq_some_iff.mp H
                                 obtain ⟨t154, A590, H⟩ := H
                                 replace H : (if x14_8 ≤ t154 then ((spec_l1Least.f a0_0 (wrap64 ((wrap64 (x14_8 + ((rd_T58 l1 x13_6).f1))) + 1))).bind fun t156 => ((spec_l2Gap.f a0_0 a0_1 ((rd_T58 l1 x13_6).f0) x14_8).bind fun t158 => (if 0 ≤ (wrap64 (x10_2 + (shl .i64 1 x13_6))) then (if (wrap64 (x10_2 + (shl .i64 1 x13_6))) < (x5_8.length : Int) then (if 0 ≤ t156 then (if t156 < ((rd_L3 x5_8 (wrap64 (x10_2 + (shl .i64 1 x13_6)))).length : Int) then (if (rd (rd_L3 x5_8 (wrap64 (x10_2 + (shl .i64 1 x13_6)))) t156) < 0 then (spec_l9Sum.l5 k8 l1 (x5_8.set ((wrap64 (x10_2 + (shl .i64 1 x13_6))) : Int).toNat ((rd_L3 x5_8 (wrap64 (x10_2 + (shl .i64 1 x13_6)))).set (t156 : Int).toNat (wrap64 ((rd (rd_L3 x5_3 x10_2) x11_3) + t158)))) x9_45 x10_2 x11_3 (rd (rd_L3 x5_3 x10_2) x11_3) x13_6 (wrap64 (x14_8 + 1)) a0_0 a0_1) else (if (wrap64 ((rd (rd_L3 x5_3 x10_2) x11_3) + t158)) < (rd (rd_L3 x5_8 (wrap64 (x10_2 + (shl .i64 1 x13_6)))) t156) then (spec_l9Sum.l5 k8 l1 (x5_8.set ((wrap64 (x10_2 + (shl .i64 1 x13_6))) : Int).toNat ((rd_L3 x5_8 (wrap64 (x10_2 + (shl .i64 1 x13_6)))).set (t156 : Int).toNat (wrap64 ((rd (rd_L3 x5_3 x10_2) x11_3) + t158)))) x9_45 x10_2 x11_3 (rd (rd_L3 x5_3 x10_2) x11_3) x13_6 (wrap64 (x14_8 + 1)) a0_0 a0_1) else (spec_l9Sum.l5 k8 l1 x5_8 x9_45 x10_2 x11_3 (rd (rd_L3 x5_3 x10_2) x11_3) x13_6 (wrap64 (x14_8 + 1)) a0_0 a0_1))) else (none)) else (none)) else (none)) else (none)))) else (spec_l9Sum.l4 k8 l1 x5_8 x9_45 x10_2 x11_3 (rd (rd_L3 x5_3 x10_2) x11_3) (wrap64 (x13_6 + 1)) a0_0 a0_1)) = some r := H
                                 have A59 := Aside0.mk A590
                                 clear A590
                                 by_cases c60 : x14_8 ≤ t154
                                 ·rw [if_pos c60] at H
                                  have c60b0 : decide (x14_8 ≤ t154) = true := decide_eq_true c60
                                  clear c60
                                  replace H := Option.bind_eq_some_iff.mp H
                                  obtain ⟨t156, A610, H⟩ := H
                                  replace H : ((spec_l2Gap.f a0_0 a0_1 ((rd_T58 l1 x13_6).f0) x14_8).bind fun t158 => (if 0 ≤ (wrap64 (x10_2 + (shl .i64 1 x13_6))) then (if (wrap64 (x10_2 + (shl .i64 1 x13_6))) < (x5_8.length : Int) then (if 0 ≤ t156 then (if t156 < ((rd_L3 x5_8 (wrap64 (x10_2 + (shl .i64 1 x13_6)))).length : Int) then (if (rd (rd_L3 x5_8 (wrap64 (x10_2 + (shl .i64 1 x13_6)))) t156) < 0 then (spec_l9Sum.l5 k8 l1 (x5_8.set ((wrap64 (x10_2 + (shl .i64 1 x13_6))) : Int).toNat ((rd_L3 x5_8 (wrap64 (x10_2 + (shl .i64 1 x13_6)))).set (t156 : Int).toNat (wrap64 ((rd (rd_L3 x5_3 x10_2) x11_3) + t158)))) x9_45 x10_2 x11_3 (rd (rd_L3 x5_3 x10_2) x11_3) x13_6 (wrap64 (x14_8 + 1)) a0_0 a0_1) else (if (wrap64 ((rd (rd_L3 x5_3 x10_2) x11_3) + t158)) < (rd (rd_L3 x5_8 (wrap64 (x10_2 + (shl .i64 1 x13_6)))) t156) then (spec_l9Sum.l5 k8 l1 (x5_8.set ((wrap64 (x10_2 + (shl .i64 1 x13_6))) : Int).toNat ((rd_L3 x5_8 (wrap64 (x10_2 + (shl .i64 1 x13_6)))).set (t156 : Int).toNat (wrap64 ((rd (rd_L3 x5_3 x10_2) x11_3) + t158)))) x9_45 x10_2 x11_3 (rd (rd_L3 x5_3 x10_2) x11_3) x13_6 (wrap64 (x14_8 + 1)) a0_0 a0_1) else (spec_l9Sum.l5 k8 l1 x5_8 x9_45 x10_2 x11_3 (rd (rd_L3 x5_3 x10_2) x11_3) x13_6 (wrap64 (x14_8 + 1)) a0_0 a0_1))) else (none)) else (none)) else (none)) else (none))) = some r := H
                                  have A61 := Aside0.mk A610
                                  clear A610
                                  replace H := Option.bind_eq_some_iff.mp H
                                  obtain ⟨t158, A620, H⟩ := H
                                  replace H : (if 0 ≤ (wrap64 (x10_2 + (shl .i64 1 x13_6))) then (if (wrap64 (x10_2 + (shl .i64 1 x13_6))) < (x5_8.length : Int) then (if 0 ≤ t156 then (if t156 < ((rd_L3 x5_8 (wrap64 (x10_2 + (shl .i64 1 x13_6)))).length : Int) then (if (rd (rd_L3 x5_8 (wrap64 (x10_2 + (shl .i64 1 x13_6)))) t156) < 0 then (spec_l9Sum.l5 k8 l1 (x5_8.set ((wrap64 (x10_2 + (shl .i64 1 x13_6))) : Int).toNat ((rd_L3 x5_8 (wrap64 (x10_2 + (shl .i64 1 x13_6)))).set (t156 : Int).toNat (wrap64 ((rd (rd_L3 x5_3 x10_2) x11_3) + t158)))) x9_45 x10_2 x11_3 (rd (rd_L3 x5_3 x10_2) x11_3) x13_6 (wrap64 (x14_8 + 1)) a0_0 a0_1) else (if (wrap64 ((rd (rd_L3 x5_3 x10_2) x11_3) + t158)) < (rd (rd_L3 x5_8 (wrap64 (x10_2 + (shl .i64 1 x13_6)))) t156) then (spec_l9Sum.l5 k8 l1 (x5_8.set ((wrap64 (x10_2 + (shl .i64 1 x13_6))) : Int).toNat ((rd_L3 x5_8 (wrap64 (x10_2 + (shl .i64 1 x13_6)))).set (t156 : Int).toNat (wrap64 ((rd (rd_L3 x5_3 x10_2) x11_3) + t158)))) x9_45 x10_2 x11_3 (rd (rd_L3 x5_3 x10_2) x11_3) x13_6 (wrap64 (x14_8 + 1)) a0_0 a0_1) else (spec_l9Sum.l5 k8 l1 x5_8 x9_45 x10_2 x11_3 (rd (rd_L3 x5_3 x10_2) x11_3) x13_6 (wrap64 (x14_8 + 1)) a0_0 a0_1))) else (none)) else (none)) else (none)) else (none)) = some r := H
                                  have A62 := Aside0.mk A620
                                  clear A620
                                  have c63b0 := eq_true (of_decide_eq_true (by first | (with_reducible assumption) | assumption) : 0 ≤ x13_6)
                                  obtain ⟨ji64, hji64⟩ : ∃ j_ : Int, (shl .i64 1 x13_6) = j_ := ⟨_, rfl⟩
                                  replace H : (if 0 ≤ (wrap64 (x10_2 + (ji64))) then (if (wrap64 (x10_2 + (ji64))) < (x5_8.length : Int) then (if 0 ≤ t156 then (if t156 < ((rd_L3 x5_8 (wrap64 (x10_2 + (ji64)))).length : Int) then (if (rd (rd_L3 x5_8 (wrap64 (x10_2 + (ji64)))) t156) < 0 then (spec_l9Sum.l5 k8 l1 (x5_8.set ((wrap64 (x10_2 + (ji64))) : Int).toNat ((rd_L3 x5_8 (wrap64 (x10_2 + (ji64)))).set (t156 : Int).toNat (wrap64 ((rd (rd_L3 x5_3 x10_2) x11_3) + t158)))) x9_45 x10_2 x11_3 (rd (rd_L3 x5_3 x10_2) x11_3) x13_6 (wrap64 (x14_8 + 1)) a0_0 a0_1) else (if (wrap64 ((rd (rd_L3 x5_3 x10_2) x11_3) + t158)) < (rd (rd_L3 x5_8 (wrap64 (x10_2 + (ji64)))) t156) then (spec_l9Sum.l5 k8 l1 (x5_8.set ((wrap64 (x10_2 + (ji64))) : Int).toNat ((rd_L3 x5_8 (wrap64 (x10_2 + (ji64)))).set (t156 : Int).toNat (wrap64 ((rd (rd_L3 x5_3 x10_2) x11_3) + t158)))) x9_45 x10_2 x11_3 (rd (rd_L3 x5_3 x10_2) x11_3) x13_6 (wrap64 (x14_8 + 1)) a0_0 a0_1) else (spec_l9Sum.l5 k8 l1 x5_8 x9_45 x10_2 x11_3 (rd (rd_L3 x5_3 x10_2) x11_3) x13_6 (wrap64 (x14_8 + 1)) a0_0 a0_1))) else (none)) else (none)) else (none)) else (none)) = some r := by first | (rw [hji64] at H; exact H) | (simp only [hji64] at H ⊢; exact H)
                                  (try rw [hji64] at A59)
                                  (try rw [hji64] at A61)
                                  (try rw [hji64] at A62)
                                  have hji64_ : (IntKind.i64.wrap (1 * 2 ^ min x13_6.toNat 64)) = ji64 := hji64
                                  have hji64z : x13_6 ≤ 64 → (IntKind.i64.wrap (1 * 2 ^ x13_6.toNat)) = ji64 := shl_small hji64
                                  have hji64u : (IntKind.i64.wrap (2 ^ min x13_6.toNat 64)) = ji64 := by have h_ := hji64_; rw [Int.one_mul] at h_; exact h_
                                  have hji64v : x13_6 ≤ 64 → (IntKind.i64.wrap (2 ^ x13_6.toNat)) = ji64 := fun hle_ => by have h_ := hji64z hle_; rw [Int.one_mul] at h_; exact h_
                                  have hji64y : (wrap64 (1 * 2 ^ min x13_6.toNat 64)) = ji64 := (i64_w _).symm.trans hji64_
                                  have hji64x : x13_6 ≤ 64 → (wrap64 (1 * 2 ^ x13_6.toNat)) = ji64 := fun h_ => (i64_w _).symm.trans (hji64z h_)
                                  obtain ⟨ji65, hji65⟩ : ∃ j_ : Int, (wrap64 (x10_2 + (ji64))) = j_ := ⟨_, rfl⟩
                                  replace H : (if 0 ≤ (ji65) then (if (ji65) < (x5_8.length : Int) then (if 0 ≤ t156 then (if t156 < ((rd_L3 x5_8 (ji65)).length : Int) then (if (rd (rd_L3 x5_8 (ji65)) t156) < 0 then (spec_l9Sum.l5 k8 l1 (x5_8.set ((ji65) : Int).toNat ((rd_L3 x5_8 (ji65)).set (t156 : Int).toNat (wrap64 ((rd (rd_L3 x5_3 x10_2) x11_3) + t158)))) x9_45 x10_2 x11_3 (rd (rd_L3 x5_3 x10_2) x11_3) x13_6 (wrap64 (x14_8 + 1)) a0_0 a0_1) else (if (wrap64 ((rd (rd_L3 x5_3 x10_2) x11_3) + t158)) < (rd (rd_L3 x5_8 (ji65)) t156) then (spec_l9Sum.l5 k8 l1 (x5_8.set ((ji65) : Int).toNat ((rd_L3 x5_8 (ji65)).set (t156 : Int).toNat (wrap64 ((rd (rd_L3 x5_3 x10_2) x11_3) + t158)))) x9_45 x10_2 x11_3 (rd (rd_L3 x5_3 x10_2) x11_3) x13_6 (wrap64 (x14_8 + 1)) a0_0 a0_1) else (spec_l9Sum.l5 k8 l1 x5_8 x9_45 x10_2 x11_3 (rd (rd_L3 x5_3 x10_2) x11_3) x13_6 (wrap64 (x14_8 + 1)) a0_0 a0_1))) else (none)) else (none)) else (none)) else (none)) = some r := by first | (rw [hji65] at H; exact H) | (simp only [hji65] at H ⊢; exact H)
                                  (try rw [hji65] at A59)
                                  (try rw [hji65] at A61)
                                  (try rw [hji65] at A62)
                                  have hji65w : (IntKind.i64.wrap (x10_2 + (ji64))) = ji65 := (i64_w _).trans hji65
                                  by_cases c66 : 0 ≤ (ji65)
                                  ·rw [if_pos c66] at H
                                   have c66b0 : decide (0 ≤ (ji65)) = true := decide_eq_true c66
                                   clear c66
                                   by_cases c67 : (ji65) < (x5_8.length : Int)
                                   ·rw [if_pos c67] at H
                                    have c67b0 : decide ((ji65) < (x5_8.length : Int)) = true := decide_eq_true c67
                                    (try simp only [hl5_2, hl5_3, hl5_6, hl5_8] at c67b0)
                                    clear c67
                                    by_cases c68 : 0 ≤ t156
                                    ·rw [if_pos c68] at H
                                     have c68b0 : decide (0 ≤ t156) = true := decide_eq_true c68
                                     clear c68
                                     by_cases c69 : t156 < ((rd_L3 x5_8 (ji65)).length : Int)
                                     ·rw [if_pos c69] at H
                                      have c69b0 : decide (t156 < ((rd_L3 x5_8 (ji65)).length : Int)) = true := decide_eq_true c69
                                      (try simp only [hl5_2, hl5_3, hl5_6, hl5_8] at c69b0)
                                      clear c69
                                      by_cases c70 : (rd (rd_L3 x5_8 (ji65)) t156) < 0
                                      ·rw [if_pos c70] at H
                                       have c70b0 : decide ((rd (rd_L3 x5_8 (ji65)) t156) < 0) = true := decide_eq_true c70
                                       clear c70
                                       have c71b0 := eq_true (of_decide_eq_true (by first | (with_reducible assumption) | assumption) : 0 ≤ x13_6)
                                       obtain ⟨y162, hy162⟩ : ∃ y_ : List Int, y_ = ((rd_L3 x5_8 (ji65)).set (t156 : Int).toNat (wrap64 ((rd (rd_L3 x5_3 x10_2) x11_3) + t158))) := ⟨_, rfl⟩
                                       replace H : (spec_l9Sum.l5 k8 l1 (x5_8.set ((ji65) : Int).toNat y162) x9_45 x10_2 x11_3 (rd (rd_L3 x5_3 x10_2) x11_3) x13_6 (wrap64 (x14_8 + 1)) a0_0 a0_1) = some r := by first | (rw [hy162]; with_reducible exact H) | (have H2_ := (Option.bind_some _ _).symm.trans H; rw [hy162]; with_reducible exact H2_) | (have H2_ := (Option.bind_some _ _).symm.trans H; with_reducible exact H2_) | with_reducible exact H | (rw [hy162]; exact H) | exact H
                                       have Ny162 := Aside0.mk hy162
                                       clear hy162
                                       obtain ⟨y164, hy164⟩ : ∃ y_ : List (List Int), y_ = (x5_8.set ((ji65) : Int).toNat y162) := ⟨_, rfl⟩
                                       replace H : (spec_l9Sum.l5 k8 l1 y164 x9_45 x10_2 x11_3 (rd (rd_L3 x5_3 x10_2) x11_3) x13_6 (wrap64 (x14_8 + 1)) a0_0 a0_1) = some r := by first | (rw [hy164]; with_reducible exact H) | (have H2_ := (Option.bind_some _ _).symm.trans H; rw [hy164]; with_reducible exact H2_) | (have H2_ := (Option.bind_some _ _).symm.trans H; with_reducible exact H2_) | with_reducible exact H | (rw [hy164]; exact H) | exact H
                                       have Ny164 := Aside0.mk hy164
                                       clear hy164
                                       have H' := Aside0.mk H
                                       clear H
                                       try go_wp2
                                       have n0_ := Aside0.mk (Kd.S_drew HO_5.out)
                                       have n1_ := Aside0.mk (blk_drew BK134.out)
                                       have n2_ := Aside0.mk (below_drew1 HB.out)
                                       clear HO_5
                                       clear BK134
                                       clear HB
                                       have HO_5 := n0_
                                       have BK134 := n1_
                                       have HB := n2_
                                       clear n0_ n1_ n2_
                                       have p153 : 0 ≤ (x13_6 : Int) := of_decide_eq_true (by first | (with_reducible assumption) | assumption)
                                       have q153 : x13_6 < (l1.length : Int) := of_decide_eq_true (by first | (with_reducible assumption) | assumption)
                                       obtain ⟨ad153, e153, hx153_0, hx153_1⟩ := at_T58 HR1.out x13_6 p153 q153
                                       have hw153_1 := hx153_1
                                       have hw153_0 := hx153_0
                                       obtain rfl : ad151 = ad153 := (by injection e153)
                                       replace hx153_0 := (HB.out.cell (World.block_lt_of_cell? w _ hx153_0)).trans hx153_0
                                       replace hx153_1 := (HB.out.cell (World.block_lt_of_cell? w _ hx153_1)).trans hx153_1
                                       replace p153 := eq_true p153
                                       replace q153 := eq_true q153
                                       refine start_ (n := 13) (S := fun w' => w'.cell? ⟨gb134, 0, none⟩ = some (.int .i64 a0_0) ∧ w'.cell? ⟨gb134, 1, none⟩ = some (.bool a0_1) ∧ w'.cell? (ad151.add ((x13_6).toNat * 2)) = some (.int .i64 ((rd_T58 l1 x13_6).f0)) ∧ w'.cell? ⟨(ad151.add ((x13_6).toNat * 2)).block, (ad151.add ((x13_6).toNat * 2)).off + 1, none⟩ = some (.int .i64 ((rd_T58 l1 x13_6).f1))) (ds := []) #[false,false,false,false,false,false,false,false,false,false,false,false,false] (by kernel_rfl) rfl rfl ⟨(blk_cell BK134.out 0).trans rfl, (blk_cell BK134.out 1).trans rfl, ((HB.out.cell (World.block_lt_of_cell? w _ hw153_0)).trans hw153_0), ((HB.out.cell (World.block_lt_of_cell? w _ hw153_1)).trans hw153_1)⟩ (fun hHeld => ?_); refine with_tabW spec_l9Sum.tab28 spec_l9Sum.bits28 (fun HT_ HW_ => ?_)
                                       generalize wr.drew = w74 at HO_5 BK134 HB hx153_0 hx153_1 hHeld ⊢
                                       refine pure_ (i := 0) (N := some 107) (v := ?_) (a' := ?_) #[true,false,false,false,false,false,false,false,false,false,false,false,false] rfl rfl (any_of HT_.out (by kernel_rfl)) (fun _ _ _ h => h) (Or.inl ⟨by rfl, ?_⟩) ?_ ?_
                                       rotate_left
                                       ·intro w'
                                        go_simp
                                        with_reducible rfl
                                       rotate_left
                                       ·simp only [Act.put, List.setIfInBounds_toArray, List.set_cons_zero, List.set_cons_succ, i64_w, i32_w]
                                        rfl
                                       refine pure_ (i := 1) (N := some 108) (v := ?_) (a' := ?_) #[true,true,false,false,false,false,false,false,false,false,false,false,false] rfl rfl (any_of HT_.out (by kernel_rfl)) (fun _ _ _ h => h) (Or.inl ⟨by rfl, ?_⟩) ?_ ?_
                                       rotate_left
                                       ·intro w'
                                        go_simp
                                        with_reducible rfl
                                       rotate_left
                                       ·simp only [Act.put, List.setIfInBounds_toArray, List.set_cons_zero, List.set_cons_succ, i64_w, i32_w]
                                        rfl
                                       refine pure_ (i := 4) (N := some 111) (v := ?_) (a' := ?_) #[true,true,false,false,true,false,false,false,false,false,false,false,false] rfl rfl (any_of HT_.out (by kernel_rfl)) (fun _ _ _ h => h) (Or.inl ⟨by rfl, ?_⟩) ?_ ?_
                                       rotate_left
                                       ·intro w'
                                        go_simp
                                        with_reducible rfl
                                       rotate_left
                                       ·simp only [Act.put, List.setIfInBounds_toArray, List.set_cons_zero, List.set_cons_succ, i64_w, i32_w]
                                        rfl
                                       refine pure_ (i := 5) (N := some 112) (v := ?_) (a' := ?_) #[true,true,false,false,true,true,false,false,false,false,false,false,false] rfl rfl (any_of HT_.out (by kernel_rfl)) (fun _ _ _ h => h) (Or.inl ⟨by rfl, ?_⟩) ?_ ?_
                                       rotate_left
                                       ·intro w'
                                        go_simp
                                        with_reducible rfl
                                       rotate_left
                                       ·simp only [Act.put, List.setIfInBounds_toArray, List.set_cons_zero, List.set_cons_succ, i64_w, i32_w]
                                        rfl
                                       refine pure_ (i := 6) (N := some 113) (v := ?_) (a' := ?_) #[true,true,false,false,true,true,true,false,false,false,false,false,false] rfl rfl (any_of HT_.out (by kernel_rfl)) (fun _ _ _ h => h) (Or.inl ⟨by rfl, ?_⟩) ?_ ?_
                                       rotate_left
                                       ·intro w'
                                        go_simp
                                        with_reducible rfl
                                       rotate_left
                                       ·simp only [Act.put, List.setIfInBounds_toArray, List.set_cons_zero, List.set_cons_succ, i64_w, i32_w]
                                        rfl
                                       refine pure_ (i := 7) (N := some 114) (v := ?_) (a' := ?_) #[true,true,false,false,true,true,true,true,false,false,false,false,false] rfl rfl (any_of HT_.out (by kernel_rfl)) (fun _ _ _ h => h) (Or.inl ⟨by rfl, ?_⟩) ?_ ?_
                                       rotate_left
                                       ·intro w'
                                        go_simp
                                        with_reducible rfl
                                       rotate_left
                                       ·simp only [Act.put, List.setIfInBounds_toArray, List.set_cons_zero, List.set_cons_succ, i64_w, i32_w]
                                        rfl
                                       refine pure_ (i := 8) (N := some 115) (v := ?_) (a' := ?_) #[true,true,false,false,true,true,true,true,true,false,false,false,false] rfl rfl (any_of HT_.out (by kernel_rfl)) (fun _ _ _ h => h) (Or.inl ⟨by rfl, ?_⟩) ?_ ?_
                                       rotate_left
                                       ·intro w'
                                        go_simp
                                        with_reducible rfl
                                       rotate_left
                                       ·simp only [Act.put, List.setIfInBounds_toArray, List.set_cons_zero, List.set_cons_succ, i64_w, i32_w]
                                        rfl
                                       refine take_ (i := 2) (N := some 109) (v := ?_) (a' := ?_) #[true,true,true,false,true,true,true,true,true,false,false,false,false] rfl rfl (take_ofW HT_.out HW_.out (by kernel_rfl)) (fun _ _ _ h => h) (Or.inl ⟨by rfl, ?_⟩) hHeld ?_ ?_
                                       rotate_left
                                       ·rintro w' ⟨s0, s1, s2, s3⟩
                                        go_simp
                                        with_reducible rfl
                                       rotate_left
                                       ·simp only [Act.put, List.setIfInBounds_toArray, List.set_cons_zero, List.set_cons_succ, i64_w, i32_w]
                                        rfl
                                       refine pure_ (i := 3) (N := some 110) (v := ?_) (a' := ?_) #[true,true,true,true,true,true,true,true,true,false,false,false,false] rfl rfl (any_of HT_.out (by kernel_rfl)) (fun _ _ _ h => h) (Or.inl ⟨by rfl, ?_⟩) ?_ ?_
                                       rotate_left
                                       ·intro w'
                                        go_simp
                                        with_reducible rfl
                                       rotate_left
                                       ·simp only [Act.put, List.setIfInBounds_toArray, List.set_cons_zero, List.set_cons_succ, i64_w, i32_w]
                                        rfl
                                       refine take_ (i := 9) (N := some 116) (v := ?_) (a' := ?_) #[true,true,true,true,true,true,true,true,true,true,false,false,false] rfl rfl (take_ofW HT_.out HW_.out (by kernel_rfl)) (fun _ _ _ h => h) (Or.inl ⟨by rfl, ?_⟩) hHeld ?_ ?_
                                       rotate_left
                                       ·rintro w' ⟨s0, s1, s2, s3⟩
                                        go_simp
                                        with_reducible rfl
                                       rotate_left
                                       ·simp only [Act.put, List.setIfInBounds_toArray, List.set_cons_zero, List.set_cons_succ, i64_w, i32_w]
                                        rfl
                                       refine pure_ (i := 10) (N := some 117) (v := ?_) (a' := ?_) #[true,true,true,true,true,true,true,true,true,true,true,false,false] rfl rfl (any_of HT_.out (by kernel_rfl)) (fun _ _ _ h => h) (Or.inl ⟨by rfl, ?_⟩) ?_ ?_
                                       rotate_left
                                       ·intro w'
                                        go_simp
                                        with_reducible rfl
                                       rotate_left
                                       ·simp only [Act.put, List.setIfInBounds_toArray, List.set_cons_zero, List.set_cons_succ, i64_w, i32_w]
                                        rfl
                                       refine one_ (i := 11) (N := some 118) #[true,true,true,true,true,true,true,true,true,true,true,true,false] rfl rfl (one_of HT_.out (by kernel_rfl)) (by decide) (fun K hK => ?_)
                                       refine goes_ Try.func44 (by kernel_rfl) rfl #[.int .i64 (wrap64 (a0_0 - 1)), .int .i64 (wrap64 (x11_3 + ((rd_T58 l1 x13_6).f1)))] (by rfl) rfl rfl (by (try simp only [List.map_toArray, List.map_cons, List.map_nil]); first | done | rfl | (simp only [List.length_drop, List.length_take]; rfl)) ?_
                                       with_reducible refine (spec_l1Least.calls (wrap64 (a0_0 - 1)) (wrap64 (x11_3 + ((rd_T58 l1 x13_6).f1))) t154 _ A59.out).mono ?_
                                       rintro e w' ⟨rfl, ⟨nd, rfl⟩⟩
                                       refine ⟨_, rfl, ?_⟩
                                       refine hK.out _ _ ⟨(blk_cell BK134.out 0).trans rfl, (blk_cell BK134.out 1).trans rfl, ((HB.out.cell (World.block_lt_of_cell? w _ hw153_0)).trans hw153_0), ((HB.out.cell (World.block_lt_of_cell? w _ hw153_1)).trans hw153_1)⟩ (fun hHeld => ?_)
                                       clear hK K
                                       refine norm_ (a' := ?_) ?_ ?_
                                       rotate_left
                                       ·show Act.put _ (some 118) _ = _
                                        simp only [Act.put, List.setIfInBounds_toArray, List.set_cons_zero, List.set_cons_succ, i64_w, i32_w]
                                        rfl
                                       refine pure_ (i := 12) (N := some 119) (v := ?_) (a' := ?_) #[true,true,true,true,true,true,true,true,true,true,true,true,true] rfl rfl (any_of HT_.out (by kernel_rfl)) (fun _ _ _ h => h) (Or.inl ⟨by rfl, ?_⟩) ?_ ?_
                                       rotate_left
                                       ·intro w'
                                        go_simp
                                        with_reducible rfl
                                       rotate_left
                                       ·simp only [Act.put, List.setIfInBounds_toArray, List.set_cons_zero, List.set_cons_succ, i64_w, i32_w]
                                        rfl
                                       refine done_ (done_of HT_.out (by kernel_rfl)) ?_
                                       try go_wp2
                                       (try (rw [drewN_self w74]; generalize hq_ : World.drewN w74 _ = w74; have n0_ : Aside0 (Kd.S (Kd.slice 3 (Kd.int .i64)) 24 w74 w.heap.size (fun _ => True) (.slice (some ad145) x5_8.length co28) x5_8) := ⟨by rw [← hq_]; exact (by (with_reducible repeat (first | apply Kd.S_alloc | apply Kd.S_drewN | apply Kd.S_drew)); exact HO_5.out)⟩; have n1_ : Aside0 (w74.heap[gb134]? = some (.cells #[.int .i64 a0_0, .bool a0_1] 27 (0, 0))) := ⟨by rw [← hq_]; exact (by (with_reducible repeat (first | refine blk_drewN ?_ _ | refine blk_drew ?_ | refine blk_alloc ?_ _)); exact BK134.out)⟩; have n2_ : Aside0 (Below w.heap.size w w74) := ⟨by rw [← hq_]; exact (by repeat (first | (with_reducible first | exact HB.out | apply below_alloc | apply pw_below_drewN | apply below_drew1 | refine below_set ?_ GE134.out) | exact HB.out))⟩; clear HO_5 BK134 HB hq_; have HO_5 := n0_; have BK134 := n1_; have HB := n2_; clear n0_ n1_ n2_; have hcq134_0 : w74.cell? ⟨gb134, 0, none⟩ = some (.int .i64 a0_0) := (blk_cell BK134.out 0).trans rfl; have hfq134_0 := blk_frozen BK134.out 0; have hcq134_1 : w74.cell? ⟨gb134, 1, none⟩ = some (.bool a0_1) := (blk_cell BK134.out 1).trans rfl; have hfq134_1 := blk_frozen BK134.out 1))
                                       have n0_ := Aside0.mk (Kd.S_drew HO_5.out)
                                       have n1_ := Aside0.mk (blk_drew BK134.out)
                                       have n2_ := Aside0.mk (below_drew1 HB.out)
                                       clear HO_5
                                       clear BK134
                                       clear HB
                                       have HO_5 := n0_
                                       have BK134 := n1_
                                       have HB := n2_
                                       clear n0_ n1_ n2_
                                       have p155 : 0 ≤ (x13_6 : Int) := of_decide_eq_true (by first | (with_reducible assumption) | assumption)
                                       have q155 : x13_6 < (l1.length : Int) := of_decide_eq_true (by first | (with_reducible assumption) | assumption)
                                       obtain ⟨ad155, e155, hx155_0, hx155_1⟩ := at_T58 HR1.out x13_6 p155 q155
                                       have hw155_1 := hx155_1
                                       have hw155_0 := hx155_0
                                       obtain rfl : ad151 = ad155 := (by injection e155)
                                       replace hx155_0 := (HB.out.cell (World.block_lt_of_cell? w _ hx155_0)).trans hx155_0
                                       replace hx155_1 := (HB.out.cell (World.block_lt_of_cell? w _ hx155_1)).trans hx155_1
                                       replace p155 := eq_true p155
                                       replace q155 := eq_true q155
                                       refine start_ (n := 12) (S := fun w' => w'.cell? ⟨gb134, 0, none⟩ = some (.int .i64 a0_0) ∧ w'.cell? ⟨gb134, 1, none⟩ = some (.bool a0_1) ∧ w'.cell? (ad151.add ((x13_6).toNat * 2)) = some (.int .i64 ((rd_T58 l1 x13_6).f0)) ∧ w'.cell? ⟨(ad151.add ((x13_6).toNat * 2)).block, (ad151.add ((x13_6).toNat * 2)).off + 1, none⟩ = some (.int .i64 ((rd_T58 l1 x13_6).f1))) (ds := []) #[false,false,false,false,false,false,false,false,false,false,false,false] (by kernel_rfl) rfl rfl ⟨(blk_cell BK134.out 0).trans rfl, (blk_cell BK134.out 1).trans rfl, ((HB.out.cell (World.block_lt_of_cell? w _ hw155_0)).trans hw155_0), ((HB.out.cell (World.block_lt_of_cell? w _ hw155_1)).trans hw155_1)⟩ (fun hHeld => ?_); refine with_tabW spec_l9Sum.tab30 spec_l9Sum.bits30 (fun HT_ HW_ => ?_)
                                       generalize w74.drew = w75 at HO_5 BK134 HB hx155_0 hx155_1 hHeld ⊢
                                       refine pure_ (i := 0) (N := some 122) (v := ?_) (a' := ?_) #[true,false,false,false,false,false,false,false,false,false,false,false] rfl rfl (any_of HT_.out (by kernel_rfl)) (fun _ _ _ h => h) (Or.inl ⟨by rfl, ?_⟩) ?_ ?_
                                       rotate_left
                                       ·intro w'
                                        go_simp
                                        with_reducible rfl
                                       rotate_left
                                       ·simp only [Act.put, List.setIfInBounds_toArray, List.set_cons_zero, List.set_cons_succ, i64_w, i32_w]
                                        rfl
                                       refine pure_ (i := 2) (N := some 124) (v := ?_) (a' := ?_) #[true,false,true,false,false,false,false,false,false,false,false,false] rfl rfl (any_of HT_.out (by kernel_rfl)) (fun _ _ _ h => h) (Or.inl ⟨by rfl, ?_⟩) ?_ ?_
                                       rotate_left
                                       ·intro w'
                                        go_simp
                                        with_reducible rfl
                                       rotate_left
                                       ·simp only [Act.put, List.setIfInBounds_toArray, List.set_cons_zero, List.set_cons_succ, i64_w, i32_w]
                                        rfl
                                       refine pure_ (i := 3) (N := some 125) (v := ?_) (a' := ?_) #[true,false,true,true,false,false,false,false,false,false,false,false] rfl rfl (any_of HT_.out (by kernel_rfl)) (fun _ _ _ h => h) (Or.inl ⟨by rfl, ?_⟩) ?_ ?_
                                       rotate_left
                                       ·intro w'
                                        go_simp
                                        with_reducible rfl
                                       rotate_left
                                       ·simp only [Act.put, List.setIfInBounds_toArray, List.set_cons_zero, List.set_cons_succ, i64_w, i32_w]
                                        rfl
                                       refine pure_ (i := 4) (N := some 126) (v := ?_) (a' := ?_) #[true,false,true,true,true,false,false,false,false,false,false,false] rfl rfl (any_of HT_.out (by kernel_rfl)) (fun _ _ _ h => h) (Or.inl ⟨by rfl, ?_⟩) ?_ ?_
                                       rotate_left
                                       ·intro w'
                                        go_simp
                                        with_reducible rfl
                                       rotate_left
                                       ·simp only [Act.put, List.setIfInBounds_toArray, List.set_cons_zero, List.set_cons_succ, i64_w, i32_w]
                                        rfl
                                       refine pure_ (i := 5) (N := some 127) (v := ?_) (a' := ?_) #[true,false,true,true,true,true,false,false,false,false,false,false] rfl rfl (any_of HT_.out (by kernel_rfl)) (fun _ _ _ h => h) (Or.inl ⟨by rfl, ?_⟩) ?_ ?_
                                       rotate_left
                                       ·intro w'
                                        go_simp
                                        with_reducible rfl
                                       rotate_left
                                       ·simp only [Act.put, List.setIfInBounds_toArray, List.set_cons_zero, List.set_cons_succ, i64_w, i32_w]
                                        rfl
                                       refine pure_ (i := 6) (N := some 128) (v := ?_) (a' := ?_) #[true,false,true,true,true,true,true,false,false,false,false,false] rfl rfl (any_of HT_.out (by kernel_rfl)) (fun _ _ _ h => h) (Or.inl ⟨by rfl, ?_⟩) ?_ ?_
                                       rotate_left
                                       ·intro w'
                                        go_simp
                                        with_reducible rfl
                                       rotate_left
                                       ·simp only [Act.put, List.setIfInBounds_toArray, List.set_cons_zero, List.set_cons_succ, i64_w, i32_w]
                                        rfl
                                       refine take_ (i := 1) (N := some 123) (v := ?_) (a' := ?_) #[true,true,true,true,true,true,true,false,false,false,false,false] rfl rfl (take_ofW HT_.out HW_.out (by kernel_rfl)) (fun _ _ _ h => h) (Or.inl ⟨by rfl, ?_⟩) hHeld ?_ ?_
                                       rotate_left
                                       ·rintro w' ⟨s0, s1, s2, s3⟩
                                        go_simp
                                        with_reducible rfl
                                       rotate_left
                                       ·simp only [Act.put, List.setIfInBounds_toArray, List.set_cons_zero, List.set_cons_succ, i64_w, i32_w]
                                        rfl
                                       refine take_ (i := 7) (N := some 129) (v := ?_) (a' := ?_) #[true,true,true,true,true,true,true,true,false,false,false,false] rfl rfl (take_ofW HT_.out HW_.out (by kernel_rfl)) (fun _ _ _ h => h) (Or.inl ⟨by rfl, ?_⟩) hHeld ?_ ?_
                                       rotate_left
                                       ·rintro w' ⟨s0, s1, s2, s3⟩
                                        go_simp
                                        with_reducible rfl
                                       rotate_left
                                       ·simp only [Act.put, List.setIfInBounds_toArray, List.set_cons_zero, List.set_cons_succ, i64_w, i32_w]
                                        rfl
                                       refine pure_ (i := 8) (N := some 130) (v := ?_) (a' := ?_) #[true,true,true,true,true,true,true,true,true,false,false,false] rfl rfl (any_of HT_.out (by kernel_rfl)) (fun _ _ _ h => h) (Or.inl ⟨by rfl, ?_⟩) ?_ ?_
                                       rotate_left
                                       ·intro w'
                                        go_simp
                                        with_reducible rfl
                                       rotate_left
                                       ·simp only [Act.put, List.setIfInBounds_toArray, List.set_cons_zero, List.set_cons_succ, i64_w, i32_w]
                                        rfl
                                       refine pure_ (i := 9) (N := some 131) (v := ?_) (a' := ?_) #[true,true,true,true,true,true,true,true,true,true,false,false] rfl rfl (any_of HT_.out (by kernel_rfl)) (fun _ _ _ h => h) (Or.inl ⟨by rfl, ?_⟩) ?_ ?_
                                       rotate_left
                                       ·intro w'
                                        go_simp
                                        with_reducible rfl
                                       rotate_left
                                       ·simp only [Act.put, List.setIfInBounds_toArray, List.set_cons_zero, List.set_cons_succ, i64_w, i32_w]
                                        rfl
                                       refine one_ (i := 10) (N := some 132) #[true,true,true,true,true,true,true,true,true,true,true,false] rfl rfl (one_of HT_.out (by kernel_rfl)) (by decide) (fun K hK => ?_)
                                       refine goes_ Try.func44 (by kernel_rfl) rfl #[.int .i64 a0_0, .int .i64 (wrap64 ((wrap64 (x14_8 + ((rd_T58 l1 x13_6).f1))) + 1))] (by rfl) rfl rfl (by (try simp only [List.map_toArray, List.map_cons, List.map_nil]); first | done | rfl | (simp only [List.length_drop, List.length_take]; rfl)) ?_
                                       with_reducible refine (spec_l1Least.calls a0_0 (wrap64 ((wrap64 (x14_8 + ((rd_T58 l1 x13_6).f1))) + 1)) t156 _ A61.out).mono ?_
                                       rintro e w' ⟨rfl, ⟨nd, rfl⟩⟩
                                       refine ⟨_, rfl, ?_⟩
                                       refine hK.out _ _ ⟨(blk_cell BK134.out 0).trans rfl, (blk_cell BK134.out 1).trans rfl, ((HB.out.cell (World.block_lt_of_cell? w _ hw155_0)).trans hw155_0), ((HB.out.cell (World.block_lt_of_cell? w _ hw155_1)).trans hw155_1)⟩ (fun hHeld => ?_)
                                       clear hK K
                                       refine norm_ (a' := ?_) ?_ ?_
                                       rotate_left
                                       ·show Act.put _ (some 132) _ = _
                                        simp only [Act.put, List.setIfInBounds_toArray, List.set_cons_zero, List.set_cons_succ, i64_w, i32_w]
                                        rfl
                                       refine pure_ (i := 11) (N := some 15) (v := ?_) (a' := ?_) #[true,true,true,true,true,true,true,true,true,true,true,true] rfl rfl (any_of HT_.out (by kernel_rfl)) (fun _ _ _ h => h) (Or.inl ⟨by rfl, ?_⟩) ?_ ?_
                                       rotate_left
                                       ·intro w'
                                        go_simp
                                        with_reducible rfl
                                       rotate_left
                                       ·simp only [Act.put, List.setIfInBounds_toArray, List.set_cons_zero, List.set_cons_succ, i64_w, i32_w]
                                        rfl
                                       refine done_ (done_of HT_.out (by kernel_rfl)) ?_
                                       try go_wp2
                                       (try (rw [drewN_self w75]; generalize hq_ : World.drewN w75 _ = w75; have n0_ : Aside0 (Kd.S (Kd.slice 3 (Kd.int .i64)) 24 w75 w.heap.size (fun _ => True) (.slice (some ad145) x5_8.length co28) x5_8) := ⟨by rw [← hq_]; exact (by (with_reducible repeat (first | apply Kd.S_alloc | apply Kd.S_drewN | apply Kd.S_drew)); exact HO_5.out)⟩; have n1_ : Aside0 (w75.heap[gb134]? = some (.cells #[.int .i64 a0_0, .bool a0_1] 27 (0, 0))) := ⟨by rw [← hq_]; exact (by (with_reducible repeat (first | refine blk_drewN ?_ _ | refine blk_drew ?_ | refine blk_alloc ?_ _)); exact BK134.out)⟩; have n2_ : Aside0 (Below w.heap.size w w75) := ⟨by rw [← hq_]; exact (by repeat (first | (with_reducible first | exact HB.out | apply below_alloc | apply pw_below_drewN | apply below_drew1 | refine below_set ?_ GE134.out) | exact HB.out))⟩; clear HO_5 BK134 HB hq_; have HO_5 := n0_; have BK134 := n1_; have HB := n2_; clear n0_ n1_ n2_; have hcq134_0 : w75.cell? ⟨gb134, 0, none⟩ = some (.int .i64 a0_0) := (blk_cell BK134.out 0).trans rfl; have hfq134_0 := blk_frozen BK134.out 0; have hcq134_1 : w75.cell? ⟨gb134, 1, none⟩ = some (.bool a0_1) := (blk_cell BK134.out 1).trans rfl; have hfq134_1 := blk_frozen BK134.out 1))
                                       have n0_ := Aside0.mk (Kd.S_drew HO_5.out)
                                       have n1_ := Aside0.mk (blk_drew BK134.out)
                                       have n2_ := Aside0.mk (below_drew1 HB.out)
                                       clear HO_5
                                       clear BK134
                                       clear HB
                                       have HO_5 := n0_
                                       have BK134 := n1_
                                       have HB := n2_
                                       clear n0_ n1_ n2_
                                       have p157 : 0 ≤ (x13_6 : Int) := of_decide_eq_true (by first | (with_reducible assumption) | assumption)
                                       have q157 : x13_6 < (l1.length : Int) := of_decide_eq_true (by first | (with_reducible assumption) | assumption)
                                       obtain ⟨ad157, e157, hx157_0, hx157_1⟩ := at_T58 HR1.out x13_6 p157 q157
                                       have hw157_1 := hx157_1
                                       have hw157_0 := hx157_0
                                       obtain rfl : ad151 = ad157 := (by injection e157)
                                       replace hx157_0 := (HB.out.cell (World.block_lt_of_cell? w _ hx157_0)).trans hx157_0
                                       replace hx157_1 := (HB.out.cell (World.block_lt_of_cell? w _ hx157_1)).trans hx157_1
                                       replace p157 := eq_true p157
                                       replace q157 := eq_true q157
                                       refine start_ (n := 11) (S := fun w' => w'.cell? ⟨gb134, 0, none⟩ = some (.int .i64 a0_0) ∧ w'.cell? ⟨gb134, 1, none⟩ = some (.bool a0_1) ∧ w'.cell? (ad151.add ((x13_6).toNat * 2)) = some (.int .i64 ((rd_T58 l1 x13_6).f0)) ∧ w'.cell? ⟨(ad151.add ((x13_6).toNat * 2)).block, (ad151.add ((x13_6).toNat * 2)).off + 1, none⟩ = some (.int .i64 ((rd_T58 l1 x13_6).f1))) (ds := []) #[false,false,false,false,false,false,false,false,false,false,false] (by kernel_rfl) rfl rfl ⟨(blk_cell BK134.out 0).trans rfl, (blk_cell BK134.out 1).trans rfl, ((HB.out.cell (World.block_lt_of_cell? w _ hw157_0)).trans hw157_0), ((HB.out.cell (World.block_lt_of_cell? w _ hw157_1)).trans hw157_1)⟩ (fun hHeld => ?_); refine with_tabW spec_l9Sum.tab31 spec_l9Sum.bits31 (fun HT_ HW_ => ?_)
                                       generalize w75.drew = w76 at HO_5 BK134 HB hx157_0 hx157_1 hHeld ⊢
                                       refine pure_ (i := 0) (N := some 133) (v := ?_) (a' := ?_) #[true,false,false,false,false,false,false,false,false,false,false] rfl rfl (any_of HT_.out (by kernel_rfl)) (fun _ _ _ h => h) (Or.inl ⟨by rfl, ?_⟩) ?_ ?_
                                       rotate_left
                                       ·intro w'
                                        go_simp
                                        with_reducible rfl
                                       rotate_left
                                       ·simp only [Act.put, List.setIfInBounds_toArray, List.set_cons_zero, List.set_cons_succ, i64_w, i32_w]
                                        rfl
                                       refine pure_ (i := 2) (N := some 135) (v := ?_) (a' := ?_) #[true,false,true,false,false,false,false,false,false,false,false] rfl rfl (any_of HT_.out (by kernel_rfl)) (fun _ _ _ h => h) (Or.inl ⟨by rfl, ?_⟩) ?_ ?_
                                       rotate_left
                                       ·intro w'
                                        go_simp
                                        with_reducible rfl
                                       rotate_left
                                       ·simp only [Act.put, List.setIfInBounds_toArray, List.set_cons_zero, List.set_cons_succ, i64_w, i32_w]
                                        rfl
                                       refine pure_ (i := 3) (N := some 136) (v := ?_) (a' := ?_) #[true,false,true,true,false,false,false,false,false,false,false] rfl rfl (any_of HT_.out (by kernel_rfl)) (fun _ _ _ h => h) (Or.inl ⟨by rfl, ?_⟩) ?_ ?_
                                       rotate_left
                                       ·intro w'
                                        go_simp
                                        with_reducible rfl
                                       rotate_left
                                       ·simp only [Act.put, List.setIfInBounds_toArray, List.set_cons_zero, List.set_cons_succ, i64_w, i32_w]
                                        rfl
                                       refine pure_ (i := 4) (N := some 137) (v := ?_) (a' := ?_) #[true,false,true,true,true,false,false,false,false,false,false] rfl rfl (any_of HT_.out (by kernel_rfl)) (fun _ _ _ h => h) (Or.inl ⟨by rfl, ?_⟩) ?_ ?_
                                       rotate_left
                                       ·intro w'
                                        go_simp
                                        with_reducible rfl
                                       rotate_left
                                       ·simp only [Act.put, List.setIfInBounds_toArray, List.set_cons_zero, List.set_cons_succ, i64_w, i32_w]
                                        rfl
                                       refine pure_ (i := 5) (N := some 138) (v := ?_) (a' := ?_) #[true,false,true,true,true,true,false,false,false,false,false] rfl rfl (any_of HT_.out (by kernel_rfl)) (fun _ _ _ h => h) (Or.inl ⟨by rfl, ?_⟩) ?_ ?_
                                       rotate_left
                                       ·intro w'
                                        go_simp
                                        with_reducible rfl
                                       rotate_left
                                       ·simp only [Act.put, List.setIfInBounds_toArray, List.set_cons_zero, List.set_cons_succ, i64_w, i32_w]
                                        rfl
                                       refine pure_ (i := 7) (N := some 140) (v := ?_) (a' := ?_) #[true,false,true,true,true,true,false,true,false,false,false] rfl rfl (any_of HT_.out (by kernel_rfl)) (fun _ _ _ h => h) (Or.inl ⟨by rfl, ?_⟩) ?_ ?_
                                       rotate_left
                                       ·intro w'
                                        go_simp
                                        with_reducible rfl
                                       rotate_left
                                       ·simp only [Act.put, List.setIfInBounds_toArray, List.set_cons_zero, List.set_cons_succ, i64_w, i32_w]
                                        rfl
                                       refine take_ (i := 1) (N := some 134) (v := ?_) (a' := ?_) #[true,true,true,true,true,true,false,true,false,false,false] rfl rfl (take_ofW HT_.out HW_.out (by kernel_rfl)) (fun _ _ _ h => h) (Or.inl ⟨by rfl, ?_⟩) hHeld ?_ ?_
                                       rotate_left
                                       ·rintro w' ⟨s0, s1, s2, s3⟩
                                        go_simp
                                        with_reducible rfl
                                       rotate_left
                                       ·simp only [Act.put, List.setIfInBounds_toArray, List.set_cons_zero, List.set_cons_succ, i64_w, i32_w]
                                        rfl
                                       refine take_ (i := 6) (N := some 139) (v := ?_) (a' := ?_) #[true,true,true,true,true,true,true,true,false,false,false] rfl rfl (take_ofW HT_.out HW_.out (by kernel_rfl)) (fun _ _ _ h => h) (Or.inl ⟨by rfl, ?_⟩) hHeld ?_ ?_
                                       rotate_left
                                       ·rintro w' ⟨s0, s1, s2, s3⟩
                                        go_simp
                                        with_reducible rfl
                                       rotate_left
                                       ·simp only [Act.put, List.setIfInBounds_toArray, List.set_cons_zero, List.set_cons_succ, i64_w, i32_w]
                                        rfl
                                       refine one_ (i := 8) (N := some 141) #[true,true,true,true,true,true,true,true,true,false,false] rfl rfl (one_of HT_.out (by kernel_rfl)) (by decide) (fun K hK => ?_)
                                       refine goes_ Try.func55 (by kernel_rfl) rfl #[.agg #[.int .i64 a0_0, .bool a0_1], .int .i64 ((rd_T58 l1 x13_6).f0), .int .i64 x14_8] (by rfl) rfl rfl (by (try simp only [List.map_toArray, List.map_cons, List.map_nil]); first | done | rfl | (simp only [List.length_drop, List.length_take]; rfl)) ?_
                                       with_reducible refine (spec_l2Gap.calls a0_0 a0_1 ((rd_T58 l1 x13_6).f0) x14_8 t158 _ A62.out).mono ?_
                                       rintro e w77 ⟨rfl, hb⟩
                                       refine ⟨_, rfl, ?_⟩
                                       have n0_ := Aside0.mk (Kd.S_below (by (with_reducible repeat (first | apply Kd.S_alloc | apply Kd.S_drewN | apply Kd.S_drew)); exact HO_5.out) hb)
                                       have n1_ := Aside0.mk (blk_below (g := gb134) (o := .cells #[.int .i64 a0_0, .bool a0_1] 27 (0, 0)) (by (with_reducible repeat (first | refine blk_drewN ?_ _ | refine blk_drew ?_ | refine blk_alloc ?_ _)); exact BK134.out) hb)
                                       have n2_ := Aside0.mk (below_step (by repeat (first | (with_reducible first | exact HB.out | apply below_alloc | apply pw_below_drewN | apply below_drew1 | refine below_set ?_ GE134.out) | exact HB.out)) hb)
                                       clear HO_5
                                       clear BK134
                                       clear HB
                                       have HO_5 := n0_
                                       have BK134 := n1_
                                       have HB := n2_
                                       clear n0_ n1_ n2_
                                       (try clear hb)
                                       (try clear hb2)
                                       (try clear hk)
                                       (try clear hi)
                                       refine hK.out _ _ ⟨(blk_cell BK134.out 0).trans rfl, (blk_cell BK134.out 1).trans rfl, ((HB.out.cell (World.block_lt_of_cell? w _ hw157_0)).trans hw157_0), ((HB.out.cell (World.block_lt_of_cell? w _ hw157_1)).trans hw157_1)⟩ (fun hHeld => ?_)
                                       clear hK K
                                       refine norm_ (a' := ?_) ?_ ?_
                                       rotate_left
                                       ·show Act.put _ (some 141) _ = _
                                        simp only [Act.put, List.setIfInBounds_toArray, List.set_cons_zero, List.set_cons_succ, i64_w, i32_w]
                                        rfl
                                       refine pure_ (i := 9) (N := some 142) (v := ?_) (a' := ?_) #[true,true,true,true,true,true,true,true,true,true,false] rfl rfl (any_of HT_.out (by kernel_rfl)) (fun _ _ _ h => h) (Or.inl ⟨by rfl, ?_⟩) ?_ ?_
                                       rotate_left
                                       ·intro w'
                                        go_simp
                                        with_reducible rfl
                                       rotate_left
                                       ·simp only [Act.put, List.setIfInBounds_toArray, List.set_cons_zero, List.set_cons_succ, i64_w, i32_w]
                                        rfl
                                       refine pure_ (i := 10) (N := some 16) (v := ?_) (a' := ?_) #[true,true,true,true,true,true,true,true,true,true,true] rfl rfl (any_of HT_.out (by kernel_rfl)) (fun _ _ _ h => h) (Or.inl ⟨by rfl, ?_⟩) ?_ ?_
                                       rotate_left
                                       ·intro w'
                                        go_simp
                                        with_reducible rfl
                                       rotate_left
                                       ·simp only [Act.put, List.setIfInBounds_toArray, List.set_cons_zero, List.set_cons_succ, i64_w, i32_w]
                                        rfl
                                       refine done_ (done_of HT_.out (by kernel_rfl)) ?_
                                       have p159 : 0 ≤ ((ji65) : Int) := of_decide_eq_true (by first | (with_reducible assumption) | assumption)
                                       have q159 : (ji65) < (x5_8.length : Int) := of_decide_eq_true (by first | (with_reducible assumption) | assumption)
                                       obtain ⟨ad159, A159_0, c159_0, e159, hx159_0, hl159_0, hi159_0⟩ := at_L3 (Kd.S_reads' HO_5.out).2.2 (ji65) p159 q159
                                       obtain rfl : ad145 = ad159 := (by injection e159)
                                       obtain ⟨ce159, hce159, hMe159, hcc159⟩ := Kd.S_get HO_5.out [] (ji65) p159 (by first | exact q159 | exact of_decide_eq_true (by first | (with_reducible assumption) | assumption) | (have e_ := (Kd.S_reads' HO_5.out).1; omega))
                                       obtain ⟨ve159_0, rfl, ge159_0⟩ := hMe159
                                       have hv159_0 := hcc159 0 _ rfl
                                       rw [Nat.add_zero, show ((Kd.slice 3 (Kd.int .i64))).sz = 1 from rfl, Nat.mul_one] at hv159_0
                                       replace hv159_0 := Option.some.inj (hv159_0.symm.trans hx159_0)
                                       rw [hv159_0] at ge159_0
                                       have HL159_0 := Aside0.mk (show Kd.R (Kd.int .i64) 3 _ _ _ _ (rd_L3 x5_8 (ji65)) from ge159_0)
                                       clear hv159_0 ge159_0
                                       have HX159_0 := Aside0.mk hx159_0
                                       clear hcc159 hce159
                                       have HR159_0 := Aside0.mk hi159_0
                                       have HC159_0 := Aside0.mk hl159_0
                                       clear hi159_0 hl159_0
                                       replace p159 := eq_true p159
                                       replace q159 := eq_true q159
                                       have p160 : 0 ≤ (t156 : Int) := of_decide_eq_true (by first | (with_reducible assumption) | assumption)
                                       have q160 : t156 < ((rd_L3 x5_8 (ji65)).length : Int) := of_decide_eq_true (by first | (with_reducible assumption) | assumption)
                                       obtain ⟨ad160, e160, hx160_0⟩ := Kd.at_int (by repeat (first | (with_reducible exact HR159_0.out) | (with_reducible refine Kd.C_alloc ?_ _) | (with_reducible refine Kd.C_drewN ?_ _) | (with_reducible refine Kd.C_drew ?_) | exact HR159_0.out)) t156 p160 q160
                                       cases e160
                                       replace p160 := eq_true p160
                                       replace q160 := eq_true q160
                                       have p161 : 0 ≤ ((ji65) : Int) := of_decide_eq_true (by first | (with_reducible assumption) | assumption)
                                       have q161 : (ji65) < (x5_8.length : Int) := of_decide_eq_true (by first | (with_reducible assumption) | assumption)
                                       obtain ⟨ad161, A161_0, c161_0, e161, hx161_0, hl161_0, hi161_0⟩ := at_L3 (Kd.S_reads' HO_5.out).2.2 (ji65) p161 q161
                                       obtain rfl : ad145 = ad161 := (by injection e161)
                                       obtain ⟨ce161, hce161, hMe161, hcc161⟩ := Kd.S_get HO_5.out [] (ji65) p161 (by first | exact q161 | exact of_decide_eq_true (by first | (with_reducible assumption) | assumption) | (have e_ := (Kd.S_reads' HO_5.out).1; omega))
                                       obtain ⟨ve161_0, rfl, ge161_0⟩ := hMe161
                                       have hv161_0 := hcc161 0 _ rfl
                                       rw [Nat.add_zero, show ((Kd.slice 3 (Kd.int .i64))).sz = 1 from rfl, Nat.mul_one] at hv161_0
                                       replace hv161_0 := Option.some.inj (hv161_0.symm.trans hx161_0)
                                       rw [hv161_0] at ge161_0
                                       have HL161_0 := Aside0.mk (show Kd.R (Kd.int .i64) 3 _ _ _ _ (rd_L3 x5_8 (ji65)) from ge161_0)
                                       clear hv161_0 ge161_0
                                       have HX161_0 := Aside0.mk hx161_0
                                       clear hcc161 hce161
                                       have HR161_0 := Aside0.mk hi161_0
                                       have HC161_0 := Aside0.mk hl161_0
                                       clear hi161_0 hl161_0
                                       replace p161 := eq_true p161
                                       replace q161 := eq_true q161
                                       have ea_ := Option.some.inj (hx159_0.symm.trans hx161_0)
                                       injection ea_ with ea_ en_ ec_
                                       subst ea_
                                       subst ec_
                                       clear en_
                                       have p73 : 0 ≤ (t156 : Int) := of_decide_eq_true (by first | (with_reducible assumption) | assumption)
                                       have q73 : (t156 : Int) < (((rd_L3 x5_8 (ji65)).length : Int) : Int) := of_decide_eq_true (by first | (with_reducible assumption) | assumption)
                                       obtain ⟨go73, co73, eo73, gb73, gl73, cl73, HG73⟩ := Kd.R_form HL161_0.out (by omega)
                                       (first | cases eo73 | (injection eo73 with ea_ en_ ec_; (first | subst ea_ | (injection ea_ with ea_; subst ea_)); subst ec_; clear en_))
                                       have GB73 := Aside0.mk gb73
                                       have GG73 := Aside0.mk HG73
                                       clear gb73 gl73 HG73
                                       (first | simp only [add_plain] at hx160_0 | skip)
                                       obtain ⟨hx73_0, hf73_0⟩ := Kd.R_celln 0 HL161_0.out (t156 : Int) p73 q73
                                       replace p73 := eq_true p73
                                       replace q73 := eq_true q73
                                       have hq78 : ((ji65) : Int) < (x5_8.length : Int) := (by have h_ : ((ji65) : Int) < ((x5_8.length : Int) : Int) := of_decide_eq_true (by first | (with_reducible assumption) | assumption); first | exact h_ | (have e_ := (Kd.S_reads' HO_5.out).1; omega) | simpa only [List.length_set, List.length_set] using h_)
                                       obtain ⟨oki78, ce78, hcl78, hM78, hcc78, hok78, hbk78⟩ := Kd.S_borrow HO_5.out [] ((ji65) : Int) (of_decide_eq_true (by first | (with_reducible assumption) | assumption)) hq78
                                       obtain ⟨ve78_0, rfl, ge78_0⟩ := hM78
                                       have hv78 := hcc78 0 _ rfl
                                       rw [Nat.add_zero, show ((Kd.slice 3 (Kd.int .i64))).sz = 1 from rfl, Nat.mul_one] at hv78
                                       replace hv78 := Option.some.inj (hv78.symm.trans HX161_0.out)
                                       subst hv78
                                       clear hcc78 hcl78
                                       replace ge78_0 := (show Kd.R (Kd.int .i64) 3 _ _ _ _ (rd_L3 x5_8 (ji65)) from ge78_0)
                                       have HP78 := Kd.R_putg ge78_0 (t156 : Int) (wrap64 ((rd (rd_L3 x5_3 x10_2) x11_3) + t158))
                                       try go_wp2_with (first | ((with_reducible refine gate_store (t := 3) (p := 169) rfl ?_); refine store_event (t := 3) (p := 169) (v := ?vo_w79) (w1 := (w77.setCell ⟨go73, (t156 : Int).toNat, none⟩ (.int .i64 (wrap64 ((rd (rd_L3 x5_3 x10_2) x11_3) + t158))))) ?hg ?ho ?hn ?hr ?_; (case ho => rfl); (case hg => rfl); (case hn => rfl); (case hr => first | (go_simp; done) | (go_simp; rfl)); intro w79 hw; have hg : w77.grownBy w79 (some go73) := (by rw [hw]; exact HP78.2); have hz_ : Kd.R (Kd.int .i64) 3 w79 w.heap.size oki78 (.slice (some ⟨go73, 0, none⟩) (rd_L3 x5_8 (ji65)).length c159_0) y162 := (by rw [hw, Ny162.out]; exact HP78.1); have hp_ : Kd.S (Kd.slice 3 (Kd.int .i64)) 24 w79 w.heap.size (fun _ => True) (.slice (some ad145) x5_8.length co28) y164 := (by rw [Ny164.out]; exact hbk78 hg (fun k_ e_ => by injection e_ with e_; subst e_; exact ge78_0.1 _ rfl) (Kd.M_row hz_)); have hm_ := Kd.R_mono hz_ hok78; clear HP78 hbk78; have n0_ := Aside0.mk (hp_); have n1_ := Aside0.mk (blk_grown (g := gb134) (o := .cells #[.int .i64 a0_0, .bool a0_1] 27 (0, 0)) (by (with_reducible repeat (first | refine blk_drewN ?_ _ | refine blk_drew ?_ | refine blk_alloc ?_ _)); exact BK134.out) hg (Kd.R_ne HL161_0.out BK134.out (by decide))); have n2_ := Aside0.mk ((by rw [hw]; exact below_set (HB.out) GB73.out : Below w.heap.size w w79)); have n3_ := Aside0.mk (hm_); have n4_ := Aside0.mk ((Kd.R_reads' hm_).2.1); clear HO_5; clear BK134; clear HB; clear HL159_0; clear HL161_0; have HO_5 := n0_; have BK134 := n1_; have HB := n2_; have HL170 := n3_; have HC163 := n4_; clear n0_ n1_ n2_ n3_ n4_; clear hg hw hp_ hz_ hm_ hok78))
                                       (try simp only [← hl5_8])
                                       go_roundg k8
                                       case measure => have := HK1.out; have := HK2.out; have := HK3.out; have := HJ38.out; have := HJ45.out; have := HK6.out; have := HJ47.out; have := HK8.out; omega
                                       case rel => exact ⟨(y164), (wrap64 (x14_8 + 1)), (by first | rfl | (simp; done) | (simp [*]; done)), H', ⟨by have := HK1.out; have := HK2.out; have := HK3.out; have := HJ38.out; have := HJ45.out; have := HK6.out; have := HJ47.out; have := HK8.out; omega⟩, ⟨by (try simp only [hl5_2]); (try simp only [hl5_3]); (try simp only [hl5_6]); (try simp only [hl5_8]); (with_reducible repeat (first | apply Kd.S_alloc | apply Kd.S_drewN | apply Kd.S_drew)); exact HO_5.out⟩, ⟨by (try simp only [hl5_2]); (try simp only [hl5_3]); (try simp only [hl5_6]); (try simp only [hl5_8]); (with_reducible repeat (first | refine blk_drewN ?_ _ | refine blk_drew ?_ | refine blk_alloc ?_ _)); exact BK134.out⟩, ⟨by repeat (first | (with_reducible first | exact HB.out | apply below_alloc | apply pw_below_drewN | apply below_drew1 | refine below_set ?_ GE134.out) | exact HB.out)⟩⟩
                                      ·rw [if_neg c70] at H
                                       have c70b0 : decide ((rd (rd_L3 x5_8 (ji65)) t156) < 0) = false := decide_eq_false c70
                                       clear c70
                                       by_cases c80 : (wrap64 ((rd (rd_L3 x5_3 x10_2) x11_3) + t158)) < (rd (rd_L3 x5_8 (ji65)) t156)
                                       ·rw [if_pos c80] at H
                                        have c80b0 : decide ((wrap64 ((rd (rd_L3 x5_3 x10_2) x11_3) + t158)) < (rd (rd_L3 x5_8 (ji65)) t156)) = true := decide_eq_true c80
                                        clear c80
                                        have c81b0 := eq_true (of_decide_eq_true (by first | (with_reducible assumption) | assumption) : 0 ≤ x13_6)
                                        obtain ⟨y166, hy166⟩ : ∃ y_ : List Int, y_ = ((rd_L3 x5_8 (ji65)).set (t156 : Int).toNat (wrap64 ((rd (rd_L3 x5_3 x10_2) x11_3) + t158))) := ⟨_, rfl⟩
                                        replace H : (spec_l9Sum.l5 k8 l1 (x5_8.set ((ji65) : Int).toNat y166) x9_45 x10_2 x11_3 (rd (rd_L3 x5_3 x10_2) x11_3) x13_6 (wrap64 (x14_8 + 1)) a0_0 a0_1) = some r := by first | (rw [hy166]; with_reducible exact H) | (have H2_ := (Option.bind_some _ _).symm.trans H; rw [hy166]; with_reducible exact H2_) | (have H2_ := (Option.bind_some _ _).symm.trans H; with_reducible exact H2_) | with_reducible exact H | (rw [hy166]; exact H) | exact H
                                        have Ny166 := Aside0.mk hy166
                                        clear hy166
                                        obtain ⟨y168, hy168⟩ : ∃ y_ : List (List Int), y_ = (x5_8.set ((ji65) : Int).toNat y166) := ⟨_, rfl⟩
                                        replace H : (spec_l9Sum.l5 k8 l1 y168 x9_45 x10_2 x11_3 (rd (rd_L3 x5_3 x10_2) x11_3) x13_6 (wrap64 (x14_8 + 1)) a0_0 a0_1) = some r := by first | (rw [hy168]; with_reducible exact H) | (have H2_ := (Option.bind_some _ _).symm.trans H; rw [hy168]; with_reducible exact H2_) | (have H2_ := (Option.bind_some _ _).symm.trans H; with_reducible exact H2_) | with_reducible exact H | (rw [hy168]; exact H) | exact H
                                        have Ny168 := Aside0.mk hy168
                                        clear hy168
                                        have H' := Aside0.mk H
                                        clear H
                                        try go_wp2
                                        have n0_ := Aside0.mk (Kd.S_drew HO_5.out)
                                        have n1_ := Aside0.mk (blk_drew BK134.out)
                                        have n2_ := Aside0.mk (below_drew1 HB.out)
                                        clear HO_5
                                        clear BK134
                                        clear HB
                                        have HO_5 := n0_
                                        have BK134 := n1_
                                        have HB := n2_
                                        clear n0_ n1_ n2_
                                        have p153 : 0 ≤ (x13_6 : Int) := of_decide_eq_true (by first | (with_reducible assumption) | assumption)
                                        have q153 : x13_6 < (l1.length : Int) := of_decide_eq_true (by first | (with_reducible assumption) | assumption)
                                        obtain ⟨ad153, e153, hx153_0, hx153_1⟩ := at_T58 HR1.out x13_6 p153 q153
                                        have hw153_1 := hx153_1
                                        have hw153_0 := hx153_0
                                        obtain rfl : ad151 = ad153 := (by injection e153)
                                        replace hx153_0 := (HB.out.cell (World.block_lt_of_cell? w _ hx153_0)).trans hx153_0
                                        replace hx153_1 := (HB.out.cell (World.block_lt_of_cell? w _ hx153_1)).trans hx153_1
                                        replace p153 := eq_true p153
                                        replace q153 := eq_true q153
                                        refine start_ (n := 13) (S := fun w' => w'.cell? ⟨gb134, 0, none⟩ = some (.int .i64 a0_0) ∧ w'.cell? ⟨gb134, 1, none⟩ = some (.bool a0_1) ∧ w'.cell? (ad151.add ((x13_6).toNat * 2)) = some (.int .i64 ((rd_T58 l1 x13_6).f0)) ∧ w'.cell? ⟨(ad151.add ((x13_6).toNat * 2)).block, (ad151.add ((x13_6).toNat * 2)).off + 1, none⟩ = some (.int .i64 ((rd_T58 l1 x13_6).f1))) (ds := []) #[false,false,false,false,false,false,false,false,false,false,false,false,false] (by kernel_rfl) rfl rfl ⟨(blk_cell BK134.out 0).trans rfl, (blk_cell BK134.out 1).trans rfl, ((HB.out.cell (World.block_lt_of_cell? w _ hw153_0)).trans hw153_0), ((HB.out.cell (World.block_lt_of_cell? w _ hw153_1)).trans hw153_1)⟩ (fun hHeld => ?_); refine with_tabW spec_l9Sum.tab28 spec_l9Sum.bits28 (fun HT_ HW_ => ?_)
                                        generalize wr.drew = w84 at HO_5 BK134 HB hx153_0 hx153_1 hHeld ⊢
                                        refine pure_ (i := 0) (N := some 107) (v := ?_) (a' := ?_) #[true,false,false,false,false,false,false,false,false,false,false,false,false] rfl rfl (any_of HT_.out (by kernel_rfl)) (fun _ _ _ h => h) (Or.inl ⟨by rfl, ?_⟩) ?_ ?_
                                        rotate_left
                                        ·intro w'
                                         go_simp
                                         with_reducible rfl
                                        rotate_left
                                        ·simp only [Act.put, List.setIfInBounds_toArray, List.set_cons_zero, List.set_cons_succ, i64_w, i32_w]
                                         rfl
                                        refine pure_ (i := 1) (N := some 108) (v := ?_) (a' := ?_) #[true,true,false,false,false,false,false,false,false,false,false,false,false] rfl rfl (any_of HT_.out (by kernel_rfl)) (fun _ _ _ h => h) (Or.inl ⟨by rfl, ?_⟩) ?_ ?_
                                        rotate_left
                                        ·intro w'
                                         go_simp
                                         with_reducible rfl
                                        rotate_left
                                        ·simp only [Act.put, List.setIfInBounds_toArray, List.set_cons_zero, List.set_cons_succ, i64_w, i32_w]
                                         rfl
                                        refine pure_ (i := 4) (N := some 111) (v := ?_) (a' := ?_) #[true,true,false,false,true,false,false,false,false,false,false,false,false] rfl rfl (any_of HT_.out (by kernel_rfl)) (fun _ _ _ h => h) (Or.inl ⟨by rfl, ?_⟩) ?_ ?_
                                        rotate_left
                                        ·intro w'
                                         go_simp
                                         with_reducible rfl
                                        rotate_left
                                        ·simp only [Act.put, List.setIfInBounds_toArray, List.set_cons_zero, List.set_cons_succ, i64_w, i32_w]
                                         rfl
                                        refine pure_ (i := 5) (N := some 112) (v := ?_) (a' := ?_) #[true,true,false,false,true,true,false,false,false,false,false,false,false] rfl rfl (any_of HT_.out (by kernel_rfl)) (fun _ _ _ h => h) (Or.inl ⟨by rfl, ?_⟩) ?_ ?_
                                        rotate_left
                                        ·intro w'
                                         go_simp
                                         with_reducible rfl
                                        rotate_left
                                        ·simp only [Act.put, List.setIfInBounds_toArray, List.set_cons_zero, List.set_cons_succ, i64_w, i32_w]
                                         rfl
                                        refine pure_ (i := 6) (N := some 113) (v := ?_) (a' := ?_) #[true,true,false,false,true,true,true,false,false,false,false,false,false] rfl rfl (any_of HT_.out (by kernel_rfl)) (fun _ _ _ h => h) (Or.inl ⟨by rfl, ?_⟩) ?_ ?_
                                        rotate_left
                                        ·intro w'
                                         go_simp
                                         with_reducible rfl
                                        rotate_left
                                        ·simp only [Act.put, List.setIfInBounds_toArray, List.set_cons_zero, List.set_cons_succ, i64_w, i32_w]
                                         rfl
                                        refine pure_ (i := 7) (N := some 114) (v := ?_) (a' := ?_) #[true,true,false,false,true,true,true,true,false,false,false,false,false] rfl rfl (any_of HT_.out (by kernel_rfl)) (fun _ _ _ h => h) (Or.inl ⟨by rfl, ?_⟩) ?_ ?_
                                        rotate_left
                                        ·intro w'
                                         go_simp
                                         with_reducible rfl
                                        rotate_left
                                        ·simp only [Act.put, List.setIfInBounds_toArray, List.set_cons_zero, List.set_cons_succ, i64_w, i32_w]
                                         rfl
                                        refine pure_ (i := 8) (N := some 115) (v := ?_) (a' := ?_) #[true,true,false,false,true,true,true,true,true,false,false,false,false] rfl rfl (any_of HT_.out (by kernel_rfl)) (fun _ _ _ h => h) (Or.inl ⟨by rfl, ?_⟩) ?_ ?_
                                        rotate_left
                                        ·intro w'
                                         go_simp
                                         with_reducible rfl
                                        rotate_left
                                        ·simp only [Act.put, List.setIfInBounds_toArray, List.set_cons_zero, List.set_cons_succ, i64_w, i32_w]
                                         rfl
                                        refine take_ (i := 2) (N := some 109) (v := ?_) (a' := ?_) #[true,true,true,false,true,true,true,true,true,false,false,false,false] rfl rfl (take_ofW HT_.out HW_.out (by kernel_rfl)) (fun _ _ _ h => h) (Or.inl ⟨by rfl, ?_⟩) hHeld ?_ ?_
                                        rotate_left
                                        ·rintro w' ⟨s0, s1, s2, s3⟩
                                         go_simp
                                         with_reducible rfl
                                        rotate_left
                                        ·simp only [Act.put, List.setIfInBounds_toArray, List.set_cons_zero, List.set_cons_succ, i64_w, i32_w]
                                         rfl
                                        refine pure_ (i := 3) (N := some 110) (v := ?_) (a' := ?_) #[true,true,true,true,true,true,true,true,true,false,false,false,false] rfl rfl (any_of HT_.out (by kernel_rfl)) (fun _ _ _ h => h) (Or.inl ⟨by rfl, ?_⟩) ?_ ?_
                                        rotate_left
                                        ·intro w'
                                         go_simp
                                         with_reducible rfl
                                        rotate_left
                                        ·simp only [Act.put, List.setIfInBounds_toArray, List.set_cons_zero, List.set_cons_succ, i64_w, i32_w]
                                         rfl
                                        refine take_ (i := 9) (N := some 116) (v := ?_) (a' := ?_) #[true,true,true,true,true,true,true,true,true,true,false,false,false] rfl rfl (take_ofW HT_.out HW_.out (by kernel_rfl)) (fun _ _ _ h => h) (Or.inl ⟨by rfl, ?_⟩) hHeld ?_ ?_
                                        rotate_left
                                        ·rintro w' ⟨s0, s1, s2, s3⟩
                                         go_simp
                                         with_reducible rfl
                                        rotate_left
                                        ·simp only [Act.put, List.setIfInBounds_toArray, List.set_cons_zero, List.set_cons_succ, i64_w, i32_w]
                                         rfl
                                        refine pure_ (i := 10) (N := some 117) (v := ?_) (a' := ?_) #[true,true,true,true,true,true,true,true,true,true,true,false,false] rfl rfl (any_of HT_.out (by kernel_rfl)) (fun _ _ _ h => h) (Or.inl ⟨by rfl, ?_⟩) ?_ ?_
                                        rotate_left
                                        ·intro w'
                                         go_simp
                                         with_reducible rfl
                                        rotate_left
                                        ·simp only [Act.put, List.setIfInBounds_toArray, List.set_cons_zero, List.set_cons_succ, i64_w, i32_w]
                                         rfl
                                        refine one_ (i := 11) (N := some 118) #[true,true,true,true,true,true,true,true,true,true,true,true,false] rfl rfl (one_of HT_.out (by kernel_rfl)) (by decide) (fun K hK => ?_)
                                        refine goes_ Try.func44 (by kernel_rfl) rfl #[.int .i64 (wrap64 (a0_0 - 1)), .int .i64 (wrap64 (x11_3 + ((rd_T58 l1 x13_6).f1)))] (by rfl) rfl rfl (by (try simp only [List.map_toArray, List.map_cons, List.map_nil]); first | done | rfl | (simp only [List.length_drop, List.length_take]; rfl)) ?_
                                        with_reducible refine (spec_l1Least.calls (wrap64 (a0_0 - 1)) (wrap64 (x11_3 + ((rd_T58 l1 x13_6).f1))) t154 _ A59.out).mono ?_
                                        rintro e w' ⟨rfl, ⟨nd, rfl⟩⟩
                                        refine ⟨_, rfl, ?_⟩
                                        refine hK.out _ _ ⟨(blk_cell BK134.out 0).trans rfl, (blk_cell BK134.out 1).trans rfl, ((HB.out.cell (World.block_lt_of_cell? w _ hw153_0)).trans hw153_0), ((HB.out.cell (World.block_lt_of_cell? w _ hw153_1)).trans hw153_1)⟩ (fun hHeld => ?_)
                                        clear hK K
                                        refine norm_ (a' := ?_) ?_ ?_
                                        rotate_left
                                        ·show Act.put _ (some 118) _ = _
                                         simp only [Act.put, List.setIfInBounds_toArray, List.set_cons_zero, List.set_cons_succ, i64_w, i32_w]
                                         rfl
                                        refine pure_ (i := 12) (N := some 119) (v := ?_) (a' := ?_) #[true,true,true,true,true,true,true,true,true,true,true,true,true] rfl rfl (any_of HT_.out (by kernel_rfl)) (fun _ _ _ h => h) (Or.inl ⟨by rfl, ?_⟩) ?_ ?_
                                        rotate_left
                                        ·intro w'
                                         go_simp
                                         with_reducible rfl
                                        rotate_left
                                        ·simp only [Act.put, List.setIfInBounds_toArray, List.set_cons_zero, List.set_cons_succ, i64_w, i32_w]
                                         rfl
                                        refine done_ (done_of HT_.out (by kernel_rfl)) ?_
                                        try go_wp2
                                        (try (rw [drewN_self w84]; generalize hq_ : World.drewN w84 _ = w84; have n0_ : Aside0 (Kd.S (Kd.slice 3 (Kd.int .i64)) 24 w84 w.heap.size (fun _ => True) (.slice (some ad145) x5_8.length co28) x5_8) := ⟨by rw [← hq_]; exact (by (with_reducible repeat (first | apply Kd.S_alloc | apply Kd.S_drewN | apply Kd.S_drew)); exact HO_5.out)⟩; have n1_ : Aside0 (w84.heap[gb134]? = some (.cells #[.int .i64 a0_0, .bool a0_1] 27 (0, 0))) := ⟨by rw [← hq_]; exact (by (with_reducible repeat (first | refine blk_drewN ?_ _ | refine blk_drew ?_ | refine blk_alloc ?_ _)); exact BK134.out)⟩; have n2_ : Aside0 (Below w.heap.size w w84) := ⟨by rw [← hq_]; exact (by repeat (first | (with_reducible first | exact HB.out | apply below_alloc | apply pw_below_drewN | apply below_drew1 | refine below_set ?_ GE134.out) | exact HB.out))⟩; clear HO_5 BK134 HB hq_; have HO_5 := n0_; have BK134 := n1_; have HB := n2_; clear n0_ n1_ n2_; have hcq134_0 : w84.cell? ⟨gb134, 0, none⟩ = some (.int .i64 a0_0) := (blk_cell BK134.out 0).trans rfl; have hfq134_0 := blk_frozen BK134.out 0; have hcq134_1 : w84.cell? ⟨gb134, 1, none⟩ = some (.bool a0_1) := (blk_cell BK134.out 1).trans rfl; have hfq134_1 := blk_frozen BK134.out 1))
                                        have n0_ := Aside0.mk (Kd.S_drew HO_5.out)
                                        have n1_ := Aside0.mk (blk_drew BK134.out)
                                        have n2_ := Aside0.mk (below_drew1 HB.out)
                                        clear HO_5
                                        clear BK134
                                        clear HB
                                        have HO_5 := n0_
                                        have BK134 := n1_
                                        have HB := n2_
                                        clear n0_ n1_ n2_
                                        have p155 : 0 ≤ (x13_6 : Int) := of_decide_eq_true (by first | (with_reducible assumption) | assumption)
                                        have q155 : x13_6 < (l1.length : Int) := of_decide_eq_true (by first | (with_reducible assumption) | assumption)
                                        obtain ⟨ad155, e155, hx155_0, hx155_1⟩ := at_T58 HR1.out x13_6 p155 q155
                                        have hw155_1 := hx155_1
                                        have hw155_0 := hx155_0
                                        obtain rfl : ad151 = ad155 := (by injection e155)
                                        replace hx155_0 := (HB.out.cell (World.block_lt_of_cell? w _ hx155_0)).trans hx155_0
                                        replace hx155_1 := (HB.out.cell (World.block_lt_of_cell? w _ hx155_1)).trans hx155_1
                                        replace p155 := eq_true p155
                                        replace q155 := eq_true q155
                                        refine start_ (n := 12) (S := fun w' => w'.cell? ⟨gb134, 0, none⟩ = some (.int .i64 a0_0) ∧ w'.cell? ⟨gb134, 1, none⟩ = some (.bool a0_1) ∧ w'.cell? (ad151.add ((x13_6).toNat * 2)) = some (.int .i64 ((rd_T58 l1 x13_6).f0)) ∧ w'.cell? ⟨(ad151.add ((x13_6).toNat * 2)).block, (ad151.add ((x13_6).toNat * 2)).off + 1, none⟩ = some (.int .i64 ((rd_T58 l1 x13_6).f1))) (ds := []) #[false,false,false,false,false,false,false,false,false,false,false,false] (by kernel_rfl) rfl rfl ⟨(blk_cell BK134.out 0).trans rfl, (blk_cell BK134.out 1).trans rfl, ((HB.out.cell (World.block_lt_of_cell? w _ hw155_0)).trans hw155_0), ((HB.out.cell (World.block_lt_of_cell? w _ hw155_1)).trans hw155_1)⟩ (fun hHeld => ?_); refine with_tabW spec_l9Sum.tab30 spec_l9Sum.bits30 (fun HT_ HW_ => ?_)
                                        generalize w84.drew = w85 at HO_5 BK134 HB hx155_0 hx155_1 hHeld ⊢
                                        refine pure_ (i := 0) (N := some 122) (v := ?_) (a' := ?_) #[true,false,false,false,false,false,false,false,false,false,false,false] rfl rfl (any_of HT_.out (by kernel_rfl)) (fun _ _ _ h => h) (Or.inl ⟨by rfl, ?_⟩) ?_ ?_
                                        rotate_left
                                        ·intro w'
                                         go_simp
                                         with_reducible rfl
                                        rotate_left
                                        ·simp only [Act.put, List.setIfInBounds_toArray, List.set_cons_zero, List.set_cons_succ, i64_w, i32_w]
                                         rfl
                                        refine pure_ (i := 2) (N := some 124) (v := ?_) (a' := ?_) #[true,false,true,false,false,false,false,false,false,false,false,false] rfl rfl (any_of HT_.out (by kernel_rfl)) (fun _ _ _ h => h) (Or.inl ⟨by rfl, ?_⟩) ?_ ?_
                                        rotate_left
                                        ·intro w'
                                         go_simp
                                         with_reducible rfl
                                        rotate_left
                                        ·simp only [Act.put, List.setIfInBounds_toArray, List.set_cons_zero, List.set_cons_succ, i64_w, i32_w]
                                         rfl
                                        refine pure_ (i := 3) (N := some 125) (v := ?_) (a' := ?_) #[true,false,true,true,false,false,false,false,false,false,false,false] rfl rfl (any_of HT_.out (by kernel_rfl)) (fun _ _ _ h => h) (Or.inl ⟨by rfl, ?_⟩) ?_ ?_
                                        rotate_left
                                        ·intro w'
                                         go_simp
                                         with_reducible rfl
                                        rotate_left
                                        ·simp only [Act.put, List.setIfInBounds_toArray, List.set_cons_zero, List.set_cons_succ, i64_w, i32_w]
                                         rfl
                                        refine pure_ (i := 4) (N := some 126) (v := ?_) (a' := ?_) #[true,false,true,true,true,false,false,false,false,false,false,false] rfl rfl (any_of HT_.out (by kernel_rfl)) (fun _ _ _ h => h) (Or.inl ⟨by rfl, ?_⟩) ?_ ?_
                                        rotate_left
                                        ·intro w'
                                         go_simp
                                         with_reducible rfl
                                        rotate_left
                                        ·simp only [Act.put, List.setIfInBounds_toArray, List.set_cons_zero, List.set_cons_succ, i64_w, i32_w]
                                         rfl
                                        refine pure_ (i := 5) (N := some 127) (v := ?_) (a' := ?_) #[true,false,true,true,true,true,false,false,false,false,false,false] rfl rfl (any_of HT_.out (by kernel_rfl)) (fun _ _ _ h => h) (Or.inl ⟨by rfl, ?_⟩) ?_ ?_
                                        rotate_left
                                        ·intro w'
                                         go_simp
                                         with_reducible rfl
                                        rotate_left
                                        ·simp only [Act.put, List.setIfInBounds_toArray, List.set_cons_zero, List.set_cons_succ, i64_w, i32_w]
                                         rfl
                                        refine pure_ (i := 6) (N := some 128) (v := ?_) (a' := ?_) #[true,false,true,true,true,true,true,false,false,false,false,false] rfl rfl (any_of HT_.out (by kernel_rfl)) (fun _ _ _ h => h) (Or.inl ⟨by rfl, ?_⟩) ?_ ?_
                                        rotate_left
                                        ·intro w'
                                         go_simp
                                         with_reducible rfl
                                        rotate_left
                                        ·simp only [Act.put, List.setIfInBounds_toArray, List.set_cons_zero, List.set_cons_succ, i64_w, i32_w]
                                         rfl
                                        refine take_ (i := 1) (N := some 123) (v := ?_) (a' := ?_) #[true,true,true,true,true,true,true,false,false,false,false,false] rfl rfl (take_ofW HT_.out HW_.out (by kernel_rfl)) (fun _ _ _ h => h) (Or.inl ⟨by rfl, ?_⟩) hHeld ?_ ?_
                                        rotate_left
                                        ·rintro w' ⟨s0, s1, s2, s3⟩
                                         go_simp
                                         with_reducible rfl
                                        rotate_left
                                        ·simp only [Act.put, List.setIfInBounds_toArray, List.set_cons_zero, List.set_cons_succ, i64_w, i32_w]
                                         rfl
                                        refine take_ (i := 7) (N := some 129) (v := ?_) (a' := ?_) #[true,true,true,true,true,true,true,true,false,false,false,false] rfl rfl (take_ofW HT_.out HW_.out (by kernel_rfl)) (fun _ _ _ h => h) (Or.inl ⟨by rfl, ?_⟩) hHeld ?_ ?_
                                        rotate_left
                                        ·rintro w' ⟨s0, s1, s2, s3⟩
                                         go_simp
                                         with_reducible rfl
                                        rotate_left
                                        ·simp only [Act.put, List.setIfInBounds_toArray, List.set_cons_zero, List.set_cons_succ, i64_w, i32_w]
                                         rfl
                                        refine pure_ (i := 8) (N := some 130) (v := ?_) (a' := ?_) #[true,true,true,true,true,true,true,true,true,false,false,false] rfl rfl (any_of HT_.out (by kernel_rfl)) (fun _ _ _ h => h) (Or.inl ⟨by rfl, ?_⟩) ?_ ?_
                                        rotate_left
                                        ·intro w'
                                         go_simp
                                         with_reducible rfl
                                        rotate_left
                                        ·simp only [Act.put, List.setIfInBounds_toArray, List.set_cons_zero, List.set_cons_succ, i64_w, i32_w]
                                         rfl
                                        refine pure_ (i := 9) (N := some 131) (v := ?_) (a' := ?_) #[true,true,true,true,true,true,true,true,true,true,false,false] rfl rfl (any_of HT_.out (by kernel_rfl)) (fun _ _ _ h => h) (Or.inl ⟨by rfl, ?_⟩) ?_ ?_
                                        rotate_left
                                        ·intro w'
                                         go_simp
                                         with_reducible rfl
                                        rotate_left
                                        ·simp only [Act.put, List.setIfInBounds_toArray, List.set_cons_zero, List.set_cons_succ, i64_w, i32_w]
                                         rfl
                                        refine one_ (i := 10) (N := some 132) #[true,true,true,true,true,true,true,true,true,true,true,false] rfl rfl (one_of HT_.out (by kernel_rfl)) (by decide) (fun K hK => ?_)
                                        refine goes_ Try.func44 (by kernel_rfl) rfl #[.int .i64 a0_0, .int .i64 (wrap64 ((wrap64 (x14_8 + ((rd_T58 l1 x13_6).f1))) + 1))] (by rfl) rfl rfl (by (try simp only [List.map_toArray, List.map_cons, List.map_nil]); first | done | rfl | (simp only [List.length_drop, List.length_take]; rfl)) ?_
                                        with_reducible refine (spec_l1Least.calls a0_0 (wrap64 ((wrap64 (x14_8 + ((rd_T58 l1 x13_6).f1))) + 1)) t156 _ A61.out).mono ?_
                                        rintro e w' ⟨rfl, ⟨nd, rfl⟩⟩
                                        refine ⟨_, rfl, ?_⟩
                                        refine hK.out _ _ ⟨(blk_cell BK134.out 0).trans rfl, (blk_cell BK134.out 1).trans rfl, ((HB.out.cell (World.block_lt_of_cell? w _ hw155_0)).trans hw155_0), ((HB.out.cell (World.block_lt_of_cell? w _ hw155_1)).trans hw155_1)⟩ (fun hHeld => ?_)
                                        clear hK K
                                        refine norm_ (a' := ?_) ?_ ?_
                                        rotate_left
                                        ·show Act.put _ (some 132) _ = _
                                         simp only [Act.put, List.setIfInBounds_toArray, List.set_cons_zero, List.set_cons_succ, i64_w, i32_w]
                                         rfl
                                        refine pure_ (i := 11) (N := some 15) (v := ?_) (a' := ?_) #[true,true,true,true,true,true,true,true,true,true,true,true] rfl rfl (any_of HT_.out (by kernel_rfl)) (fun _ _ _ h => h) (Or.inl ⟨by rfl, ?_⟩) ?_ ?_
                                        rotate_left
                                        ·intro w'
                                         go_simp
                                         with_reducible rfl
                                        rotate_left
                                        ·simp only [Act.put, List.setIfInBounds_toArray, List.set_cons_zero, List.set_cons_succ, i64_w, i32_w]
                                         rfl
                                        refine done_ (done_of HT_.out (by kernel_rfl)) ?_
                                        try go_wp2
                                        (try (rw [drewN_self w85]; generalize hq_ : World.drewN w85 _ = w85; have n0_ : Aside0 (Kd.S (Kd.slice 3 (Kd.int .i64)) 24 w85 w.heap.size (fun _ => True) (.slice (some ad145) x5_8.length co28) x5_8) := ⟨by rw [← hq_]; exact (by (with_reducible repeat (first | apply Kd.S_alloc | apply Kd.S_drewN | apply Kd.S_drew)); exact HO_5.out)⟩; have n1_ : Aside0 (w85.heap[gb134]? = some (.cells #[.int .i64 a0_0, .bool a0_1] 27 (0, 0))) := ⟨by rw [← hq_]; exact (by (with_reducible repeat (first | refine blk_drewN ?_ _ | refine blk_drew ?_ | refine blk_alloc ?_ _)); exact BK134.out)⟩; have n2_ : Aside0 (Below w.heap.size w w85) := ⟨by rw [← hq_]; exact (by repeat (first | (with_reducible first | exact HB.out | apply below_alloc | apply pw_below_drewN | apply below_drew1 | refine below_set ?_ GE134.out) | exact HB.out))⟩; clear HO_5 BK134 HB hq_; have HO_5 := n0_; have BK134 := n1_; have HB := n2_; clear n0_ n1_ n2_; have hcq134_0 : w85.cell? ⟨gb134, 0, none⟩ = some (.int .i64 a0_0) := (blk_cell BK134.out 0).trans rfl; have hfq134_0 := blk_frozen BK134.out 0; have hcq134_1 : w85.cell? ⟨gb134, 1, none⟩ = some (.bool a0_1) := (blk_cell BK134.out 1).trans rfl; have hfq134_1 := blk_frozen BK134.out 1))
                                        have n0_ := Aside0.mk (Kd.S_drew HO_5.out)
                                        have n1_ := Aside0.mk (blk_drew BK134.out)
                                        have n2_ := Aside0.mk (below_drew1 HB.out)
                                        clear HO_5
                                        clear BK134
                                        clear HB
                                        have HO_5 := n0_
                                        have BK134 := n1_
                                        have HB := n2_
                                        clear n0_ n1_ n2_
                                        have p157 : 0 ≤ (x13_6 : Int) := of_decide_eq_true (by first | (with_reducible assumption) | assumption)
                                        have q157 : x13_6 < (l1.length : Int) := of_decide_eq_true (by first | (with_reducible assumption) | assumption)
                                        obtain ⟨ad157, e157, hx157_0, hx157_1⟩ := at_T58 HR1.out x13_6 p157 q157
                                        have hw157_1 := hx157_1
                                        have hw157_0 := hx157_0
                                        obtain rfl : ad151 = ad157 := (by injection e157)
                                        replace hx157_0 := (HB.out.cell (World.block_lt_of_cell? w _ hx157_0)).trans hx157_0
                                        replace hx157_1 := (HB.out.cell (World.block_lt_of_cell? w _ hx157_1)).trans hx157_1
                                        replace p157 := eq_true p157
                                        replace q157 := eq_true q157
                                        refine start_ (n := 11) (S := fun w' => w'.cell? ⟨gb134, 0, none⟩ = some (.int .i64 a0_0) ∧ w'.cell? ⟨gb134, 1, none⟩ = some (.bool a0_1) ∧ w'.cell? (ad151.add ((x13_6).toNat * 2)) = some (.int .i64 ((rd_T58 l1 x13_6).f0)) ∧ w'.cell? ⟨(ad151.add ((x13_6).toNat * 2)).block, (ad151.add ((x13_6).toNat * 2)).off + 1, none⟩ = some (.int .i64 ((rd_T58 l1 x13_6).f1))) (ds := []) #[false,false,false,false,false,false,false,false,false,false,false] (by kernel_rfl) rfl rfl ⟨(blk_cell BK134.out 0).trans rfl, (blk_cell BK134.out 1).trans rfl, ((HB.out.cell (World.block_lt_of_cell? w _ hw157_0)).trans hw157_0), ((HB.out.cell (World.block_lt_of_cell? w _ hw157_1)).trans hw157_1)⟩ (fun hHeld => ?_); refine with_tabW spec_l9Sum.tab31 spec_l9Sum.bits31 (fun HT_ HW_ => ?_)
                                        generalize w85.drew = w86 at HO_5 BK134 HB hx157_0 hx157_1 hHeld ⊢
                                        refine pure_ (i := 0) (N := some 133) (v := ?_) (a' := ?_) #[true,false,false,false,false,false,false,false,false,false,false] rfl rfl (any_of HT_.out (by kernel_rfl)) (fun _ _ _ h => h) (Or.inl ⟨by rfl, ?_⟩) ?_ ?_
                                        rotate_left
                                        ·intro w'
                                         go_simp
                                         with_reducible rfl
                                        rotate_left
                                        ·simp only [Act.put, List.setIfInBounds_toArray, List.set_cons_zero, List.set_cons_succ, i64_w, i32_w]
                                         rfl
                                        refine pure_ (i := 2) (N := some 135) (v := ?_) (a' := ?_) #[true,false,true,false,false,false,false,false,false,false,false] rfl rfl (any_of HT_.out (by kernel_rfl)) (fun _ _ _ h => h) (Or.inl ⟨by rfl, ?_⟩) ?_ ?_
                                        rotate_left
                                        ·intro w'
                                         go_simp
                                         with_reducible rfl
                                        rotate_left
                                        ·simp only [Act.put, List.setIfInBounds_toArray, List.set_cons_zero, List.set_cons_succ, i64_w, i32_w]
                                         rfl
                                        refine pure_ (i := 3) (N := some 136) (v := ?_) (a' := ?_) #[true,false,true,true,false,false,false,false,false,false,false] rfl rfl (any_of HT_.out (by kernel_rfl)) (fun _ _ _ h => h) (Or.inl ⟨by rfl, ?_⟩) ?_ ?_
                                        rotate_left
                                        ·intro w'
                                         go_simp
                                         with_reducible rfl
                                        rotate_left
                                        ·simp only [Act.put, List.setIfInBounds_toArray, List.set_cons_zero, List.set_cons_succ, i64_w, i32_w]
                                         rfl
                                        refine pure_ (i := 4) (N := some 137) (v := ?_) (a' := ?_) #[true,false,true,true,true,false,false,false,false,false,false] rfl rfl (any_of HT_.out (by kernel_rfl)) (fun _ _ _ h => h) (Or.inl ⟨by rfl, ?_⟩) ?_ ?_
                                        rotate_left
                                        ·intro w'
                                         go_simp
                                         with_reducible rfl
                                        rotate_left
                                        ·simp only [Act.put, List.setIfInBounds_toArray, List.set_cons_zero, List.set_cons_succ, i64_w, i32_w]
                                         rfl
                                        refine pure_ (i := 5) (N := some 138) (v := ?_) (a' := ?_) #[true,false,true,true,true,true,false,false,false,false,false] rfl rfl (any_of HT_.out (by kernel_rfl)) (fun _ _ _ h => h) (Or.inl ⟨by rfl, ?_⟩) ?_ ?_
                                        rotate_left
                                        ·intro w'
                                         go_simp
                                         with_reducible rfl
                                        rotate_left
                                        ·simp only [Act.put, List.setIfInBounds_toArray, List.set_cons_zero, List.set_cons_succ, i64_w, i32_w]
                                         rfl
                                        refine pure_ (i := 7) (N := some 140) (v := ?_) (a' := ?_) #[true,false,true,true,true,true,false,true,false,false,false] rfl rfl (any_of HT_.out (by kernel_rfl)) (fun _ _ _ h => h) (Or.inl ⟨by rfl, ?_⟩) ?_ ?_
                                        rotate_left
                                        ·intro w'
                                         go_simp
                                         with_reducible rfl
                                        rotate_left
                                        ·simp only [Act.put, List.setIfInBounds_toArray, List.set_cons_zero, List.set_cons_succ, i64_w, i32_w]
                                         rfl
                                        refine take_ (i := 1) (N := some 134) (v := ?_) (a' := ?_) #[true,true,true,true,true,true,false,true,false,false,false] rfl rfl (take_ofW HT_.out HW_.out (by kernel_rfl)) (fun _ _ _ h => h) (Or.inl ⟨by rfl, ?_⟩) hHeld ?_ ?_
                                        rotate_left
                                        ·rintro w' ⟨s0, s1, s2, s3⟩
                                         go_simp
                                         with_reducible rfl
                                        rotate_left
                                        ·simp only [Act.put, List.setIfInBounds_toArray, List.set_cons_zero, List.set_cons_succ, i64_w, i32_w]
                                         rfl
                                        refine take_ (i := 6) (N := some 139) (v := ?_) (a' := ?_) #[true,true,true,true,true,true,true,true,false,false,false] rfl rfl (take_ofW HT_.out HW_.out (by kernel_rfl)) (fun _ _ _ h => h) (Or.inl ⟨by rfl, ?_⟩) hHeld ?_ ?_
                                        rotate_left
                                        ·rintro w' ⟨s0, s1, s2, s3⟩
                                         go_simp
                                         with_reducible rfl
                                        rotate_left
                                        ·simp only [Act.put, List.setIfInBounds_toArray, List.set_cons_zero, List.set_cons_succ, i64_w, i32_w]
                                         rfl
                                        refine one_ (i := 8) (N := some 141) #[true,true,true,true,true,true,true,true,true,false,false] rfl rfl (one_of HT_.out (by kernel_rfl)) (by decide) (fun K hK => ?_)
                                        refine goes_ Try.func55 (by kernel_rfl) rfl #[.agg #[.int .i64 a0_0, .bool a0_1], .int .i64 ((rd_T58 l1 x13_6).f0), .int .i64 x14_8] (by rfl) rfl rfl (by (try simp only [List.map_toArray, List.map_cons, List.map_nil]); first | done | rfl | (simp only [List.length_drop, List.length_take]; rfl)) ?_
                                        with_reducible refine (spec_l2Gap.calls a0_0 a0_1 ((rd_T58 l1 x13_6).f0) x14_8 t158 _ A62.out).mono ?_
                                        rintro e w87 ⟨rfl, hb⟩
                                        refine ⟨_, rfl, ?_⟩
                                        have n0_ := Aside0.mk (Kd.S_below (by (with_reducible repeat (first | apply Kd.S_alloc | apply Kd.S_drewN | apply Kd.S_drew)); exact HO_5.out) hb)
                                        have n1_ := Aside0.mk (blk_below (g := gb134) (o := .cells #[.int .i64 a0_0, .bool a0_1] 27 (0, 0)) (by (with_reducible repeat (first | refine blk_drewN ?_ _ | refine blk_drew ?_ | refine blk_alloc ?_ _)); exact BK134.out) hb)
                                        have n2_ := Aside0.mk (below_step (by repeat (first | (with_reducible first | exact HB.out | apply below_alloc | apply pw_below_drewN | apply below_drew1 | refine below_set ?_ GE134.out) | exact HB.out)) hb)
                                        clear HO_5
                                        clear BK134
                                        clear HB
                                        have HO_5 := n0_
                                        have BK134 := n1_
                                        have HB := n2_
                                        clear n0_ n1_ n2_
                                        (try clear hb)
                                        (try clear hb2)
                                        (try clear hk)
                                        (try clear hi)
                                        refine hK.out _ _ ⟨(blk_cell BK134.out 0).trans rfl, (blk_cell BK134.out 1).trans rfl, ((HB.out.cell (World.block_lt_of_cell? w _ hw157_0)).trans hw157_0), ((HB.out.cell (World.block_lt_of_cell? w _ hw157_1)).trans hw157_1)⟩ (fun hHeld => ?_)
                                        clear hK K
                                        refine norm_ (a' := ?_) ?_ ?_
                                        rotate_left
                                        ·show Act.put _ (some 141) _ = _
                                         simp only [Act.put, List.setIfInBounds_toArray, List.set_cons_zero, List.set_cons_succ, i64_w, i32_w]
                                         rfl
                                        refine pure_ (i := 9) (N := some 142) (v := ?_) (a' := ?_) #[true,true,true,true,true,true,true,true,true,true,false] rfl rfl (any_of HT_.out (by kernel_rfl)) (fun _ _ _ h => h) (Or.inl ⟨by rfl, ?_⟩) ?_ ?_
                                        rotate_left
                                        ·intro w'
                                         go_simp
                                         with_reducible rfl
                                        rotate_left
                                        ·simp only [Act.put, List.setIfInBounds_toArray, List.set_cons_zero, List.set_cons_succ, i64_w, i32_w]
                                         rfl
                                        refine pure_ (i := 10) (N := some 16) (v := ?_) (a' := ?_) #[true,true,true,true,true,true,true,true,true,true,true] rfl rfl (any_of HT_.out (by kernel_rfl)) (fun _ _ _ h => h) (Or.inl ⟨by rfl, ?_⟩) ?_ ?_
                                        rotate_left
                                        ·intro w'
                                         go_simp
                                         with_reducible rfl
                                        rotate_left
                                        ·simp only [Act.put, List.setIfInBounds_toArray, List.set_cons_zero, List.set_cons_succ, i64_w, i32_w]
                                         rfl
                                        refine done_ (done_of HT_.out (by kernel_rfl)) ?_
                                        have p159 : 0 ≤ ((ji65) : Int) := of_decide_eq_true (by first | (with_reducible assumption) | assumption)
                                        have q159 : (ji65) < (x5_8.length : Int) := of_decide_eq_true (by first | (with_reducible assumption) | assumption)
                                        obtain ⟨ad159, A159_0, c159_0, e159, hx159_0, hl159_0, hi159_0⟩ := at_L3 (Kd.S_reads' HO_5.out).2.2 (ji65) p159 q159
                                        obtain rfl : ad145 = ad159 := (by injection e159)
                                        obtain ⟨ce159, hce159, hMe159, hcc159⟩ := Kd.S_get HO_5.out [] (ji65) p159 (by first | exact q159 | exact of_decide_eq_true (by first | (with_reducible assumption) | assumption) | (have e_ := (Kd.S_reads' HO_5.out).1; omega))
                                        obtain ⟨ve159_0, rfl, ge159_0⟩ := hMe159
                                        have hv159_0 := hcc159 0 _ rfl
                                        rw [Nat.add_zero, show ((Kd.slice 3 (Kd.int .i64))).sz = 1 from rfl, Nat.mul_one] at hv159_0
                                        replace hv159_0 := Option.some.inj (hv159_0.symm.trans hx159_0)
                                        rw [hv159_0] at ge159_0
                                        have HL159_0 := Aside0.mk (show Kd.R (Kd.int .i64) 3 _ _ _ _ (rd_L3 x5_8 (ji65)) from ge159_0)
                                        clear hv159_0 ge159_0
                                        have HX159_0 := Aside0.mk hx159_0
                                        clear hcc159 hce159
                                        have HR159_0 := Aside0.mk hi159_0
                                        have HC159_0 := Aside0.mk hl159_0
                                        clear hi159_0 hl159_0
                                        replace p159 := eq_true p159
                                        replace q159 := eq_true q159
                                        have p160 : 0 ≤ (t156 : Int) := of_decide_eq_true (by first | (with_reducible assumption) | assumption)
                                        have q160 : t156 < ((rd_L3 x5_8 (ji65)).length : Int) := of_decide_eq_true (by first | (with_reducible assumption) | assumption)
                                        obtain ⟨ad160, e160, hx160_0⟩ := Kd.at_int (by repeat (first | (with_reducible exact HR159_0.out) | (with_reducible refine Kd.C_alloc ?_ _) | (with_reducible refine Kd.C_drewN ?_ _) | (with_reducible refine Kd.C_drew ?_) | exact HR159_0.out)) t156 p160 q160
                                        cases e160
                                        replace p160 := eq_true p160
                                        replace q160 := eq_true q160
                                        have p165 : 0 ≤ ((ji65) : Int) := of_decide_eq_true (by first | (with_reducible assumption) | assumption)
                                        have q165 : (ji65) < (x5_8.length : Int) := of_decide_eq_true (by first | (with_reducible assumption) | assumption)
                                        obtain ⟨ad165, A165_0, c165_0, e165, hx165_0, hl165_0, hi165_0⟩ := at_L3 (Kd.S_reads' HO_5.out).2.2 (ji65) p165 q165
                                        obtain rfl : ad145 = ad165 := (by injection e165)
                                        obtain ⟨ce165, hce165, hMe165, hcc165⟩ := Kd.S_get HO_5.out [] (ji65) p165 (by first | exact q165 | exact of_decide_eq_true (by first | (with_reducible assumption) | assumption) | (have e_ := (Kd.S_reads' HO_5.out).1; omega))
                                        obtain ⟨ve165_0, rfl, ge165_0⟩ := hMe165
                                        have hv165_0 := hcc165 0 _ rfl
                                        rw [Nat.add_zero, show ((Kd.slice 3 (Kd.int .i64))).sz = 1 from rfl, Nat.mul_one] at hv165_0
                                        replace hv165_0 := Option.some.inj (hv165_0.symm.trans hx165_0)
                                        rw [hv165_0] at ge165_0
                                        have HL165_0 := Aside0.mk (show Kd.R (Kd.int .i64) 3 _ _ _ _ (rd_L3 x5_8 (ji65)) from ge165_0)
                                        clear hv165_0 ge165_0
                                        have HX165_0 := Aside0.mk hx165_0
                                        clear hcc165 hce165
                                        have HR165_0 := Aside0.mk hi165_0
                                        have HC165_0 := Aside0.mk hl165_0
                                        clear hi165_0 hl165_0
                                        replace p165 := eq_true p165
                                        replace q165 := eq_true q165
                                        have ea_ := Option.some.inj (hx159_0.symm.trans hx165_0)
                                        injection ea_ with ea_ en_ ec_
                                        subst ea_
                                        subst ec_
                                        clear en_
                                        have p83 : 0 ≤ (t156 : Int) := of_decide_eq_true (by first | (with_reducible assumption) | assumption)
                                        have q83 : (t156 : Int) < (((rd_L3 x5_8 (ji65)).length : Int) : Int) := of_decide_eq_true (by first | (with_reducible assumption) | assumption)
                                        obtain ⟨go83, co83, eo83, gb83, gl83, cl83, HG83⟩ := Kd.R_form HL165_0.out (by omega)
                                        (first | cases eo83 | (injection eo83 with ea_ en_ ec_; (first | subst ea_ | (injection ea_ with ea_; subst ea_)); subst ec_; clear en_))
                                        have GB83 := Aside0.mk gb83
                                        have GG83 := Aside0.mk HG83
                                        clear gb83 gl83 HG83
                                        (first | simp only [add_plain] at hx160_0 | skip)
                                        obtain ⟨hx83_0, hf83_0⟩ := Kd.R_celln 0 HL165_0.out (t156 : Int) p83 q83
                                        replace p83 := eq_true p83
                                        replace q83 := eq_true q83
                                        have hq88 : ((ji65) : Int) < (x5_8.length : Int) := (by have h_ : ((ji65) : Int) < ((x5_8.length : Int) : Int) := of_decide_eq_true (by first | (with_reducible assumption) | assumption); first | exact h_ | (have e_ := (Kd.S_reads' HO_5.out).1; omega) | simpa only [List.length_set, List.length_set] using h_)
                                        obtain ⟨oki88, ce88, hcl88, hM88, hcc88, hok88, hbk88⟩ := Kd.S_borrow HO_5.out [] ((ji65) : Int) (of_decide_eq_true (by first | (with_reducible assumption) | assumption)) hq88
                                        obtain ⟨ve88_0, rfl, ge88_0⟩ := hM88
                                        have hv88 := hcc88 0 _ rfl
                                        rw [Nat.add_zero, show ((Kd.slice 3 (Kd.int .i64))).sz = 1 from rfl, Nat.mul_one] at hv88
                                        replace hv88 := Option.some.inj (hv88.symm.trans HX165_0.out)
                                        subst hv88
                                        clear hcc88 hcl88
                                        replace ge88_0 := (show Kd.R (Kd.int .i64) 3 _ _ _ _ (rd_L3 x5_8 (ji65)) from ge88_0)
                                        have HP88 := Kd.R_putg ge88_0 (t156 : Int) (wrap64 ((rd (rd_L3 x5_3 x10_2) x11_3) + t158))
                                        try go_wp2_with (first | ((with_reducible refine gate_store (t := 3) (p := 169) rfl ?_); refine store_event (t := 3) (p := 169) (v := ?vo_w89) (w1 := (w87.setCell ⟨go83, (t156 : Int).toNat, none⟩ (.int .i64 (wrap64 ((rd (rd_L3 x5_3 x10_2) x11_3) + t158))))) ?hg ?ho ?hn ?hr ?_; (case ho => rfl); (case hg => rfl); (case hn => rfl); (case hr => first | (go_simp; done) | (go_simp; rfl)); intro w89 hw; have hg : w87.grownBy w89 (some go83) := (by rw [hw]; exact HP88.2); have hz_ : Kd.R (Kd.int .i64) 3 w89 w.heap.size oki88 (.slice (some ⟨go83, 0, none⟩) (rd_L3 x5_8 (ji65)).length c159_0) y166 := (by rw [hw, Ny166.out]; exact HP88.1); have hp_ : Kd.S (Kd.slice 3 (Kd.int .i64)) 24 w89 w.heap.size (fun _ => True) (.slice (some ad145) x5_8.length co28) y168 := (by rw [Ny168.out]; exact hbk88 hg (fun k_ e_ => by injection e_ with e_; subst e_; exact ge88_0.1 _ rfl) (Kd.M_row hz_)); have hm_ := Kd.R_mono hz_ hok88; clear HP88 hbk88; have n0_ := Aside0.mk (hp_); have n1_ := Aside0.mk (blk_grown (g := gb134) (o := .cells #[.int .i64 a0_0, .bool a0_1] 27 (0, 0)) (by (with_reducible repeat (first | refine blk_drewN ?_ _ | refine blk_drew ?_ | refine blk_alloc ?_ _)); exact BK134.out) hg (Kd.R_ne HL165_0.out BK134.out (by decide))); have n2_ := Aside0.mk ((by rw [hw]; exact below_set (HB.out) GB83.out : Below w.heap.size w w89)); have n3_ := Aside0.mk (hm_); have n4_ := Aside0.mk ((Kd.R_reads' hm_).2.1); clear HO_5; clear BK134; clear HB; clear HL159_0; clear HL165_0; have HO_5 := n0_; have BK134 := n1_; have HB := n2_; have HL171 := n3_; have HC167 := n4_; clear n0_ n1_ n2_ n3_ n4_; clear hg hw hp_ hz_ hm_ hok88))
                                        (try simp only [← hl5_8])
                                        go_roundg k8
                                        case measure => have := HK1.out; have := HK2.out; have := HK3.out; have := HJ38.out; have := HJ45.out; have := HK6.out; have := HJ47.out; have := HK8.out; omega
                                        case rel => exact ⟨(y168), (wrap64 (x14_8 + 1)), (by first | rfl | (simp; done) | (simp [*]; done)), H', ⟨by have := HK1.out; have := HK2.out; have := HK3.out; have := HJ38.out; have := HJ45.out; have := HK6.out; have := HJ47.out; have := HK8.out; omega⟩, ⟨by (try simp only [hl5_2]); (try simp only [hl5_3]); (try simp only [hl5_6]); (try simp only [hl5_8]); (with_reducible repeat (first | apply Kd.S_alloc | apply Kd.S_drewN | apply Kd.S_drew)); exact HO_5.out⟩, ⟨by (try simp only [hl5_2]); (try simp only [hl5_3]); (try simp only [hl5_6]); (try simp only [hl5_8]); (with_reducible repeat (first | refine blk_drewN ?_ _ | refine blk_drew ?_ | refine blk_alloc ?_ _)); exact BK134.out⟩, ⟨by repeat (first | (with_reducible first | exact HB.out | apply below_alloc | apply pw_below_drewN | apply below_drew1 | refine below_set ?_ GE134.out) | exact HB.out)⟩⟩
                                       ·rw [if_neg c80] at H
                                        have c80b0 : decide ((wrap64 ((rd (rd_L3 x5_3 x10_2) x11_3) + t158)) < (rd (rd_L3 x5_8 (ji65)) t156)) = false := decide_eq_false c80
                                        clear c80
                                        have H' := Aside0.mk H
                                        clear H
                                        try go_wp2
                                        have n0_ := Aside0.mk (Kd.S_drew HO_5.out)
                                        have n1_ := Aside0.mk (blk_drew BK134.out)
                                        have n2_ := Aside0.mk (below_drew1 HB.out)
                                        clear HO_5
                                        clear BK134
                                        clear HB
                                        have HO_5 := n0_
                                        have BK134 := n1_
                                        have HB := n2_
                                        clear n0_ n1_ n2_
                                        have p153 : 0 ≤ (x13_6 : Int) := of_decide_eq_true (by first | (with_reducible assumption) | assumption)
                                        have q153 : x13_6 < (l1.length : Int) := of_decide_eq_true (by first | (with_reducible assumption) | assumption)
                                        obtain ⟨ad153, e153, hx153_0, hx153_1⟩ := at_T58 HR1.out x13_6 p153 q153
                                        have hw153_1 := hx153_1
                                        have hw153_0 := hx153_0
                                        obtain rfl : ad151 = ad153 := (by injection e153)
                                        replace hx153_0 := (HB.out.cell (World.block_lt_of_cell? w _ hx153_0)).trans hx153_0
                                        replace hx153_1 := (HB.out.cell (World.block_lt_of_cell? w _ hx153_1)).trans hx153_1
                                        replace p153 := eq_true p153
                                        replace q153 := eq_true q153
                                        refine start_ (n := 13) (S := fun w' => w'.cell? ⟨gb134, 0, none⟩ = some (.int .i64 a0_0) ∧ w'.cell? ⟨gb134, 1, none⟩ = some (.bool a0_1) ∧ w'.cell? (ad151.add ((x13_6).toNat * 2)) = some (.int .i64 ((rd_T58 l1 x13_6).f0)) ∧ w'.cell? ⟨(ad151.add ((x13_6).toNat * 2)).block, (ad151.add ((x13_6).toNat * 2)).off + 1, none⟩ = some (.int .i64 ((rd_T58 l1 x13_6).f1))) (ds := []) #[false,false,false,false,false,false,false,false,false,false,false,false,false] (by kernel_rfl) rfl rfl ⟨(blk_cell BK134.out 0).trans rfl, (blk_cell BK134.out 1).trans rfl, ((HB.out.cell (World.block_lt_of_cell? w _ hw153_0)).trans hw153_0), ((HB.out.cell (World.block_lt_of_cell? w _ hw153_1)).trans hw153_1)⟩ (fun hHeld => ?_); refine with_tabW spec_l9Sum.tab28 spec_l9Sum.bits28 (fun HT_ HW_ => ?_)
                                        generalize wr.drew = w90 at HO_5 BK134 HB hx153_0 hx153_1 hHeld ⊢
                                        refine pure_ (i := 0) (N := some 107) (v := ?_) (a' := ?_) #[true,false,false,false,false,false,false,false,false,false,false,false,false] rfl rfl (any_of HT_.out (by kernel_rfl)) (fun _ _ _ h => h) (Or.inl ⟨by rfl, ?_⟩) ?_ ?_
                                        rotate_left
                                        ·intro w'
                                         go_simp
                                         with_reducible rfl
                                        rotate_left
                                        ·simp only [Act.put, List.setIfInBounds_toArray, List.set_cons_zero, List.set_cons_succ, i64_w, i32_w]
                                         rfl
                                        refine pure_ (i := 1) (N := some 108) (v := ?_) (a' := ?_) #[true,true,false,false,false,false,false,false,false,false,false,false,false] rfl rfl (any_of HT_.out (by kernel_rfl)) (fun _ _ _ h => h) (Or.inl ⟨by rfl, ?_⟩) ?_ ?_
                                        rotate_left
                                        ·intro w'
                                         go_simp
                                         with_reducible rfl
                                        rotate_left
                                        ·simp only [Act.put, List.setIfInBounds_toArray, List.set_cons_zero, List.set_cons_succ, i64_w, i32_w]
                                         rfl
                                        refine pure_ (i := 4) (N := some 111) (v := ?_) (a' := ?_) #[true,true,false,false,true,false,false,false,false,false,false,false,false] rfl rfl (any_of HT_.out (by kernel_rfl)) (fun _ _ _ h => h) (Or.inl ⟨by rfl, ?_⟩) ?_ ?_
                                        rotate_left
                                        ·intro w'
                                         go_simp
                                         with_reducible rfl
                                        rotate_left
                                        ·simp only [Act.put, List.setIfInBounds_toArray, List.set_cons_zero, List.set_cons_succ, i64_w, i32_w]
                                         rfl
                                        refine pure_ (i := 5) (N := some 112) (v := ?_) (a' := ?_) #[true,true,false,false,true,true,false,false,false,false,false,false,false] rfl rfl (any_of HT_.out (by kernel_rfl)) (fun _ _ _ h => h) (Or.inl ⟨by rfl, ?_⟩) ?_ ?_
                                        rotate_left
                                        ·intro w'
                                         go_simp
                                         with_reducible rfl
                                        rotate_left
                                        ·simp only [Act.put, List.setIfInBounds_toArray, List.set_cons_zero, List.set_cons_succ, i64_w, i32_w]
                                         rfl
                                        refine pure_ (i := 6) (N := some 113) (v := ?_) (a' := ?_) #[true,true,false,false,true,true,true,false,false,false,false,false,false] rfl rfl (any_of HT_.out (by kernel_rfl)) (fun _ _ _ h => h) (Or.inl ⟨by rfl, ?_⟩) ?_ ?_
                                        rotate_left
                                        ·intro w'
                                         go_simp
                                         with_reducible rfl
                                        rotate_left
                                        ·simp only [Act.put, List.setIfInBounds_toArray, List.set_cons_zero, List.set_cons_succ, i64_w, i32_w]
                                         rfl
                                        refine pure_ (i := 7) (N := some 114) (v := ?_) (a' := ?_) #[true,true,false,false,true,true,true,true,false,false,false,false,false] rfl rfl (any_of HT_.out (by kernel_rfl)) (fun _ _ _ h => h) (Or.inl ⟨by rfl, ?_⟩) ?_ ?_
                                        rotate_left
                                        ·intro w'
                                         go_simp
                                         with_reducible rfl
                                        rotate_left
                                        ·simp only [Act.put, List.setIfInBounds_toArray, List.set_cons_zero, List.set_cons_succ, i64_w, i32_w]
                                         rfl
                                        refine pure_ (i := 8) (N := some 115) (v := ?_) (a' := ?_) #[true,true,false,false,true,true,true,true,true,false,false,false,false] rfl rfl (any_of HT_.out (by kernel_rfl)) (fun _ _ _ h => h) (Or.inl ⟨by rfl, ?_⟩) ?_ ?_
                                        rotate_left
                                        ·intro w'
                                         go_simp
                                         with_reducible rfl
                                        rotate_left
                                        ·simp only [Act.put, List.setIfInBounds_toArray, List.set_cons_zero, List.set_cons_succ, i64_w, i32_w]
                                         rfl
                                        refine take_ (i := 2) (N := some 109) (v := ?_) (a' := ?_) #[true,true,true,false,true,true,true,true,true,false,false,false,false] rfl rfl (take_ofW HT_.out HW_.out (by kernel_rfl)) (fun _ _ _ h => h) (Or.inl ⟨by rfl, ?_⟩) hHeld ?_ ?_
                                        rotate_left
                                        ·rintro w' ⟨s0, s1, s2, s3⟩
                                         go_simp
                                         with_reducible rfl
                                        rotate_left
                                        ·simp only [Act.put, List.setIfInBounds_toArray, List.set_cons_zero, List.set_cons_succ, i64_w, i32_w]
                                         rfl
                                        refine pure_ (i := 3) (N := some 110) (v := ?_) (a' := ?_) #[true,true,true,true,true,true,true,true,true,false,false,false,false] rfl rfl (any_of HT_.out (by kernel_rfl)) (fun _ _ _ h => h) (Or.inl ⟨by rfl, ?_⟩) ?_ ?_
                                        rotate_left
                                        ·intro w'
                                         go_simp
                                         with_reducible rfl
                                        rotate_left
                                        ·simp only [Act.put, List.setIfInBounds_toArray, List.set_cons_zero, List.set_cons_succ, i64_w, i32_w]
                                         rfl
                                        refine take_ (i := 9) (N := some 116) (v := ?_) (a' := ?_) #[true,true,true,true,true,true,true,true,true,true,false,false,false] rfl rfl (take_ofW HT_.out HW_.out (by kernel_rfl)) (fun _ _ _ h => h) (Or.inl ⟨by rfl, ?_⟩) hHeld ?_ ?_
                                        rotate_left
                                        ·rintro w' ⟨s0, s1, s2, s3⟩
                                         go_simp
                                         with_reducible rfl
                                        rotate_left
                                        ·simp only [Act.put, List.setIfInBounds_toArray, List.set_cons_zero, List.set_cons_succ, i64_w, i32_w]
                                         rfl
                                        refine pure_ (i := 10) (N := some 117) (v := ?_) (a' := ?_) #[true,true,true,true,true,true,true,true,true,true,true,false,false] rfl rfl (any_of HT_.out (by kernel_rfl)) (fun _ _ _ h => h) (Or.inl ⟨by rfl, ?_⟩) ?_ ?_
                                        rotate_left
                                        ·intro w'
                                         go_simp
                                         with_reducible rfl
                                        rotate_left
                                        ·simp only [Act.put, List.setIfInBounds_toArray, List.set_cons_zero, List.set_cons_succ, i64_w, i32_w]
                                         rfl
                                        refine one_ (i := 11) (N := some 118) #[true,true,true,true,true,true,true,true,true,true,true,true,false] rfl rfl (one_of HT_.out (by kernel_rfl)) (by decide) (fun K hK => ?_)
                                        refine goes_ Try.func44 (by kernel_rfl) rfl #[.int .i64 (wrap64 (a0_0 - 1)), .int .i64 (wrap64 (x11_3 + ((rd_T58 l1 x13_6).f1)))] (by rfl) rfl rfl (by (try simp only [List.map_toArray, List.map_cons, List.map_nil]); first | done | rfl | (simp only [List.length_drop, List.length_take]; rfl)) ?_
                                        with_reducible refine (spec_l1Least.calls (wrap64 (a0_0 - 1)) (wrap64 (x11_3 + ((rd_T58 l1 x13_6).f1))) t154 _ A59.out).mono ?_
                                        rintro e w' ⟨rfl, ⟨nd, rfl⟩⟩
                                        refine ⟨_, rfl, ?_⟩
                                        refine hK.out _ _ ⟨(blk_cell BK134.out 0).trans rfl, (blk_cell BK134.out 1).trans rfl, ((HB.out.cell (World.block_lt_of_cell? w _ hw153_0)).trans hw153_0), ((HB.out.cell (World.block_lt_of_cell? w _ hw153_1)).trans hw153_1)⟩ (fun hHeld => ?_)
                                        clear hK K
                                        refine norm_ (a' := ?_) ?_ ?_
                                        rotate_left
                                        ·show Act.put _ (some 118) _ = _
                                         simp only [Act.put, List.setIfInBounds_toArray, List.set_cons_zero, List.set_cons_succ, i64_w, i32_w]
                                         rfl
                                        refine pure_ (i := 12) (N := some 119) (v := ?_) (a' := ?_) #[true,true,true,true,true,true,true,true,true,true,true,true,true] rfl rfl (any_of HT_.out (by kernel_rfl)) (fun _ _ _ h => h) (Or.inl ⟨by rfl, ?_⟩) ?_ ?_
                                        rotate_left
                                        ·intro w'
                                         go_simp
                                         with_reducible rfl
                                        rotate_left
                                        ·simp only [Act.put, List.setIfInBounds_toArray, List.set_cons_zero, List.set_cons_succ, i64_w, i32_w]
                                         rfl
                                        refine done_ (done_of HT_.out (by kernel_rfl)) ?_
                                        try go_wp2
                                        (try (rw [drewN_self w90]; generalize hq_ : World.drewN w90 _ = w90; have n0_ : Aside0 (Kd.S (Kd.slice 3 (Kd.int .i64)) 24 w90 w.heap.size (fun _ => True) (.slice (some ad145) x5_8.length co28) x5_8) := ⟨by rw [← hq_]; exact (by (with_reducible repeat (first | apply Kd.S_alloc | apply Kd.S_drewN | apply Kd.S_drew)); exact HO_5.out)⟩; have n1_ : Aside0 (w90.heap[gb134]? = some (.cells #[.int .i64 a0_0, .bool a0_1] 27 (0, 0))) := ⟨by rw [← hq_]; exact (by (with_reducible repeat (first | refine blk_drewN ?_ _ | refine blk_drew ?_ | refine blk_alloc ?_ _)); exact BK134.out)⟩; have n2_ : Aside0 (Below w.heap.size w w90) := ⟨by rw [← hq_]; exact (by repeat (first | (with_reducible first | exact HB.out | apply below_alloc | apply pw_below_drewN | apply below_drew1 | refine below_set ?_ GE134.out) | exact HB.out))⟩; clear HO_5 BK134 HB hq_; have HO_5 := n0_; have BK134 := n1_; have HB := n2_; clear n0_ n1_ n2_; have hcq134_0 : w90.cell? ⟨gb134, 0, none⟩ = some (.int .i64 a0_0) := (blk_cell BK134.out 0).trans rfl; have hfq134_0 := blk_frozen BK134.out 0; have hcq134_1 : w90.cell? ⟨gb134, 1, none⟩ = some (.bool a0_1) := (blk_cell BK134.out 1).trans rfl; have hfq134_1 := blk_frozen BK134.out 1))
                                        have n0_ := Aside0.mk (Kd.S_drew HO_5.out)
                                        have n1_ := Aside0.mk (blk_drew BK134.out)
                                        have n2_ := Aside0.mk (below_drew1 HB.out)
                                        clear HO_5
                                        clear BK134
                                        clear HB
                                        have HO_5 := n0_
                                        have BK134 := n1_
                                        have HB := n2_
                                        clear n0_ n1_ n2_
                                        have p155 : 0 ≤ (x13_6 : Int) := of_decide_eq_true (by first | (with_reducible assumption) | assumption)
                                        have q155 : x13_6 < (l1.length : Int) := of_decide_eq_true (by first | (with_reducible assumption) | assumption)
                                        obtain ⟨ad155, e155, hx155_0, hx155_1⟩ := at_T58 HR1.out x13_6 p155 q155
                                        have hw155_1 := hx155_1
                                        have hw155_0 := hx155_0
                                        obtain rfl : ad151 = ad155 := (by injection e155)
                                        replace hx155_0 := (HB.out.cell (World.block_lt_of_cell? w _ hx155_0)).trans hx155_0
                                        replace hx155_1 := (HB.out.cell (World.block_lt_of_cell? w _ hx155_1)).trans hx155_1
                                        replace p155 := eq_true p155
                                        replace q155 := eq_true q155
                                        refine start_ (n := 12) (S := fun w' => w'.cell? ⟨gb134, 0, none⟩ = some (.int .i64 a0_0) ∧ w'.cell? ⟨gb134, 1, none⟩ = some (.bool a0_1) ∧ w'.cell? (ad151.add ((x13_6).toNat * 2)) = some (.int .i64 ((rd_T58 l1 x13_6).f0)) ∧ w'.cell? ⟨(ad151.add ((x13_6).toNat * 2)).block, (ad151.add ((x13_6).toNat * 2)).off + 1, none⟩ = some (.int .i64 ((rd_T58 l1 x13_6).f1))) (ds := []) #[false,false,false,false,false,false,false,false,false,false,false,false] (by kernel_rfl) rfl rfl ⟨(blk_cell BK134.out 0).trans rfl, (blk_cell BK134.out 1).trans rfl, ((HB.out.cell (World.block_lt_of_cell? w _ hw155_0)).trans hw155_0), ((HB.out.cell (World.block_lt_of_cell? w _ hw155_1)).trans hw155_1)⟩ (fun hHeld => ?_); refine with_tabW spec_l9Sum.tab30 spec_l9Sum.bits30 (fun HT_ HW_ => ?_)
                                        generalize w90.drew = w91 at HO_5 BK134 HB hx155_0 hx155_1 hHeld ⊢
                                        refine pure_ (i := 0) (N := some 122) (v := ?_) (a' := ?_) #[true,false,false,false,false,false,false,false,false,false,false,false] rfl rfl (any_of HT_.out (by kernel_rfl)) (fun _ _ _ h => h) (Or.inl ⟨by rfl, ?_⟩) ?_ ?_
                                        rotate_left
                                        ·intro w'
                                         go_simp
                                         with_reducible rfl
                                        rotate_left
                                        ·simp only [Act.put, List.setIfInBounds_toArray, List.set_cons_zero, List.set_cons_succ, i64_w, i32_w]
                                         rfl
                                        refine pure_ (i := 2) (N := some 124) (v := ?_) (a' := ?_) #[true,false,true,false,false,false,false,false,false,false,false,false] rfl rfl (any_of HT_.out (by kernel_rfl)) (fun _ _ _ h => h) (Or.inl ⟨by rfl, ?_⟩) ?_ ?_
                                        rotate_left
                                        ·intro w'
                                         go_simp
                                         with_reducible rfl
                                        rotate_left
                                        ·simp only [Act.put, List.setIfInBounds_toArray, List.set_cons_zero, List.set_cons_succ, i64_w, i32_w]
                                         rfl
                                        refine pure_ (i := 3) (N := some 125) (v := ?_) (a' := ?_) #[true,false,true,true,false,false,false,false,false,false,false,false] rfl rfl (any_of HT_.out (by kernel_rfl)) (fun _ _ _ h => h) (Or.inl ⟨by rfl, ?_⟩) ?_ ?_
                                        rotate_left
                                        ·intro w'
                                         go_simp
                                         with_reducible rfl
                                        rotate_left
                                        ·simp only [Act.put, List.setIfInBounds_toArray, List.set_cons_zero, List.set_cons_succ, i64_w, i32_w]
                                         rfl
                                        refine pure_ (i := 4) (N := some 126) (v := ?_) (a' := ?_) #[true,false,true,true,true,false,false,false,false,false,false,false] rfl rfl (any_of HT_.out (by kernel_rfl)) (fun _ _ _ h => h) (Or.inl ⟨by rfl, ?_⟩) ?_ ?_
                                        rotate_left
                                        ·intro w'
                                         go_simp
                                         with_reducible rfl
                                        rotate_left
                                        ·simp only [Act.put, List.setIfInBounds_toArray, List.set_cons_zero, List.set_cons_succ, i64_w, i32_w]
                                         rfl
                                        refine pure_ (i := 5) (N := some 127) (v := ?_) (a' := ?_) #[true,false,true,true,true,true,false,false,false,false,false,false] rfl rfl (any_of HT_.out (by kernel_rfl)) (fun _ _ _ h => h) (Or.inl ⟨by rfl, ?_⟩) ?_ ?_
                                        rotate_left
                                        ·intro w'
                                         go_simp
                                         with_reducible rfl
                                        rotate_left
                                        ·simp only [Act.put, List.setIfInBounds_toArray, List.set_cons_zero, List.set_cons_succ, i64_w, i32_w]
                                         rfl
                                        refine pure_ (i := 6) (N := some 128) (v := ?_) (a' := ?_) #[true,false,true,true,true,true,true,false,false,false,false,false] rfl rfl (any_of HT_.out (by kernel_rfl)) (fun _ _ _ h => h) (Or.inl ⟨by rfl, ?_⟩) ?_ ?_
                                        rotate_left
                                        ·intro w'
                                         go_simp
                                         with_reducible rfl
                                        rotate_left
                                        ·simp only [Act.put, List.setIfInBounds_toArray, List.set_cons_zero, List.set_cons_succ, i64_w, i32_w]
                                         rfl
                                        refine take_ (i := 1) (N := some 123) (v := ?_) (a' := ?_) #[true,true,true,true,true,true,true,false,false,false,false,false] rfl rfl (take_ofW HT_.out HW_.out (by kernel_rfl)) (fun _ _ _ h => h) (Or.inl ⟨by rfl, ?_⟩) hHeld ?_ ?_
                                        rotate_left
                                        ·rintro w' ⟨s0, s1, s2, s3⟩
                                         go_simp
                                         with_reducible rfl
                                        rotate_left
                                        ·simp only [Act.put, List.setIfInBounds_toArray, List.set_cons_zero, List.set_cons_succ, i64_w, i32_w]
                                         rfl
                                        refine take_ (i := 7) (N := some 129) (v := ?_) (a' := ?_) #[true,true,true,true,true,true,true,true,false,false,false,false] rfl rfl (take_ofW HT_.out HW_.out (by kernel_rfl)) (fun _ _ _ h => h) (Or.inl ⟨by rfl, ?_⟩) hHeld ?_ ?_
                                        rotate_left
                                        ·rintro w' ⟨s0, s1, s2, s3⟩
                                         go_simp
                                         with_reducible rfl
                                        rotate_left
                                        ·simp only [Act.put, List.setIfInBounds_toArray, List.set_cons_zero, List.set_cons_succ, i64_w, i32_w]
                                         rfl
                                        refine pure_ (i := 8) (N := some 130) (v := ?_) (a' := ?_) #[true,true,true,true,true,true,true,true,true,false,false,false] rfl rfl (any_of HT_.out (by kernel_rfl)) (fun _ _ _ h => h) (Or.inl ⟨by rfl, ?_⟩) ?_ ?_
                                        rotate_left
                                        ·intro w'
                                         go_simp
                                         with_reducible rfl
                                        rotate_left
                                        ·simp only [Act.put, List.setIfInBounds_toArray, List.set_cons_zero, List.set_cons_succ, i64_w, i32_w]
                                         rfl
                                        refine pure_ (i := 9) (N := some 131) (v := ?_) (a' := ?_) #[true,true,true,true,true,true,true,true,true,true,false,false] rfl rfl (any_of HT_.out (by kernel_rfl)) (fun _ _ _ h => h) (Or.inl ⟨by rfl, ?_⟩) ?_ ?_
                                        rotate_left
                                        ·intro w'
                                         go_simp
                                         with_reducible rfl
                                        rotate_left
                                        ·simp only [Act.put, List.setIfInBounds_toArray, List.set_cons_zero, List.set_cons_succ, i64_w, i32_w]
                                         rfl
                                        refine one_ (i := 10) (N := some 132) #[true,true,true,true,true,true,true,true,true,true,true,false] rfl rfl (one_of HT_.out (by kernel_rfl)) (by decide) (fun K hK => ?_)
                                        refine goes_ Try.func44 (by kernel_rfl) rfl #[.int .i64 a0_0, .int .i64 (wrap64 ((wrap64 (x14_8 + ((rd_T58 l1 x13_6).f1))) + 1))] (by rfl) rfl rfl (by (try simp only [List.map_toArray, List.map_cons, List.map_nil]); first | done | rfl | (simp only [List.length_drop, List.length_take]; rfl)) ?_
                                        with_reducible refine (spec_l1Least.calls a0_0 (wrap64 ((wrap64 (x14_8 + ((rd_T58 l1 x13_6).f1))) + 1)) t156 _ A61.out).mono ?_
                                        rintro e w' ⟨rfl, ⟨nd, rfl⟩⟩
                                        refine ⟨_, rfl, ?_⟩
                                        refine hK.out _ _ ⟨(blk_cell BK134.out 0).trans rfl, (blk_cell BK134.out 1).trans rfl, ((HB.out.cell (World.block_lt_of_cell? w _ hw155_0)).trans hw155_0), ((HB.out.cell (World.block_lt_of_cell? w _ hw155_1)).trans hw155_1)⟩ (fun hHeld => ?_)
                                        clear hK K
                                        refine norm_ (a' := ?_) ?_ ?_
                                        rotate_left
                                        ·show Act.put _ (some 132) _ = _
                                         simp only [Act.put, List.setIfInBounds_toArray, List.set_cons_zero, List.set_cons_succ, i64_w, i32_w]
                                         rfl
                                        refine pure_ (i := 11) (N := some 15) (v := ?_) (a' := ?_) #[true,true,true,true,true,true,true,true,true,true,true,true] rfl rfl (any_of HT_.out (by kernel_rfl)) (fun _ _ _ h => h) (Or.inl ⟨by rfl, ?_⟩) ?_ ?_
                                        rotate_left
                                        ·intro w'
                                         go_simp
                                         with_reducible rfl
                                        rotate_left
                                        ·simp only [Act.put, List.setIfInBounds_toArray, List.set_cons_zero, List.set_cons_succ, i64_w, i32_w]
                                         rfl
                                        refine done_ (done_of HT_.out (by kernel_rfl)) ?_
                                        try go_wp2
                                        (try (rw [drewN_self w91]; generalize hq_ : World.drewN w91 _ = w91; have n0_ : Aside0 (Kd.S (Kd.slice 3 (Kd.int .i64)) 24 w91 w.heap.size (fun _ => True) (.slice (some ad145) x5_8.length co28) x5_8) := ⟨by rw [← hq_]; exact (by (with_reducible repeat (first | apply Kd.S_alloc | apply Kd.S_drewN | apply Kd.S_drew)); exact HO_5.out)⟩; have n1_ : Aside0 (w91.heap[gb134]? = some (.cells #[.int .i64 a0_0, .bool a0_1] 27 (0, 0))) := ⟨by rw [← hq_]; exact (by (with_reducible repeat (first | refine blk_drewN ?_ _ | refine blk_drew ?_ | refine blk_alloc ?_ _)); exact BK134.out)⟩; have n2_ : Aside0 (Below w.heap.size w w91) := ⟨by rw [← hq_]; exact (by repeat (first | (with_reducible first | exact HB.out | apply below_alloc | apply pw_below_drewN | apply below_drew1 | refine below_set ?_ GE134.out) | exact HB.out))⟩; clear HO_5 BK134 HB hq_; have HO_5 := n0_; have BK134 := n1_; have HB := n2_; clear n0_ n1_ n2_; have hcq134_0 : w91.cell? ⟨gb134, 0, none⟩ = some (.int .i64 a0_0) := (blk_cell BK134.out 0).trans rfl; have hfq134_0 := blk_frozen BK134.out 0; have hcq134_1 : w91.cell? ⟨gb134, 1, none⟩ = some (.bool a0_1) := (blk_cell BK134.out 1).trans rfl; have hfq134_1 := blk_frozen BK134.out 1))
                                        have n0_ := Aside0.mk (Kd.S_drew HO_5.out)
                                        have n1_ := Aside0.mk (blk_drew BK134.out)
                                        have n2_ := Aside0.mk (below_drew1 HB.out)
                                        clear HO_5
                                        clear BK134
                                        clear HB
                                        have HO_5 := n0_
                                        have BK134 := n1_
                                        have HB := n2_
                                        clear n0_ n1_ n2_
                                        have p157 : 0 ≤ (x13_6 : Int) := of_decide_eq_true (by first | (with_reducible assumption) | assumption)
                                        have q157 : x13_6 < (l1.length : Int) := of_decide_eq_true (by first | (with_reducible assumption) | assumption)
                                        obtain ⟨ad157, e157, hx157_0, hx157_1⟩ := at_T58 HR1.out x13_6 p157 q157
                                        have hw157_1 := hx157_1
                                        have hw157_0 := hx157_0
                                        obtain rfl : ad151 = ad157 := (by injection e157)
                                        replace hx157_0 := (HB.out.cell (World.block_lt_of_cell? w _ hx157_0)).trans hx157_0
                                        replace hx157_1 := (HB.out.cell (World.block_lt_of_cell? w _ hx157_1)).trans hx157_1
                                        replace p157 := eq_true p157
                                        replace q157 := eq_true q157
                                        refine start_ (n := 11) (S := fun w' => w'.cell? ⟨gb134, 0, none⟩ = some (.int .i64 a0_0) ∧ w'.cell? ⟨gb134, 1, none⟩ = some (.bool a0_1) ∧ w'.cell? (ad151.add ((x13_6).toNat * 2)) = some (.int .i64 ((rd_T58 l1 x13_6).f0)) ∧ w'.cell? ⟨(ad151.add ((x13_6).toNat * 2)).block, (ad151.add ((x13_6).toNat * 2)).off + 1, none⟩ = some (.int .i64 ((rd_T58 l1 x13_6).f1))) (ds := []) #[false,false,false,false,false,false,false,false,false,false,false] (by kernel_rfl) rfl rfl ⟨(blk_cell BK134.out 0).trans rfl, (blk_cell BK134.out 1).trans rfl, ((HB.out.cell (World.block_lt_of_cell? w _ hw157_0)).trans hw157_0), ((HB.out.cell (World.block_lt_of_cell? w _ hw157_1)).trans hw157_1)⟩ (fun hHeld => ?_); refine with_tabW spec_l9Sum.tab31 spec_l9Sum.bits31 (fun HT_ HW_ => ?_)
                                        generalize w91.drew = w92 at HO_5 BK134 HB hx157_0 hx157_1 hHeld ⊢
                                        refine pure_ (i := 0) (N := some 133) (v := ?_) (a' := ?_) #[true,false,false,false,false,false,false,false,false,false,false] rfl rfl (any_of HT_.out (by kernel_rfl)) (fun _ _ _ h => h) (Or.inl ⟨by rfl, ?_⟩) ?_ ?_
                                        rotate_left
                                        ·intro w'
                                         go_simp
                                         with_reducible rfl
                                        rotate_left
                                        ·simp only [Act.put, List.setIfInBounds_toArray, List.set_cons_zero, List.set_cons_succ, i64_w, i32_w]
                                         rfl
                                        refine pure_ (i := 2) (N := some 135) (v := ?_) (a' := ?_) #[true,false,true,false,false,false,false,false,false,false,false] rfl rfl (any_of HT_.out (by kernel_rfl)) (fun _ _ _ h => h) (Or.inl ⟨by rfl, ?_⟩) ?_ ?_
                                        rotate_left
                                        ·intro w'
                                         go_simp
                                         with_reducible rfl
                                        rotate_left
                                        ·simp only [Act.put, List.setIfInBounds_toArray, List.set_cons_zero, List.set_cons_succ, i64_w, i32_w]
                                         rfl
                                        refine pure_ (i := 3) (N := some 136) (v := ?_) (a' := ?_) #[true,false,true,true,false,false,false,false,false,false,false] rfl rfl (any_of HT_.out (by kernel_rfl)) (fun _ _ _ h => h) (Or.inl ⟨by rfl, ?_⟩) ?_ ?_
                                        rotate_left
                                        ·intro w'
                                         go_simp
                                         with_reducible rfl
                                        rotate_left
                                        ·simp only [Act.put, List.setIfInBounds_toArray, List.set_cons_zero, List.set_cons_succ, i64_w, i32_w]
                                         rfl
                                        refine pure_ (i := 4) (N := some 137) (v := ?_) (a' := ?_) #[true,false,true,true,true,false,false,false,false,false,false] rfl rfl (any_of HT_.out (by kernel_rfl)) (fun _ _ _ h => h) (Or.inl ⟨by rfl, ?_⟩) ?_ ?_
                                        rotate_left
                                        ·intro w'
                                         go_simp
                                         with_reducible rfl
                                        rotate_left
                                        ·simp only [Act.put, List.setIfInBounds_toArray, List.set_cons_zero, List.set_cons_succ, i64_w, i32_w]
                                         rfl
                                        refine pure_ (i := 5) (N := some 138) (v := ?_) (a' := ?_) #[true,false,true,true,true,true,false,false,false,false,false] rfl rfl (any_of HT_.out (by kernel_rfl)) (fun _ _ _ h => h) (Or.inl ⟨by rfl, ?_⟩) ?_ ?_
                                        rotate_left
                                        ·intro w'
                                         go_simp
                                         with_reducible rfl
                                        rotate_left
                                        ·simp only [Act.put, List.setIfInBounds_toArray, List.set_cons_zero, List.set_cons_succ, i64_w, i32_w]
                                         rfl
                                        refine pure_ (i := 7) (N := some 140) (v := ?_) (a' := ?_) #[true,false,true,true,true,true,false,true,false,false,false] rfl rfl (any_of HT_.out (by kernel_rfl)) (fun _ _ _ h => h) (Or.inl ⟨by rfl, ?_⟩) ?_ ?_
                                        rotate_left
                                        ·intro w'
                                         go_simp
                                         with_reducible rfl
                                        rotate_left
                                        ·simp only [Act.put, List.setIfInBounds_toArray, List.set_cons_zero, List.set_cons_succ, i64_w, i32_w]
                                         rfl
                                        refine take_ (i := 1) (N := some 134) (v := ?_) (a' := ?_) #[true,true,true,true,true,true,false,true,false,false,false] rfl rfl (take_ofW HT_.out HW_.out (by kernel_rfl)) (fun _ _ _ h => h) (Or.inl ⟨by rfl, ?_⟩) hHeld ?_ ?_
                                        rotate_left
                                        ·rintro w' ⟨s0, s1, s2, s3⟩
                                         go_simp
                                         with_reducible rfl
                                        rotate_left
                                        ·simp only [Act.put, List.setIfInBounds_toArray, List.set_cons_zero, List.set_cons_succ, i64_w, i32_w]
                                         rfl
                                        refine take_ (i := 6) (N := some 139) (v := ?_) (a' := ?_) #[true,true,true,true,true,true,true,true,false,false,false] rfl rfl (take_ofW HT_.out HW_.out (by kernel_rfl)) (fun _ _ _ h => h) (Or.inl ⟨by rfl, ?_⟩) hHeld ?_ ?_
                                        rotate_left
                                        ·rintro w' ⟨s0, s1, s2, s3⟩
                                         go_simp
                                         with_reducible rfl
                                        rotate_left
                                        ·simp only [Act.put, List.setIfInBounds_toArray, List.set_cons_zero, List.set_cons_succ, i64_w, i32_w]
                                         rfl
                                        refine one_ (i := 8) (N := some 141) #[true,true,true,true,true,true,true,true,true,false,false] rfl rfl (one_of HT_.out (by kernel_rfl)) (by decide) (fun K hK => ?_)
                                        refine goes_ Try.func55 (by kernel_rfl) rfl #[.agg #[.int .i64 a0_0, .bool a0_1], .int .i64 ((rd_T58 l1 x13_6).f0), .int .i64 x14_8] (by rfl) rfl rfl (by (try simp only [List.map_toArray, List.map_cons, List.map_nil]); first | done | rfl | (simp only [List.length_drop, List.length_take]; rfl)) ?_
                                        with_reducible refine (spec_l2Gap.calls a0_0 a0_1 ((rd_T58 l1 x13_6).f0) x14_8 t158 _ A62.out).mono ?_
                                        rintro e w93 ⟨rfl, hb⟩
                                        refine ⟨_, rfl, ?_⟩
                                        have n0_ := Aside0.mk (Kd.S_below (by (with_reducible repeat (first | apply Kd.S_alloc | apply Kd.S_drewN | apply Kd.S_drew)); exact HO_5.out) hb)
                                        have n1_ := Aside0.mk (blk_below (g := gb134) (o := .cells #[.int .i64 a0_0, .bool a0_1] 27 (0, 0)) (by (with_reducible repeat (first | refine blk_drewN ?_ _ | refine blk_drew ?_ | refine blk_alloc ?_ _)); exact BK134.out) hb)
                                        have n2_ := Aside0.mk (below_step (by repeat (first | (with_reducible first | exact HB.out | apply below_alloc | apply pw_below_drewN | apply below_drew1 | refine below_set ?_ GE134.out) | exact HB.out)) hb)
                                        clear HO_5
                                        clear BK134
                                        clear HB
                                        have HO_5 := n0_
                                        have BK134 := n1_
                                        have HB := n2_
                                        clear n0_ n1_ n2_
                                        (try clear hb)
                                        (try clear hb2)
                                        (try clear hk)
                                        (try clear hi)
                                        refine hK.out _ _ ⟨(blk_cell BK134.out 0).trans rfl, (blk_cell BK134.out 1).trans rfl, ((HB.out.cell (World.block_lt_of_cell? w _ hw157_0)).trans hw157_0), ((HB.out.cell (World.block_lt_of_cell? w _ hw157_1)).trans hw157_1)⟩ (fun hHeld => ?_)
                                        clear hK K
                                        refine norm_ (a' := ?_) ?_ ?_
                                        rotate_left
                                        ·show Act.put _ (some 141) _ = _
                                         simp only [Act.put, List.setIfInBounds_toArray, List.set_cons_zero, List.set_cons_succ, i64_w, i32_w]
                                         rfl
                                        refine pure_ (i := 9) (N := some 142) (v := ?_) (a' := ?_) #[true,true,true,true,true,true,true,true,true,true,false] rfl rfl (any_of HT_.out (by kernel_rfl)) (fun _ _ _ h => h) (Or.inl ⟨by rfl, ?_⟩) ?_ ?_
                                        rotate_left
                                        ·intro w'
                                         go_simp
                                         with_reducible rfl
                                        rotate_left
                                        ·simp only [Act.put, List.setIfInBounds_toArray, List.set_cons_zero, List.set_cons_succ, i64_w, i32_w]
                                         rfl
                                        refine pure_ (i := 10) (N := some 16) (v := ?_) (a' := ?_) #[true,true,true,true,true,true,true,true,true,true,true] rfl rfl (any_of HT_.out (by kernel_rfl)) (fun _ _ _ h => h) (Or.inl ⟨by rfl, ?_⟩) ?_ ?_
                                        rotate_left
                                        ·intro w'
                                         go_simp
                                         with_reducible rfl
                                        rotate_left
                                        ·simp only [Act.put, List.setIfInBounds_toArray, List.set_cons_zero, List.set_cons_succ, i64_w, i32_w]
                                         rfl
                                        refine done_ (done_of HT_.out (by kernel_rfl)) ?_
                                        have p159 : 0 ≤ ((ji65) : Int) := of_decide_eq_true (by first | (with_reducible assumption) | assumption)
                                        have q159 : (ji65) < (x5_8.length : Int) := of_decide_eq_true (by first | (with_reducible assumption) | assumption)
                                        obtain ⟨ad159, A159_0, c159_0, e159, hx159_0, hl159_0, hi159_0⟩ := at_L3 (Kd.S_reads' HO_5.out).2.2 (ji65) p159 q159
                                        obtain rfl : ad145 = ad159 := (by injection e159)
                                        obtain ⟨ce159, hce159, hMe159, hcc159⟩ := Kd.S_get HO_5.out [] (ji65) p159 (by first | exact q159 | exact of_decide_eq_true (by first | (with_reducible assumption) | assumption) | (have e_ := (Kd.S_reads' HO_5.out).1; omega))
                                        obtain ⟨ve159_0, rfl, ge159_0⟩ := hMe159
                                        have hv159_0 := hcc159 0 _ rfl
                                        rw [Nat.add_zero, show ((Kd.slice 3 (Kd.int .i64))).sz = 1 from rfl, Nat.mul_one] at hv159_0
                                        replace hv159_0 := Option.some.inj (hv159_0.symm.trans hx159_0)
                                        rw [hv159_0] at ge159_0
                                        have HL159_0 := Aside0.mk (show Kd.R (Kd.int .i64) 3 _ _ _ _ (rd_L3 x5_8 (ji65)) from ge159_0)
                                        clear hv159_0 ge159_0
                                        have HX159_0 := Aside0.mk hx159_0
                                        clear hcc159 hce159
                                        have HR159_0 := Aside0.mk hi159_0
                                        have HC159_0 := Aside0.mk hl159_0
                                        clear hi159_0 hl159_0
                                        replace p159 := eq_true p159
                                        replace q159 := eq_true q159
                                        have p160 : 0 ≤ (t156 : Int) := of_decide_eq_true (by first | (with_reducible assumption) | assumption)
                                        have q160 : t156 < ((rd_L3 x5_8 (ji65)).length : Int) := of_decide_eq_true (by first | (with_reducible assumption) | assumption)
                                        obtain ⟨ad160, e160, hx160_0⟩ := Kd.at_int (by repeat (first | (with_reducible exact HR159_0.out) | (with_reducible refine Kd.C_alloc ?_ _) | (with_reducible refine Kd.C_drewN ?_ _) | (with_reducible refine Kd.C_drew ?_) | exact HR159_0.out)) t156 p160 q160
                                        cases e160
                                        replace p160 := eq_true p160
                                        replace q160 := eq_true q160
                                        try go_wp2
                                        (try simp only [← hl5_8])
                                        go_roundg k8
                                        case measure => have := HK1.out; have := HK2.out; have := HK3.out; have := HJ38.out; have := HJ45.out; have := HK6.out; have := HJ47.out; have := HK8.out; omega
                                        case rel => exact ⟨(x5_8), (wrap64 (x14_8 + 1)), (by first | rfl | (simp; done) | (simp [*]; done)), H', ⟨by have := HK1.out; have := HK2.out; have := HK3.out; have := HJ38.out; have := HJ45.out; have := HK6.out; have := HJ47.out; have := HK8.out; omega⟩, ⟨by (try simp only [hl5_2]); (try simp only [hl5_3]); (try simp only [hl5_6]); (try simp only [hl5_8]); (with_reducible repeat (first | apply Kd.S_alloc | apply Kd.S_drewN | apply Kd.S_drew)); exact HO_5.out⟩, ⟨by (try simp only [hl5_2]); (try simp only [hl5_3]); (try simp only [hl5_6]); (try simp only [hl5_8]); (with_reducible repeat (first | refine blk_drewN ?_ _ | refine blk_drew ?_ | refine blk_alloc ?_ _)); exact BK134.out⟩, ⟨by repeat (first | (with_reducible first | exact HB.out | apply below_alloc | apply pw_below_drewN | apply below_drew1 | refine below_set ?_ GE134.out) | exact HB.out)⟩⟩
                                     ·rw [if_neg c69] at H
                                      exact absurd H (by simp)
                                    ·rw [if_neg c68] at H
                                     exact absurd H (by simp)
                                   ·rw [if_neg c67] at H
                                    exact absurd H (by simp)
                                  ·rw [if_neg c66] at H
                                   exact absurd H (by simp)
                                 ·rw [if_neg c60] at H
                                  have c60b0 : decide (x14_8 ≤ t154) = false := decide_eq_false c60
                                  clear c60
                                  have H' := Aside0.mk H
                                  clear H
                                  try go_wp2
                                  have n0_ := Aside0.mk (Kd.S_drew HO_5.out)
                                  have n1_ := Aside0.mk (blk_drew BK134.out)
                                  have n2_ := Aside0.mk (below_drew1 HB.out)
                                  clear HO_5
                                  clear BK134
                                  clear HB
                                  have HO_5 := n0_
                                  have BK134 := n1_
                                  have HB := n2_
                                  clear n0_ n1_ n2_
                                  have p153 : 0 ≤ (x13_6 : Int) := of_decide_eq_true (by first | (with_reducible assumption) | assumption)
                                  have q153 : x13_6 < (l1.length : Int) := of_decide_eq_true (by first | (with_reducible assumption) | assumption)
                                  obtain ⟨ad153, e153, hx153_0, hx153_1⟩ := at_T58 HR1.out x13_6 p153 q153
                                  have hw153_1 := hx153_1
                                  have hw153_0 := hx153_0
                                  obtain rfl : ad151 = ad153 := (by injection e153)
                                  replace hx153_0 := (HB.out.cell (World.block_lt_of_cell? w _ hx153_0)).trans hx153_0
                                  replace hx153_1 := (HB.out.cell (World.block_lt_of_cell? w _ hx153_1)).trans hx153_1
                                  replace p153 := eq_true p153
                                  replace q153 := eq_true q153
                                  refine start_ (n := 13) (S := fun w' => w'.cell? ⟨gb134, 0, none⟩ = some (.int .i64 a0_0) ∧ w'.cell? ⟨gb134, 1, none⟩ = some (.bool a0_1) ∧ w'.cell? (ad151.add ((x13_6).toNat * 2)) = some (.int .i64 ((rd_T58 l1 x13_6).f0)) ∧ w'.cell? ⟨(ad151.add ((x13_6).toNat * 2)).block, (ad151.add ((x13_6).toNat * 2)).off + 1, none⟩ = some (.int .i64 ((rd_T58 l1 x13_6).f1))) (ds := []) #[false,false,false,false,false,false,false,false,false,false,false,false,false] (by kernel_rfl) rfl rfl ⟨(blk_cell BK134.out 0).trans rfl, (blk_cell BK134.out 1).trans rfl, ((HB.out.cell (World.block_lt_of_cell? w _ hw153_0)).trans hw153_0), ((HB.out.cell (World.block_lt_of_cell? w _ hw153_1)).trans hw153_1)⟩ (fun hHeld => ?_); refine with_tabW spec_l9Sum.tab28 spec_l9Sum.bits28 (fun HT_ HW_ => ?_)
                                  generalize wr.drew = w94 at HO_5 BK134 HB hx153_0 hx153_1 hHeld ⊢
                                  refine pure_ (i := 0) (N := some 107) (v := ?_) (a' := ?_) #[true,false,false,false,false,false,false,false,false,false,false,false,false] rfl rfl (any_of HT_.out (by kernel_rfl)) (fun _ _ _ h => h) (Or.inl ⟨by rfl, ?_⟩) ?_ ?_
                                  rotate_left
                                  ·intro w'
                                   go_simp
                                   with_reducible rfl
                                  rotate_left
                                  ·simp only [Act.put, List.setIfInBounds_toArray, List.set_cons_zero, List.set_cons_succ, i64_w, i32_w]
                                   rfl
                                  refine pure_ (i := 1) (N := some 108) (v := ?_) (a' := ?_) #[true,true,false,false,false,false,false,false,false,false,false,false,false] rfl rfl (any_of HT_.out (by kernel_rfl)) (fun _ _ _ h => h) (Or.inl ⟨by rfl, ?_⟩) ?_ ?_
                                  rotate_left
                                  ·intro w'
                                   go_simp
                                   with_reducible rfl
                                  rotate_left
                                  ·simp only [Act.put, List.setIfInBounds_toArray, List.set_cons_zero, List.set_cons_succ, i64_w, i32_w]
                                   rfl
                                  refine pure_ (i := 4) (N := some 111) (v := ?_) (a' := ?_) #[true,true,false,false,true,false,false,false,false,false,false,false,false] rfl rfl (any_of HT_.out (by kernel_rfl)) (fun _ _ _ h => h) (Or.inl ⟨by rfl, ?_⟩) ?_ ?_
                                  rotate_left
                                  ·intro w'
                                   go_simp
                                   with_reducible rfl
                                  rotate_left
                                  ·simp only [Act.put, List.setIfInBounds_toArray, List.set_cons_zero, List.set_cons_succ, i64_w, i32_w]
                                   rfl
                                  refine pure_ (i := 5) (N := some 112) (v := ?_) (a' := ?_) #[true,true,false,false,true,true,false,false,false,false,false,false,false] rfl rfl (any_of HT_.out (by kernel_rfl)) (fun _ _ _ h => h) (Or.inl ⟨by rfl, ?_⟩) ?_ ?_
                                  rotate_left
                                  ·intro w'
                                   go_simp
                                   with_reducible rfl
                                  rotate_left
                                  ·simp only [Act.put, List.setIfInBounds_toArray, List.set_cons_zero, List.set_cons_succ, i64_w, i32_w]
                                   rfl
                                  refine pure_ (i := 6) (N := some 113) (v := ?_) (a' := ?_) #[true,true,false,false,true,true,true,false,false,false,false,false,false] rfl rfl (any_of HT_.out (by kernel_rfl)) (fun _ _ _ h => h) (Or.inl ⟨by rfl, ?_⟩) ?_ ?_
                                  rotate_left
                                  ·intro w'
                                   go_simp
                                   with_reducible rfl
                                  rotate_left
                                  ·simp only [Act.put, List.setIfInBounds_toArray, List.set_cons_zero, List.set_cons_succ, i64_w, i32_w]
                                   rfl
                                  refine pure_ (i := 7) (N := some 114) (v := ?_) (a' := ?_) #[true,true,false,false,true,true,true,true,false,false,false,false,false] rfl rfl (any_of HT_.out (by kernel_rfl)) (fun _ _ _ h => h) (Or.inl ⟨by rfl, ?_⟩) ?_ ?_
                                  rotate_left
                                  ·intro w'
                                   go_simp
                                   with_reducible rfl
                                  rotate_left
                                  ·simp only [Act.put, List.setIfInBounds_toArray, List.set_cons_zero, List.set_cons_succ, i64_w, i32_w]
                                   rfl
                                  refine pure_ (i := 8) (N := some 115) (v := ?_) (a' := ?_) #[true,true,false,false,true,true,true,true,true,false,false,false,false] rfl rfl (any_of HT_.out (by kernel_rfl)) (fun _ _ _ h => h) (Or.inl ⟨by rfl, ?_⟩) ?_ ?_
                                  rotate_left
                                  ·intro w'
                                   go_simp
                                   with_reducible rfl
                                  rotate_left
                                  ·simp only [Act.put, List.setIfInBounds_toArray, List.set_cons_zero, List.set_cons_succ, i64_w, i32_w]
                                   rfl
                                  refine take_ (i := 2) (N := some 109) (v := ?_) (a' := ?_) #[true,true,true,false,true,true,true,true,true,false,false,false,false] rfl rfl (take_ofW HT_.out HW_.out (by kernel_rfl)) (fun _ _ _ h => h) (Or.inl ⟨by rfl, ?_⟩) hHeld ?_ ?_
                                  rotate_left
                                  ·rintro w' ⟨s0, s1, s2, s3⟩
                                   go_simp
                                   with_reducible rfl
                                  rotate_left
                                  ·simp only [Act.put, List.setIfInBounds_toArray, List.set_cons_zero, List.set_cons_succ, i64_w, i32_w]
                                   rfl
                                  refine pure_ (i := 3) (N := some 110) (v := ?_) (a' := ?_) #[true,true,true,true,true,true,true,true,true,false,false,false,false] rfl rfl (any_of HT_.out (by kernel_rfl)) (fun _ _ _ h => h) (Or.inl ⟨by rfl, ?_⟩) ?_ ?_
                                  rotate_left
                                  ·intro w'
                                   go_simp
                                   with_reducible rfl
                                  rotate_left
                                  ·simp only [Act.put, List.setIfInBounds_toArray, List.set_cons_zero, List.set_cons_succ, i64_w, i32_w]
                                   rfl
                                  refine take_ (i := 9) (N := some 116) (v := ?_) (a' := ?_) #[true,true,true,true,true,true,true,true,true,true,false,false,false] rfl rfl (take_ofW HT_.out HW_.out (by kernel_rfl)) (fun _ _ _ h => h) (Or.inl ⟨by rfl, ?_⟩) hHeld ?_ ?_
                                  rotate_left
                                  ·rintro w' ⟨s0, s1, s2, s3⟩
                                   go_simp
                                   with_reducible rfl
                                  rotate_left
                                  ·simp only [Act.put, List.setIfInBounds_toArray, List.set_cons_zero, List.set_cons_succ, i64_w, i32_w]
                                   rfl
                                  refine pure_ (i := 10) (N := some 117) (v := ?_) (a' := ?_) #[true,true,true,true,true,true,true,true,true,true,true,false,false] rfl rfl (any_of HT_.out (by kernel_rfl)) (fun _ _ _ h => h) (Or.inl ⟨by rfl, ?_⟩) ?_ ?_
                                  rotate_left
                                  ·intro w'
                                   go_simp
                                   with_reducible rfl
                                  rotate_left
                                  ·simp only [Act.put, List.setIfInBounds_toArray, List.set_cons_zero, List.set_cons_succ, i64_w, i32_w]
                                   rfl
                                  refine one_ (i := 11) (N := some 118) #[true,true,true,true,true,true,true,true,true,true,true,true,false] rfl rfl (one_of HT_.out (by kernel_rfl)) (by decide) (fun K hK => ?_)
                                  refine goes_ Try.func44 (by kernel_rfl) rfl #[.int .i64 (wrap64 (a0_0 - 1)), .int .i64 (wrap64 (x11_3 + ((rd_T58 l1 x13_6).f1)))] (by rfl) rfl rfl (by (try simp only [List.map_toArray, List.map_cons, List.map_nil]); first | done | rfl | (simp only [List.length_drop, List.length_take]; rfl)) ?_
                                  with_reducible refine (spec_l1Least.calls (wrap64 (a0_0 - 1)) (wrap64 (x11_3 + ((rd_T58 l1 x13_6).f1))) t154 _ A59.out).mono ?_
                                  rintro e w' ⟨rfl, ⟨nd, rfl⟩⟩
                                  refine ⟨_, rfl, ?_⟩
                                  refine hK.out _ _ ⟨(blk_cell BK134.out 0).trans rfl, (blk_cell BK134.out 1).trans rfl, ((HB.out.cell (World.block_lt_of_cell? w _ hw153_0)).trans hw153_0), ((HB.out.cell (World.block_lt_of_cell? w _ hw153_1)).trans hw153_1)⟩ (fun hHeld => ?_)
                                  clear hK K
                                  refine norm_ (a' := ?_) ?_ ?_
                                  rotate_left
                                  ·show Act.put _ (some 118) _ = _
                                   simp only [Act.put, List.setIfInBounds_toArray, List.set_cons_zero, List.set_cons_succ, i64_w, i32_w]
                                   rfl
                                  refine pure_ (i := 12) (N := some 119) (v := ?_) (a' := ?_) #[true,true,true,true,true,true,true,true,true,true,true,true,true] rfl rfl (any_of HT_.out (by kernel_rfl)) (fun _ _ _ h => h) (Or.inl ⟨by rfl, ?_⟩) ?_ ?_
                                  rotate_left
                                  ·intro w'
                                   go_simp
                                   with_reducible rfl
                                  rotate_left
                                  ·simp only [Act.put, List.setIfInBounds_toArray, List.set_cons_zero, List.set_cons_succ, i64_w, i32_w]
                                   rfl
                                  refine done_ (done_of HT_.out (by kernel_rfl)) ?_
                                  try go_wp2
                                  (try simp only [← hl5_6, ← hl5_8])
                                  go_roundg k8
                                  case measure => have := HK1.out; have := HK2.out; have := HK3.out; have := HJ38.out; have := HJ45.out; have := HK6.out; have := HJ47.out; have := HK8.out; omega
                                  case rel => exact ⟨(x5_8), (wrap64 (x13_6 + 1)), (by first | rfl | (simp; done) | (simp [*]; done)), H', ⟨by have := HK1.out; have := HK2.out; have := HK3.out; have := HJ38.out; have := HJ45.out; have := HK6.out; have := HJ47.out; have := HK8.out; omega⟩, ⟨by (try simp only [hl5_2]); (try simp only [hl5_3]); (try simp only [hl5_6]); (try simp only [hl5_8]); (with_reducible repeat (first | apply Kd.S_alloc | apply Kd.S_drewN | apply Kd.S_drew)); exact HO_5.out⟩, ⟨by (try simp only [hl5_2]); (try simp only [hl5_3]); (try simp only [hl5_6]); (try simp only [hl5_8]); (with_reducible repeat (first | refine blk_drewN ?_ _ | refine blk_drew ?_ | refine blk_alloc ?_ _)); exact BK134.out⟩, ⟨by repeat (first | (with_reducible first | exact HB.out | apply below_alloc | apply pw_below_drewN | apply below_drew1 | refine below_set ?_ GE134.out) | exact HB.out)⟩⟩
                                ·rw [if_neg c58] at H
                                 exact absurd H (by simp)
                               ·rw [if_neg c57] at H
                                exact absurd H (by simp)
                            ·rw [if_neg c55] at H
                             exact absurd H (by simp)
                          ·rw [if_neg c52] at H
                           exact absurd H (by simp)
                         ·replace c51 := Bool.eq_false_iff.mpr c51
                          subst c51
                          have H1 : (spec_l9Sum.l3 kj47 l1 x5_6 x9_45 x10_2 (wrap64 (x11_3 + 1)) a0_0 a0_1) = some r := by rw [if_neg (show ¬ (false = true) by decide)] at H; exact H
                          clear H
                          have H := H1
                          clear H1
                          have H' := Aside0.mk H
                          clear H
                          go_wp2
                          (try simp only [← hl5_3, ← hl5_6])
                          go_roundg kj47
                          case measure => have := HK1.out; have := HK2.out; have := HK3.out; have := HJ38.out; have := HJ45.out; have := HK6.out; have := HJ47.out; omega
                          case rel => exact ⟨(x5_6), (x9_45), (wrap64 (x11_3 + 1)), (by first | rfl | (simp; done) | (simp [*]; done)), (by first | rfl | (simp; done) | (simp [*]; done)), H', ⟨by have := HK1.out; have := HK2.out; have := HK3.out; have := HJ38.out; have := HJ45.out; have := HK6.out; have := HJ47.out; omega⟩, ⟨by (try simp only [hl5_2]); (try simp only [hl5_3]); (try simp only [hl5_6]); (with_reducible repeat (first | apply Kd.S_alloc | apply Kd.S_drewN | apply Kd.S_drew)); exact HO_5.out⟩, ⟨by (try simp only [hl5_2]); (try simp only [hl5_3]); (try simp only [hl5_6]); (with_reducible repeat (first | refine blk_drewN ?_ _ | refine blk_drew ?_ | refine blk_alloc ?_ _)); exact BK134.out⟩, ⟨by repeat (first | (with_reducible first | exact HB.out | apply below_alloc | apply pw_below_drewN | apply below_drew1 | refine below_set ?_ GE134.out) | exact HB.out)⟩⟩
               ·rw [if_neg c36] at H
                exact absurd H (by simp)
              ·rw [if_neg c35] at H
               exact absurd H (by simp)
             ·rw [if_neg c34] at H
              exact absurd H (by simp)
            ·rw [if_neg c33] at H
             exact absurd H (by simp)
           ·rw [if_neg c32] at H
            have c32b0 : decide (x11_3 ≤ a0_0) = false := decide_eq_false c32
            clear c32
            have H' := Aside0.mk H
            clear H
            have hcz95_0 : wr.cell? ⟨gb134, 0, none⟩ = some (.int .i64 a0_0) := (blk_cell BK134.out 0).trans rfl
            have hcz95_1 : wr.cell? ⟨gb134, 1, none⟩ = some (.bool a0_1) := (blk_cell BK134.out 1).trans rfl
            have hfz95_0 := blk_frozen BK134.out 0
            have hfz95_1 := blk_frozen BK134.out 1
            go_wp2
            (try simp only [← hl5_2, ← hl5_3])
            go_roundg k3
            case measure => have := HK1.out; have := HK2.out; have := HK3.out; omega
            case rel => exact ⟨(x5_3), (x9_3), (wrap64 (x10_2 + 1)), (by first | rfl | (simp; done) | (simp [*]; done)), (by first | rfl | (simp; done) | (simp [*]; done)), H', ⟨by have := HK1.out; have := HK2.out; have := HK3.out; omega⟩, ⟨by (try simp only [hl5_2]); (try simp only [hl5_3]); (with_reducible repeat (first | apply Kd.S_alloc | apply Kd.S_drewN | apply Kd.S_drew)); exact HO_5.out⟩, ⟨by (try simp only [hl5_2]); (try simp only [hl5_3]); (with_reducible repeat (first | refine blk_drewN ?_ _ | refine blk_drew ?_ | refine blk_alloc ?_ _)); exact BK134.out⟩, ⟨by repeat (first | (with_reducible first | exact HB.out | apply below_alloc | apply pw_below_drewN | apply below_drew1 | refine below_set ?_ GE134.out) | exact HB.out)⟩⟩
        ·rw [if_neg c31] at H
         have c31b0 : decide (x10_2 < (x5_2.length : Int)) = false := decide_eq_false c31
         (try simp only [hl5_2] at c31b0)
         clear c31
         obtain rfl := Option.some.inj H
         go_wp2
         go_ret
         exact ⟨by first | rfl | (simp [errW_none, errW_some] <;> rfl) | (simp only [← hji6]; first | rfl | (simp [errW_none, errW_some] <;> rfl)) | (simp [*, errW_none, errW_some] <;> rfl), by repeat (first | (with_reducible first | exact HB.out | apply below_alloc | apply pw_below_drewN | apply below_drew1 | refine below_set ?_ GE134.out) | exact HB.out)⟩
     ·rw [if_neg c26] at H
      exact absurd H (by simp)
    ·rw [if_neg c25] at H
     exact absurd H (by simp)

end Go.Proofs.Ytanfamfgdgcjpaa.QFnExactLeastSum
