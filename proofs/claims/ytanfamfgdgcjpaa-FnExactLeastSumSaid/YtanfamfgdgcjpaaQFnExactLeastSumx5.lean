/- Functions that the law FnExactLeastSum comes to, as Lean functions, with the proof that the Go code does what they say: written by a program of this session over the kit's print. No condition but those named. -/
import Derived.Test.YtanfamfgdgcjpaaQFnExactLeastSumx0
import Derived.Test.YtanfamfgdgcjpaaQFnExactLeastSumx4
namespace Go.Proofs.Ytanfamfgdgcjpaa.QFnExactLeastSum
open Go.RowKit Go.Proofs.YtanfamfgdgcjpaaW.PrintWords Go.Proofs.YtanfamfgdgcjpaaW.PrintLast Go.Proofs.YtanfamfgdgcjpaaW.PrintMore
attribute [local go_sem] max2_int min2_int max_two min_two max_three min_three max_four min_four   -- for this text's walks alone
set_option linter.unusedVariables false
set_option linter.unusedSimpArgs false

/-! ### impl_LeastSum: function 29 -/
mutual
def impl_LeastSum.l0 : Nat → List (S58) → Mt → Int → Int → Int → Int → Bool → Option (Int × Bool)
 | 0, _, _, _, _, _, _, _ => none
 | k + 1, x1, x6, x7, x28, x29, x198000, x198001 => if x29 < x28 then (impl_LeastSum.l1 k x1 x6 x7 x29 x28 x29 (wrap64 (x198000 + 1)) 0 x198000 x198001) else ((impl_found.f x7).bind fun bt199 => (some (bt199.1, bt199.2)))
def impl_LeastSum.l1 : Nat → List (S58) → Mt → Int → Int → Int → Int → Int → Int → Int → Bool → Option (Int × Bool)
 | 0, _, _, _, _, _, _, _, _, _, _ => none
 | k + 1, x1, x6, x7, x8, x28, x29, x34, x35, x198000, x198001 => if x35 < x34 then ((mapGet.f x6 x8 x35).bind fun bt201 => (if bt201.2 = true then (if x35 = x198000 then (if x7 < 0 then (impl_LeastSum.j2 k x1 x6 x7 x8 x35 bt201.1 x28 x29 x34 x35 true x198000 x198001) else (impl_LeastSum.j2 k x1 x6 x7 x8 x35 bt201.1 x28 x29 x34 x35 (decide (bt201.1 < x7)) x198000 x198001)) else (impl_LeastSum.j2 k x1 x6 x7 x8 x35 bt201.1 x28 x29 x34 x35 false x198000 x198001)) else (impl_LeastSum.l1 k x1 x6 x7 x8 x28 x29 x34 (wrap64 (x35 + 1)) x198000 x198001))) else (impl_LeastSum.l0 k x1 x6 x7 x28 (wrap64 (x29 + 1)) x198000 x198001)
def impl_LeastSum.j2 : Nat → List (S58) → Mt → Int → Int → Int → Int → Int → Int → Int → Int → Bool → Int → Bool → Option (Int × Bool)
 | 0, _, _, _, _, _, _, _, _, _, _, _, _, _ => none
 | k + 1, x1, x6, x7, x8, x9, x10, x28, x29, x34, x35, x60, x198000, x198001 => if x60 = true then (impl_LeastSum.j3 k x1 x6 x10 x8 x9 x10 x28 x29 x34 x35 x198000 x198001) else (impl_LeastSum.j3 k x1 x6 x7 x8 x9 x10 x28 x29 x34 x35 x198000 x198001)
def impl_LeastSum.j3 : Nat → List (S58) → Mt → Int → Int → Int → Int → Int → Int → Int → Int → Int → Bool → Option (Int × Bool)
 | 0, _, _, _, _, _, _, _, _, _, _, _, _ => none
 | k + 1, x1, x6, x7, x8, x9, x10, x28, x29, x34, x35, x198000, x198001 => impl_LeastSum.l2 k x1 x6 x7 x8 x9 x10 x28 x29 x34 x35 x1 (x1.length : Int) 0 x198000 x198001
def impl_LeastSum.l2 : Nat → List (S58) → Mt → Int → Int → Int → Int → Int → Int → Int → Int → List (S58) → Int → Int → Int → Bool → Option (Int × Bool)
 | 0, _, _, _, _, _, _, _, _, _, _, _, _, _, _, _ => none
 | k + 1, x1, x6, x7, x8, x9, x10, x28, x29, x34, x35, x62, x63, x64, x198000, x198001 => if x64 < x63 then (if 0 ≤ x64 then (if x64 < (x62.length : Int) then (impl_LeastSum.l3 k x1 x6 x7 x8 x9 x10 x64 x28 x29 x34 x35 x62 x63 x64 x198000 0 x198000 x198001 ((rd_T58 x62 x64).f0) ((rd_T58 x62 x64).f1)) else (none)) else (none)) else (impl_LeastSum.l1 k x1 x6 x7 x8 x28 x29 x34 (wrap64 (x35 + 1)) x198000 x198001)
def impl_LeastSum.l3 : Nat → List (S58) → Mt → Int → Int → Int → Int → Int → Int → Int → Int → Int → List (S58) → Int → Int → Int → Int → Int → Bool → Int → Int → Option (Int × Bool)
 | 0, _, _, _, _, _, _, _, _, _, _, _, _, _, _, _, _, _, _, _, _ => none
 | k + 1, x1, x6, x7, x8, x9, x10, x12, x28, x29, x34, x35, x62, x63, x64, x70, x71, x198000, x198001, x205000, x205001 => if x71 < x70 then (if 0 ≤ x12 then (if (Go.bits .and .i64 (shr .i64 x8 x12) 1) = 1 then (impl_LeastSum.j6 k x1 x6 x7 x8 x9 x10 x12 x71 x28 x29 x34 x35 x62 x63 x64 x70 x71 true x198000 x198001 x205000 x205001) else (if (wrap64 (x71 - x205001)) > x9 then (impl_LeastSum.j6 k x1 x6 x7 x8 x9 x10 x12 x71 x28 x29 x34 x35 x62 x63 x64 x70 x71 true x198000 x198001 x205000 x205001) else (impl_LeastSum.j6 k x1 x6 x7 x8 x9 x10 x12 x71 x28 x29 x34 x35 x62 x63 x64 x70 x71 (decide ((wrap64 (x71 + x205001)) < x9)) x198000 x198001 x205000 x205001))) else (none)) else (impl_LeastSum.l2 k x1 x6 x7 x8 x9 x10 x28 x29 x34 x35 x62 x63 (wrap64 (x64 + 1)) x198000 x198001)
def impl_LeastSum.j6 : Nat → List (S58) → Mt → Int → Int → Int → Int → Int → Int → Int → Int → Int → Int → List (S58) → Int → Int → Int → Int → Bool → Int → Bool → Int → Int → Option (Int × Bool)
 | 0, _, _, _, _, _, _, _, _, _, _, _, _, _, _, _, _, _, _, _, _, _, _ => none
 | k + 1, x1, x6, x7, x8, x9, x10, x12, x14, x28, x29, x34, x35, x62, x63, x64, x70, x71, x94, x198000, x198001, x205000, x205001 => if x94 = true then (impl_LeastSum.l3 k x1 x6 x7 x8 x9 x10 x12 x28 x29 x34 x35 x62 x63 x64 x70 (wrap64 (x71 + 1)) x198000 x198001 x205000 x205001) else (if 0 ≤ x12 then ((impl_Road_gap.f x198000 x198001 x205000 x14).bind fun t206 => ((mapGet.f x6 (Go.bits .or .i64 x8 (shl .i64 1 x12)) (mn x198000 (wrap64 ((wrap64 (x14 + x205001)) + 1)))).bind fun bt207 => (if bt207.2 = true then (if (wrap64 (x10 + t206)) < bt207.1 then ((mapPut.f x6 (Go.bits .or .i64 x8 (shl .i64 1 x12)) (mn x198000 (wrap64 ((wrap64 (x14 + x205001)) + 1))) (wrap64 (x10 + t206))).bind fun t209 => (impl_LeastSum.l3 k x1 t209 x7 x8 x9 x10 x12 x28 x29 x34 x35 x62 x63 x64 x70 (wrap64 (x71 + 1)) x198000 x198001 x205000 x205001)) else (impl_LeastSum.l3 k x1 x6 x7 x8 x9 x10 x12 x28 x29 x34 x35 x62 x63 x64 x70 (wrap64 (x71 + 1)) x198000 x198001 x205000 x205001)) else ((mapPut.f x6 (Go.bits .or .i64 x8 (shl .i64 1 x12)) (mn x198000 (wrap64 ((wrap64 (x14 + x205001)) + 1))) (wrap64 (x10 + t206))).bind fun t210 => (impl_LeastSum.l3 k x1 t210 x7 x8 x9 x10 x12 x28 x29 x34 x35 x62 x63 x64 x70 (wrap64 (x71 + 1)) x198000 x198001 x205000 x205001))))) else (none))
end
def impl_LeastSum.f (k : Nat) (a0_0 : Int) (a0_1 : Bool) (l1 : List (S58)) : Option (Int × Bool) := (impl_isGuarded.f k a0_0 a0_1 l1).bind fun t198 => (if t198 = true then (impl_LeastSum.l0 k l1 mt0 (-1) (shl .i64 1 (l1.length : Int)) 0 a0_0 a0_1) else (some (0, false)))
theorem impl_LeastSum.mono_l : ∀ k, (∀ y0 y1 y2 y3 y4 y5 y6, LeO (impl_LeastSum.l0 k y0 y1 y2 y3 y4 y5 y6) (impl_LeastSum.l0 (k + 1) y0 y1 y2 y3 y4 y5 y6)) ∧ (∀ y0 y1 y2 y3 y4 y5 y6 y7 y8 y9, LeO (impl_LeastSum.l1 k y0 y1 y2 y3 y4 y5 y6 y7 y8 y9) (impl_LeastSum.l1 (k + 1) y0 y1 y2 y3 y4 y5 y6 y7 y8 y9)) ∧ (∀ y0 y1 y2 y3 y4 y5 y6 y7 y8 y9 y10 y11 y12, LeO (impl_LeastSum.j2 k y0 y1 y2 y3 y4 y5 y6 y7 y8 y9 y10 y11 y12) (impl_LeastSum.j2 (k + 1) y0 y1 y2 y3 y4 y5 y6 y7 y8 y9 y10 y11 y12)) ∧ (∀ y0 y1 y2 y3 y4 y5 y6 y7 y8 y9 y10 y11, LeO (impl_LeastSum.j3 k y0 y1 y2 y3 y4 y5 y6 y7 y8 y9 y10 y11) (impl_LeastSum.j3 (k + 1) y0 y1 y2 y3 y4 y5 y6 y7 y8 y9 y10 y11)) ∧ (∀ y0 y1 y2 y3 y4 y5 y6 y7 y8 y9 y10 y11 y12 y13 y14, LeO (impl_LeastSum.l2 k y0 y1 y2 y3 y4 y5 y6 y7 y8 y9 y10 y11 y12 y13 y14) (impl_LeastSum.l2 (k + 1) y0 y1 y2 y3 y4 y5 y6 y7 y8 y9 y10 y11 y12 y13 y14)) ∧ (∀ y0 y1 y2 y3 y4 y5 y6 y7 y8 y9 y10 y11 y12 y13 y14 y15 y16 y17 y18 y19, LeO (impl_LeastSum.l3 k y0 y1 y2 y3 y4 y5 y6 y7 y8 y9 y10 y11 y12 y13 y14 y15 y16 y17 y18 y19) (impl_LeastSum.l3 (k + 1) y0 y1 y2 y3 y4 y5 y6 y7 y8 y9 y10 y11 y12 y13 y14 y15 y16 y17 y18 y19)) ∧ (∀ y0 y1 y2 y3 y4 y5 y6 y7 y8 y9 y10 y11 y12 y13 y14 y15 y16 y17 y18 y19 y20 y21, LeO (impl_LeastSum.j6 k y0 y1 y2 y3 y4 y5 y6 y7 y8 y9 y10 y11 y12 y13 y14 y15 y16 y17 y18 y19 y20 y21) (impl_LeastSum.j6 (k + 1) y0 y1 y2 y3 y4 y5 y6 y7 y8 y9 y10 y11 y12 y13 y14 y15 y16 y17 y18 y19 y20 y21))
 | 0 => ⟨fun _ _ _ _ _ _ _ r h => by simp [impl_LeastSum.l0] at h, fun _ _ _ _ _ _ _ _ _ _ r h => by simp [impl_LeastSum.l1] at h, fun _ _ _ _ _ _ _ _ _ _ _ _ _ r h => by simp [impl_LeastSum.j2] at h, fun _ _ _ _ _ _ _ _ _ _ _ _ r h => by simp [impl_LeastSum.j3] at h, fun _ _ _ _ _ _ _ _ _ _ _ _ _ _ _ r h => by simp [impl_LeastSum.l2] at h, fun _ _ _ _ _ _ _ _ _ _ _ _ _ _ _ _ _ _ _ _ r h => by simp [impl_LeastSum.l3] at h, fun _ _ _ _ _ _ _ _ _ _ _ _ _ _ _ _ _ _ _ _ _ _ r h => by simp [impl_LeastSum.j6] at h⟩
 | k + 1 => by
  obtain ⟨ih0, ih1, ih2, ih3, ih4, ih5, ih6⟩ := impl_LeastSum.mono_l k
  refine ⟨?_, ?_, ?_, ?_, ?_, ?_, ?_⟩
  ·intro y0 y1 y2 y3 y4 y5 y6
   unfold impl_LeastSum.l0
   repeat' first
   | (with_reducible exact ih0 _ _ _ _ _ _ _)
   | (with_reducible exact ih1 _ _ _ _ _ _ _ _ _ _)
   | (with_reducible exact ih2 _ _ _ _ _ _ _ _ _ _ _ _ _)
   | (with_reducible exact ih3 _ _ _ _ _ _ _ _ _ _ _ _)
   | (with_reducible exact ih4 _ _ _ _ _ _ _ _ _ _ _ _ _ _ _)
   | (with_reducible exact ih5 _ _ _ _ _ _ _ _ _ _ _ _ _ _ _ _ _ _ _ _)
   | (with_reducible exact ih6 _ _ _ _ _ _ _ _ _ _ _ _ _ _ _ _ _ _ _ _ _ _)
   | (with_reducible exact impl_isGuarded.mono _ _ _ _)
   | (with_reducible exact LeO.refl _)
   | (with_reducible exact LeO.none _)
   | (with_reducible refine LeO.ite ?_ ?_)
   | (with_reducible refine LeO.bind ?_ (fun _ => ?_))
   | exact ih0 _ _ _ _ _ _ _
   | exact ih1 _ _ _ _ _ _ _ _ _ _
   | exact ih2 _ _ _ _ _ _ _ _ _ _ _ _ _
   | exact ih3 _ _ _ _ _ _ _ _ _ _ _ _
   | exact ih4 _ _ _ _ _ _ _ _ _ _ _ _ _ _ _
   | exact ih5 _ _ _ _ _ _ _ _ _ _ _ _ _ _ _ _ _ _ _ _
   | exact ih6 _ _ _ _ _ _ _ _ _ _ _ _ _ _ _ _ _ _ _ _ _ _
   | exact impl_isGuarded.mono _ _ _ _
   | exact LeO.none _
   | refine LeO.ite ?_ ?_
   | refine LeO.bind ?_ (fun _ => ?_)
  ·intro y0 y1 y2 y3 y4 y5 y6 y7 y8 y9
   unfold impl_LeastSum.l1
   repeat' first
   | (with_reducible exact ih0 _ _ _ _ _ _ _)
   | (with_reducible exact ih1 _ _ _ _ _ _ _ _ _ _)
   | (with_reducible exact ih2 _ _ _ _ _ _ _ _ _ _ _ _ _)
   | (with_reducible exact ih3 _ _ _ _ _ _ _ _ _ _ _ _)
   | (with_reducible exact ih4 _ _ _ _ _ _ _ _ _ _ _ _ _ _ _)
   | (with_reducible exact ih5 _ _ _ _ _ _ _ _ _ _ _ _ _ _ _ _ _ _ _ _)
   | (with_reducible exact ih6 _ _ _ _ _ _ _ _ _ _ _ _ _ _ _ _ _ _ _ _ _ _)
   | (with_reducible exact impl_isGuarded.mono _ _ _ _)
   | (with_reducible exact LeO.refl _)
   | (with_reducible exact LeO.none _)
   | (with_reducible refine LeO.ite ?_ ?_)
   | (with_reducible refine LeO.bind ?_ (fun _ => ?_))
   | exact ih0 _ _ _ _ _ _ _
   | exact ih1 _ _ _ _ _ _ _ _ _ _
   | exact ih2 _ _ _ _ _ _ _ _ _ _ _ _ _
   | exact ih3 _ _ _ _ _ _ _ _ _ _ _ _
   | exact ih4 _ _ _ _ _ _ _ _ _ _ _ _ _ _ _
   | exact ih5 _ _ _ _ _ _ _ _ _ _ _ _ _ _ _ _ _ _ _ _
   | exact ih6 _ _ _ _ _ _ _ _ _ _ _ _ _ _ _ _ _ _ _ _ _ _
   | exact impl_isGuarded.mono _ _ _ _
   | exact LeO.none _
   | refine LeO.ite ?_ ?_
   | refine LeO.bind ?_ (fun _ => ?_)
  ·intro y0 y1 y2 y3 y4 y5 y6 y7 y8 y9 y10 y11 y12
   unfold impl_LeastSum.j2
   repeat' first
   | (with_reducible exact ih0 _ _ _ _ _ _ _)
   | (with_reducible exact ih1 _ _ _ _ _ _ _ _ _ _)
   | (with_reducible exact ih2 _ _ _ _ _ _ _ _ _ _ _ _ _)
   | (with_reducible exact ih3 _ _ _ _ _ _ _ _ _ _ _ _)
   | (with_reducible exact ih4 _ _ _ _ _ _ _ _ _ _ _ _ _ _ _)
   | (with_reducible exact ih5 _ _ _ _ _ _ _ _ _ _ _ _ _ _ _ _ _ _ _ _)
   | (with_reducible exact ih6 _ _ _ _ _ _ _ _ _ _ _ _ _ _ _ _ _ _ _ _ _ _)
   | (with_reducible exact impl_isGuarded.mono _ _ _ _)
   | (with_reducible exact LeO.refl _)
   | (with_reducible exact LeO.none _)
   | (with_reducible refine LeO.ite ?_ ?_)
   | (with_reducible refine LeO.bind ?_ (fun _ => ?_))
   | exact ih0 _ _ _ _ _ _ _
   | exact ih1 _ _ _ _ _ _ _ _ _ _
   | exact ih2 _ _ _ _ _ _ _ _ _ _ _ _ _
   | exact ih3 _ _ _ _ _ _ _ _ _ _ _ _
   | exact ih4 _ _ _ _ _ _ _ _ _ _ _ _ _ _ _
   | exact ih5 _ _ _ _ _ _ _ _ _ _ _ _ _ _ _ _ _ _ _ _
   | exact ih6 _ _ _ _ _ _ _ _ _ _ _ _ _ _ _ _ _ _ _ _ _ _
   | exact impl_isGuarded.mono _ _ _ _
   | exact LeO.none _
   | refine LeO.ite ?_ ?_
   | refine LeO.bind ?_ (fun _ => ?_)
  ·intro y0 y1 y2 y3 y4 y5 y6 y7 y8 y9 y10 y11
   unfold impl_LeastSum.j3
   repeat' first
   | (with_reducible exact ih0 _ _ _ _ _ _ _)
   | (with_reducible exact ih1 _ _ _ _ _ _ _ _ _ _)
   | (with_reducible exact ih2 _ _ _ _ _ _ _ _ _ _ _ _ _)
   | (with_reducible exact ih3 _ _ _ _ _ _ _ _ _ _ _ _)
   | (with_reducible exact ih4 _ _ _ _ _ _ _ _ _ _ _ _ _ _ _)
   | (with_reducible exact ih5 _ _ _ _ _ _ _ _ _ _ _ _ _ _ _ _ _ _ _ _)
   | (with_reducible exact ih6 _ _ _ _ _ _ _ _ _ _ _ _ _ _ _ _ _ _ _ _ _ _)
   | (with_reducible exact impl_isGuarded.mono _ _ _ _)
   | (with_reducible exact LeO.refl _)
   | (with_reducible exact LeO.none _)
   | (with_reducible refine LeO.ite ?_ ?_)
   | (with_reducible refine LeO.bind ?_ (fun _ => ?_))
   | exact ih0 _ _ _ _ _ _ _
   | exact ih1 _ _ _ _ _ _ _ _ _ _
   | exact ih2 _ _ _ _ _ _ _ _ _ _ _ _ _
   | exact ih3 _ _ _ _ _ _ _ _ _ _ _ _
   | exact ih4 _ _ _ _ _ _ _ _ _ _ _ _ _ _ _
   | exact ih5 _ _ _ _ _ _ _ _ _ _ _ _ _ _ _ _ _ _ _ _
   | exact ih6 _ _ _ _ _ _ _ _ _ _ _ _ _ _ _ _ _ _ _ _ _ _
   | exact impl_isGuarded.mono _ _ _ _
   | exact LeO.none _
   | refine LeO.ite ?_ ?_
   | refine LeO.bind ?_ (fun _ => ?_)
  ·intro y0 y1 y2 y3 y4 y5 y6 y7 y8 y9 y10 y11 y12 y13 y14
   unfold impl_LeastSum.l2
   repeat' first
   | (with_reducible exact ih0 _ _ _ _ _ _ _)
   | (with_reducible exact ih1 _ _ _ _ _ _ _ _ _ _)
   | (with_reducible exact ih2 _ _ _ _ _ _ _ _ _ _ _ _ _)
   | (with_reducible exact ih3 _ _ _ _ _ _ _ _ _ _ _ _)
   | (with_reducible exact ih4 _ _ _ _ _ _ _ _ _ _ _ _ _ _ _)
   | (with_reducible exact ih5 _ _ _ _ _ _ _ _ _ _ _ _ _ _ _ _ _ _ _ _)
   | (with_reducible exact ih6 _ _ _ _ _ _ _ _ _ _ _ _ _ _ _ _ _ _ _ _ _ _)
   | (with_reducible exact impl_isGuarded.mono _ _ _ _)
   | (with_reducible exact LeO.refl _)
   | (with_reducible exact LeO.none _)
   | (with_reducible refine LeO.ite ?_ ?_)
   | (with_reducible refine LeO.bind ?_ (fun _ => ?_))
   | exact ih0 _ _ _ _ _ _ _
   | exact ih1 _ _ _ _ _ _ _ _ _ _
   | exact ih2 _ _ _ _ _ _ _ _ _ _ _ _ _
   | exact ih3 _ _ _ _ _ _ _ _ _ _ _ _
   | exact ih4 _ _ _ _ _ _ _ _ _ _ _ _ _ _ _
   | exact ih5 _ _ _ _ _ _ _ _ _ _ _ _ _ _ _ _ _ _ _ _
   | exact ih6 _ _ _ _ _ _ _ _ _ _ _ _ _ _ _ _ _ _ _ _ _ _
   | exact impl_isGuarded.mono _ _ _ _
   | exact LeO.none _
   | refine LeO.ite ?_ ?_
   | refine LeO.bind ?_ (fun _ => ?_)
  ·intro y0 y1 y2 y3 y4 y5 y6 y7 y8 y9 y10 y11 y12 y13 y14 y15 y16 y17 y18 y19
   unfold impl_LeastSum.l3
   repeat' first
   | (with_reducible exact ih0 _ _ _ _ _ _ _)
   | (with_reducible exact ih1 _ _ _ _ _ _ _ _ _ _)
   | (with_reducible exact ih2 _ _ _ _ _ _ _ _ _ _ _ _ _)
   | (with_reducible exact ih3 _ _ _ _ _ _ _ _ _ _ _ _)
   | (with_reducible exact ih4 _ _ _ _ _ _ _ _ _ _ _ _ _ _ _)
   | (with_reducible exact ih5 _ _ _ _ _ _ _ _ _ _ _ _ _ _ _ _ _ _ _ _)
   | (with_reducible exact ih6 _ _ _ _ _ _ _ _ _ _ _ _ _ _ _ _ _ _ _ _ _ _)
   | (with_reducible exact impl_isGuarded.mono _ _ _ _)
   | (with_reducible exact LeO.refl _)
   | (with_reducible exact LeO.none _)
   | (with_reducible refine LeO.ite ?_ ?_)
   | (with_reducible refine LeO.bind ?_ (fun _ => ?_))
   | exact ih0 _ _ _ _ _ _ _
   | exact ih1 _ _ _ _ _ _ _ _ _ _
   | exact ih2 _ _ _ _ _ _ _ _ _ _ _ _ _
   | exact ih3 _ _ _ _ _ _ _ _ _ _ _ _
   | exact ih4 _ _ _ _ _ _ _ _ _ _ _ _ _ _ _
   | exact ih5 _ _ _ _ _ _ _ _ _ _ _ _ _ _ _ _ _ _ _ _
   | exact ih6 _ _ _ _ _ _ _ _ _ _ _ _ _ _ _ _ _ _ _ _ _ _
   | exact impl_isGuarded.mono _ _ _ _
   | exact LeO.none _
   | refine LeO.ite ?_ ?_
   | refine LeO.bind ?_ (fun _ => ?_)
  ·intro y0 y1 y2 y3 y4 y5 y6 y7 y8 y9 y10 y11 y12 y13 y14 y15 y16 y17 y18 y19 y20 y21
   unfold impl_LeastSum.j6
   repeat' first
   | (with_reducible exact ih0 _ _ _ _ _ _ _)
   | (with_reducible exact ih1 _ _ _ _ _ _ _ _ _ _)
   | (with_reducible exact ih2 _ _ _ _ _ _ _ _ _ _ _ _ _)
   | (with_reducible exact ih3 _ _ _ _ _ _ _ _ _ _ _ _)
   | (with_reducible exact ih4 _ _ _ _ _ _ _ _ _ _ _ _ _ _ _)
   | (with_reducible exact ih5 _ _ _ _ _ _ _ _ _ _ _ _ _ _ _ _ _ _ _ _)
   | (with_reducible exact ih6 _ _ _ _ _ _ _ _ _ _ _ _ _ _ _ _ _ _ _ _ _ _)
   | (with_reducible exact impl_isGuarded.mono _ _ _ _)
   | (with_reducible exact LeO.refl _)
   | (with_reducible exact LeO.none _)
   | (with_reducible refine LeO.ite ?_ ?_)
   | (with_reducible refine LeO.bind ?_ (fun _ => ?_))
   | exact ih0 _ _ _ _ _ _ _
   | exact ih1 _ _ _ _ _ _ _ _ _ _
   | exact ih2 _ _ _ _ _ _ _ _ _ _ _ _ _
   | exact ih3 _ _ _ _ _ _ _ _ _ _ _ _
   | exact ih4 _ _ _ _ _ _ _ _ _ _ _ _ _ _ _
   | exact ih5 _ _ _ _ _ _ _ _ _ _ _ _ _ _ _ _ _ _ _ _
   | exact ih6 _ _ _ _ _ _ _ _ _ _ _ _ _ _ _ _ _ _ _ _ _ _
   | exact impl_isGuarded.mono _ _ _ _
   | exact LeO.none _
   | refine LeO.ite ?_ ?_
   | refine LeO.bind ?_ (fun _ => ?_)
theorem impl_LeastSum.mono : ∀ a0 a1 a2 k, LeO (impl_LeastSum.f k a0 a1 a2) (impl_LeastSum.f (k + 1) a0 a1 a2) := by
 intro a0 a1 a2 k
 obtain ⟨ih0, ih1, ih2, ih3, ih4, ih5, ih6⟩ := impl_LeastSum.mono_l k
 unfold impl_LeastSum.f
 repeat' first
   | (with_reducible exact ih0 _ _ _ _ _ _ _)
   | (with_reducible exact ih1 _ _ _ _ _ _ _ _ _ _)
   | (with_reducible exact ih2 _ _ _ _ _ _ _ _ _ _ _ _ _)
   | (with_reducible exact ih3 _ _ _ _ _ _ _ _ _ _ _ _)
   | (with_reducible exact ih4 _ _ _ _ _ _ _ _ _ _ _ _ _ _ _)
   | (with_reducible exact ih5 _ _ _ _ _ _ _ _ _ _ _ _ _ _ _ _ _ _ _ _)
   | (with_reducible exact ih6 _ _ _ _ _ _ _ _ _ _ _ _ _ _ _ _ _ _ _ _ _ _)
   | (with_reducible exact impl_isGuarded.mono _ _ _ _)
   | (with_reducible exact LeO.refl _)
   | (with_reducible exact LeO.none _)
   | (with_reducible refine LeO.ite ?_ ?_)
   | (with_reducible refine LeO.bind ?_ (fun _ => ?_))
   | exact ih0 _ _ _ _ _ _ _
   | exact ih1 _ _ _ _ _ _ _ _ _ _
   | exact ih2 _ _ _ _ _ _ _ _ _ _ _ _ _
   | exact ih3 _ _ _ _ _ _ _ _ _ _ _ _
   | exact ih4 _ _ _ _ _ _ _ _ _ _ _ _ _ _ _
   | exact ih5 _ _ _ _ _ _ _ _ _ _ _ _ _ _ _ _ _ _ _ _
   | exact ih6 _ _ _ _ _ _ _ _ _ _ _ _ _ _ _ _ _ _ _ _ _ _
   | exact impl_isGuarded.mono _ _ _ _
   | exact LeO.none _
   | refine LeO.ite ?_ ?_
   | refine LeO.bind ?_ (fun _ => ?_)
def impl_LeastSum.T22 : Bool × List (List Nat × List Nat) := (true, [([], []), ([], []), ([1], [1]), ([0, 2], [0, 2]), ([], []), ([4], [4]), ([], []), ([], []), ([7], [7]), ([6, 8], [6, 8]), ([9], [9]), ([5, 10], [5, 10]), ([3, 11], [3, 11]), ([], []), ([13, 12, 0, 1, 2, 3, 4, 5, 6, 7, 8, 9, 10, 11, 12, 13], [12, 13])])
def impl_LeastSum.B22 : List Nat := [0, 0, 2, 7, 0, 16, 0, 0, 128, 448, 960, 2032, 4095, 0, 16383]
theorem impl_LeastSum.tab22 : rtab .any (opsOf Try.f29 22) = impl_LeastSum.T22 := by kernel_rfl
theorem impl_LeastSum.bits22 : waitsOk impl_LeastSum.T22.2 impl_LeastSum.B22 = true := by kernel_rfl
set_option maxHeartbeats 8000000 in
set_option maxRecDepth 100000 in
theorem impl_LeastSum.calls (k : Nat) (a0_0 : Int) (a0_1 : Bool) (A1 : Option Addr) (c1 : Nat) (l1 : List (S58)) (r1 : Int) (r2 : Bool) (w : World) (hr1 : Kd.C k58 w A1 l1.length l1) (hc1 : l1.length ≤ c1) (h : impl_LeastSum.f k a0_0 a0_1 l1 = some (r1, r2)) :
  Calls Try.prog 29 #[.agg #[.int .i64 a0_0, .bool a0_1], .slice A1 l1.length c1] w fun e w' => e = .returned (.tuple #[.int .i64 r1, .bool r2]) ∧ Below w.heap.size w w' := by
 have hu27 := Try.underlying27
 have hu76 := Try.underlying76
 have hu58 := Try.underlying58
 have HR1 := Aside0.mk hr1
 have HC1 := Aside0.mk hc1
 clear hr1 hc1
 have HB := Aside0.mk (Below.refl w.heap.size w)
 have H : ((impl_isGuarded.f k a0_0 a0_1 l1).bind fun t198 => (if t198 = true then (impl_LeastSum.l0 k l1 mt0 (-1) (shl .i64 1 (l1.length : Int)) 0 a0_0 a0_1) else (some (0, false)))) = some (r1, r2) := h
 clear h
 replace H := Option.bind_eq_some_iff.mp H
 obtain ⟨t198, A30, H⟩ := H
 replace H : (if t198 = true then (impl_LeastSum.l0 k l1 mt0 (-1) (shl .i64 1 (l1.length : Int)) 0 a0_0 a0_1) else (some (0, false))) = some (r1, r2) := H
 have A3 := Aside0.mk A30
 clear A30
 by_cases c4 : t198 = true
 ·subst c4
  have H1 : (impl_LeastSum.l0 k l1 mt0 (-1) (shl .i64 1 (l1.length : Int)) 0 a0_0 a0_1) = some (r1, r2) := by rw [if_pos rfl] at H; exact H
  clear H
  have H := H1
  clear H1
  obtain ⟨ji5, hji5⟩ : ∃ j_ : Int, (shl .i64 1 (l1.length : Int)) = j_ := ⟨_, rfl⟩
  replace H : (impl_LeastSum.l0 k l1 mt0 (-1) ji5 0 a0_0 a0_1) = some (r1, r2) := by first | (rw [hji5] at H; exact H) | (simp only [hji5] at H ⊢; exact H)
  (try rw [hji5] at A3)
  have hji5_ : (IntKind.i64.wrap (1 * 2 ^ min (l1.length : Int).toNat 64)) = ji5 := hji5
  have hji5z : (l1.length : Int) ≤ 64 → (IntKind.i64.wrap (1 * 2 ^ (l1.length : Int).toNat)) = ji5 := shl_small hji5
  have hji5p : (IntKind.i64.wrap (1 * 2 ^ min l1.length 64)) = ji5 := hji5_
  have hji5q : (l1.length : Int) ≤ 64 → (IntKind.i64.wrap (1 * 2 ^ l1.length)) = ji5 := hji5z
  have hji5r : (IntKind.i64.wrap (2 ^ min l1.length 64)) = ji5 := by have h_ := hji5p; rw [Int.one_mul] at h_; exact h_
  have hji5s : (l1.length : Int) ≤ 64 → (IntKind.i64.wrap (2 ^ l1.length)) = ji5 := fun hle_ => by have h_ := hji5q hle_; rw [Int.one_mul] at h_; exact h_
  have hji5u : (IntKind.i64.wrap (2 ^ min (l1.length : Int).toNat 64)) = ji5 := by have h_ := hji5_; rw [Int.one_mul] at h_; exact h_
  have hji5v : (l1.length : Int) ≤ 64 → (IntKind.i64.wrap (2 ^ (l1.length : Int).toNat)) = ji5 := fun hle_ => by have h_ := hji5z hle_; rw [Int.one_mul] at h_; exact h_
  have hji5y : (wrap64 (1 * 2 ^ min (l1.length : Int).toNat 64)) = ji5 := (i64_w _).symm.trans hji5_
  have hji5x : (l1.length : Int) ≤ 64 → (wrap64 (1 * 2 ^ (l1.length : Int).toNat)) = ji5 := fun h_ => (i64_w _).symm.trans (hji5z h_)
  have H' := Aside0.mk H
  clear H
  go_enter Try.func29, Try.ntmps29
  go_wp2_with (first | ((with_reducible refine gate_dst (N := 2) rfl ?_); refine box_event ?hg (N := 2) ?hd (cs := #[.int .i64 a0_0, .bool a0_1]) (t := 27) ?hr ?_; (case hd => rfl); (case hg => rfl); (case hr => first | (go_simp; done) | (go_simp; rfl)); intro gb197 hg w6 hbox hb; have n0_ := Aside0.mk (below_step (by repeat (first | (with_reducible first | exact HB.out | apply below_alloc | apply pw_below_drewN | apply below_drew1) | exact HB.out)) hb); have n1_ := Aside0.mk (hbox); have n2_ := Aside0.mk ((by rw [hg]; exact (below_size (by repeat (first | (with_reducible first | exact HB.out | apply below_alloc | apply pw_below_drewN | apply below_drew1) | exact HB.out))) : w.heap.size ≤ gb197)); have n3_ := Aside0.mk ((by rw [hg]; exact (below_size (by repeat (first | (with_reducible first | exact HB.out | apply below_alloc | apply pw_below_drewN | apply below_drew1) | exact HB.out))) : w.heap.size ≤ gb197)); clear HB; have HB := n0_; have BK197 := n1_; have GW197 := n2_; have GE197 := n3_; clear n0_ n1_ n2_ n3_; clear hb hbox hg; have hcz7_0 : w6.cell? ⟨gb197, 0, none⟩ = some (.int .i64 a0_0) := (blk_cell BK197.out 0).trans rfl; have hcz7_1 : w6.cell? ⟨gb197, 1, none⟩ = some (.bool a0_1) := (blk_cell BK197.out 1).trans rfl; have hfz7_0 := blk_frozen BK197.out 0; have hfz7_1 := blk_frozen BK197.out 1) | ((with_reducible refine gate_callee (f := 50) rfl ?_); refine goesL_ (some 21) rfl rfl Try.func50 (by kernel_rfl) rfl #[.agg #[.int .i64 a0_0, .bool a0_1], .slice A1 l1.length c1] rfl (by (try simp only [List.map_toArray, List.map_cons, List.map_nil]); first | done | rfl | (simp only [List.length_drop, List.length_take]; rfl)) ?_; (with_reducible refine (impl_isGuarded.calls k a0_0 a0_1 _ _ l1 true _ ?side1 ?side2 A3.out).mono ?_); (case side1 => repeat (first | exact (Kd.C_below HR1.out HB.out) | (with_reducible refine Kd.C_alloc ?_ _) | (with_reducible refine Kd.C_drewN ?_ _) | (with_reducible refine Kd.C_drew ?_))); (case side2 => exact HC1.out); rintro e w8 ⟨rfl, hb⟩; refine ⟨_, rfl, ?_⟩; have n0_ := Aside0.mk (blk_below (g := gb197) (o := .cells #[.int .i64 a0_0, .bool a0_1] 27 (0, 0)) (by (with_reducible repeat (first | refine blk_drewN ?_ _ | refine blk_drew ?_ | refine blk_alloc ?_ _)); exact BK197.out) hb); have n1_ := Aside0.mk (below_step (by repeat (first | (with_reducible first | exact HB.out | apply below_alloc | apply pw_below_drewN | apply below_drew1 | refine below_set ?_ GE197.out) | exact HB.out)) hb); clear BK197; clear HB; have BK197 := n0_; have HB := n1_; clear n0_ n1_; (try clear hb); (try clear hb2); (try clear hk); (try clear hi)) | ((with_reducible refine gate_dst (N := 23) rfl ?_); refine map_make rfl rfl rfl ?_; intro gm hg wm hM hb; have n0_ := Aside0.mk (blk_below (g := gb197) (o := (.cells #[.int .i64 a0_0, .bool a0_1] 27 (0, 0))) (by (with_reducible repeat (first | refine blk_drewN ?_ _ | refine blk_drew ?_ | refine blk_alloc ?_ _)); exact BK197.out) hb); have n1_ := Aside0.mk (below_step (by repeat (first | (with_reducible first | exact HB.out | apply below_alloc | apply pw_below_drewN | apply below_drew1 | refine below_set ?_ GE197.out) | exact HB.out)) hb); have n2_ := Aside0.mk hM; have n3_ := Aside0.mk ((by rw [hg]; exact below_size (by repeat (first | (with_reducible first | exact HB.out | apply below_alloc | apply pw_below_drewN | apply below_drew1 | refine below_set ?_ GE197.out) | exact HB.out))) : w.heap.size ≤ gm); have n4_ := Aside0.mk ((by rw [hg]; exact Nat.ne_of_lt (blk_lt (g := gb197) (o := (.cells #[.int .i64 a0_0, .bool a0_1] 27 (0, 0))) (by (with_reducible repeat (first | refine blk_drewN ?_ _ | refine blk_drew ?_ | refine blk_alloc ?_ _)); exact BK197.out))) : gb197 ≠ gm); clear BK197; clear HB; have BK197 := n0_; have HB := n1_; have MB := n2_; have GM := n3_; have NG197 := n4_; clear n0_ n1_ n2_ n3_ n4_; clear hb hM hg) | (refine map_put rfl (.tmp 23) (.tmp 24) (.const (.int .i64 0)) (.inr rfl) rfl gm mtE mt0 0 0 0 (by rfl) (by rfl) (by rfl) (by (with_reducible repeat (first | refine map_drewN ?_ _ | refine map_drew ?_ | refine map_alloc ?_ _)); exact MB.out) put_0 ?_; intro wp hM hgr; have q0_ := Aside0.mk hM; have q1_ := Aside0.mk (below_put (by repeat (first | (with_reducible first | exact HB.out | apply below_alloc | apply pw_below_drewN | apply below_drew1 | refine below_set ?_ GE197.out) | exact HB.out)) hgr GM.out); have r0_ := Aside0.mk (blk_grown (o := (.cells #[.int .i64 a0_0, .bool a0_1] 27 (0, 0))) (by (with_reducible repeat (first | refine blk_drewN ?_ _ | refine blk_drew ?_ | refine blk_alloc ?_ _)); exact BK197.out) hgr (fun e_ => NG197.out (Option.some.inj e_))); clear MB; clear HB; clear BK197; have MB := q0_; have HB := q1_; have BK197 := r0_; clear q0_ q1_ r0_; clear hM hgr))
  go_loopg [7, 29] k (fun kq v7 v29 w' => ∃ (x6_1 : Mt) (x7_1 : Int) (x29_1 : Int), v7 = .int .i64 x7_1 ∧ v29 = .int .i64 x29_1 ∧ Aside0 (impl_LeastSum.l0 kq l1 x6_1 x7_1 ji5 x29_1 a0_0 a0_1 = some (r1, r2)) ∧ Aside0 (kq ≤ k) ∧ Aside0 (MapIs w' gm x6_1) ∧ Aside0 (w'.heap[gb197]? = some (.cells #[.int .i64 a0_0, .bool a0_1] 27 (0, 0))) ∧ Aside0 (Below w.heap.size w w'))
  case atStart => exact ⟨(mt0), ((-1)), (0), (by first | rfl | (simp; done) | (simp [*]; done)), (by first | rfl | (simp; done) | (simp [*]; done)), H', ⟨Nat.le_refl _⟩, ⟨by (with_reducible repeat (first | refine map_drewN ?_ _ | refine map_drew ?_ | refine map_alloc ?_ _)); exact MB.out⟩, ⟨by (with_reducible repeat (first | refine blk_drewN ?_ _ | refine blk_drew ?_ | refine blk_alloc ?_ _)); exact BK197.out⟩, ⟨by repeat (first | (with_reducible first | exact HB.out | apply below_alloc | apply pw_below_drewN | apply below_drew1 | refine below_set ?_ GE197.out) | exact HB.out)⟩⟩
  case round =>
   clear H'
   try clear c1
   try clear c2
   try clear p2
   try clear c4
   try clear c5
   try clear p6
   try clear hcz7_0
   try clear hcz7_1
   try clear hfz7_0
   try clear hfz7_1
   obtain ⟨x6_1, x7_1, x29_1, rfl, rfl, HA, HK1, MB, BK197, HB⟩ := hrel
   cases gk with
   | zero => exact absurd HA.out (by simp [impl_LeastSum.l0])
   | succ k1 =>
    have H := HA.out
    clear HA
    simp only [impl_LeastSum.l0] at H
    by_cases c9 : x29_1 < ji5
    ·rw [if_pos c9] at H
     have c9b0 : decide (x29_1 < ji5) = true := decide_eq_true c9
     clear c9
     have H' := Aside0.mk H
     clear H
     have hcz10_0 : wr.cell? ⟨gb197, 0, none⟩ = some (.int .i64 a0_0) := (blk_cell BK197.out 0).trans rfl
     have hcz10_1 : wr.cell? ⟨gb197, 1, none⟩ = some (.bool a0_1) := (blk_cell BK197.out 1).trans rfl
     have hfz10_0 := blk_frozen BK197.out 0
     have hfz10_1 := blk_frozen BK197.out 1
     go_wp2
     go_loopg [7, 35] k1 (fun kq v7 v35 w' => ∃ (x6_2 : Mt) (x7_2 : Int) (x35_2 : Int), v7 = .int .i64 x7_2 ∧ v35 = .int .i64 x35_2 ∧ Aside0 (impl_LeastSum.l1 kq l1 x6_2 x7_2 x29_1 ji5 x29_1 (wrap64 (a0_0 + 1)) x35_2 a0_0 a0_1 = some (r1, r2)) ∧ Aside0 (kq ≤ k1) ∧ Aside0 (MapIs w' gm x6_2) ∧ Aside0 (w'.heap[gb197]? = some (.cells #[.int .i64 a0_0, .bool a0_1] 27 (0, 0))) ∧ Aside0 (Below w.heap.size w w'))
     case atStart => exact ⟨(x6_1), (x7_1), (0), (by first | rfl | (simp; done) | (simp [*]; done)), (by first | rfl | (simp; done) | (simp [*]; done)), H', ⟨Nat.le_refl _⟩, ⟨by (with_reducible repeat (first | refine map_drewN ?_ _ | refine map_drew ?_ | refine map_alloc ?_ _)); exact MB.out⟩, ⟨by (with_reducible repeat (first | refine blk_drewN ?_ _ | refine blk_drew ?_ | refine blk_alloc ?_ _)); exact BK197.out⟩, ⟨by repeat (first | (with_reducible first | exact HB.out | apply below_alloc | apply pw_below_drewN | apply below_drew1 | refine below_set ?_ GE197.out) | exact HB.out)⟩⟩
     case round =>
      clear H'
      try clear c1
      try clear c2
      try clear p2
      try clear c4
      try clear c5
      try clear p6
      try clear c9
      try clear c9b0
      try clear hcz10_0
      try clear hcz10_1
      try clear hcz7_0
      try clear hcz7_1
      try clear hfz10_0
      try clear hfz10_1
      try clear hfz7_0
      try clear hfz7_1
      try clear p2
      try clear p6
      obtain ⟨x6_2, x7_2, x35_2, rfl, rfl, HA, HK2, MB, BK197, HB⟩ := hrel
      cases gk with
      | zero => exact absurd HA.out (by simp [impl_LeastSum.l1])
      | succ k2 =>
       have H := HA.out
       clear HA
       simp only [impl_LeastSum.l1] at H
       by_cases c11 : x35_2 < (wrap64 (a0_0 + 1))
       ·rw [if_pos c11] at H
        have c11b0 : decide (x35_2 < (wrap64 (a0_0 + 1))) = true := decide_eq_true c11
        clear c11
        replace H := Option.bind_eq_some_iff.mp H
        obtain ⟨⟨t201, t202⟩, A120, H⟩ := H
        replace H : (if t202 = true then (if x35_2 = a0_0 then (if x7_2 < 0 then (impl_LeastSum.j2 k2 l1 x6_2 x7_2 x29_1 x35_2 t201 ji5 x29_1 (wrap64 (a0_0 + 1)) x35_2 true a0_0 a0_1) else (impl_LeastSum.j2 k2 l1 x6_2 x7_2 x29_1 x35_2 t201 ji5 x29_1 (wrap64 (a0_0 + 1)) x35_2 (decide (t201 < x7_2)) a0_0 a0_1)) else (impl_LeastSum.j2 k2 l1 x6_2 x7_2 x29_1 x35_2 t201 ji5 x29_1 (wrap64 (a0_0 + 1)) x35_2 false a0_0 a0_1)) else (impl_LeastSum.l1 k2 l1 x6_2 x7_2 x29_1 ji5 x29_1 (wrap64 (a0_0 + 1)) (wrap64 (x35_2 + 1)) a0_0 a0_1)) = some (r1, r2) := H
        have A12 := Aside0.mk A120
        clear A120
        by_cases c13 : t202 = true
        ·subst c13
         have H1 : (if x35_2 = a0_0 then (if x7_2 < 0 then (impl_LeastSum.j2 k2 l1 x6_2 x7_2 x29_1 x35_2 t201 ji5 x29_1 (wrap64 (a0_0 + 1)) x35_2 true a0_0 a0_1) else (impl_LeastSum.j2 k2 l1 x6_2 x7_2 x29_1 x35_2 t201 ji5 x29_1 (wrap64 (a0_0 + 1)) x35_2 (decide (t201 < x7_2)) a0_0 a0_1)) else (impl_LeastSum.j2 k2 l1 x6_2 x7_2 x29_1 x35_2 t201 ji5 x29_1 (wrap64 (a0_0 + 1)) x35_2 false a0_0 a0_1)) = some (r1, r2) := by rw [if_pos rfl] at H; exact H
         clear H
         have H := H1
         clear H1
         have HC14 := Aside0.mk H
         clear H
         go_upto_region 13 with (first | ((with_reducible refine gate_dst (N := 43) rfl ?_); refine map_get rfl (.tmp 39) (.tmp 42) rfl gm x6_2 x29_1 x35_2 t201 true (by rfl) (by first | rfl | (simp only [List.length_drop, List.length_take]; rfl)) (by (with_reducible repeat (first | refine map_drewN ?_ _ | refine map_drew ?_ | refine map_alloc ?_ _)); exact MB.out) A12.out ?_))
         (try simp only [Act.put, List.setIfInBounds_toArray, List.set_cons_zero, List.set_cons_succ])
         go_cut [60] (fun v60 wc => ∃ (kq : Nat) (x60_13 : Bool), v60 = .bool x60_13 ∧ Aside0 (impl_LeastSum.j2 kq l1 x6_2 x7_2 x29_1 x35_2 t201 ji5 x29_1 (wrap64 (a0_0 + 1)) x35_2 x60_13 a0_0 a0_1 = some (r1, r2)) ∧ Aside0 (kq ≤ k2) ∧ Aside0 (MapIs wc gm x6_2) ∧ Aside0 (wc.heap[gb197]? = some (.cells #[.int .i64 a0_0, .bool a0_1] 27 (0, 0))) ∧ Aside0 (Below w.heap.size w wc))
         case first =>
          have H := HC14.out
          clear HC14
          by_cases c15 : x35_2 = a0_0
          ·rw [if_pos c15] at H
           have c15b0 : (x35_2 == a0_0) = true := beq_iff_eq.mpr c15
           have c15b1 : (x35_2 != a0_0) = false := bne_eq_false_iff_eq.mpr c15
           clear c15
           (first | rw [c15b0] | (simp only [i64_w, i32_w]; rw [c15b0]) | skip)
           by_cases c16 : x7_2 < 0
           ·rw [if_pos c16] at H
            have c16b0 : decide (x7_2 < 0) = true := decide_eq_true c16
            clear c16
            have H' := Aside0.mk H
            clear H
            have hcz17_0 : wr.cell? ⟨gb197, 0, none⟩ = some (.int .i64 a0_0) := (blk_cell BK197.out 0).trans rfl
            have hcz17_1 : wr.cell? ⟨gb197, 1, none⟩ = some (.bool a0_1) := (blk_cell BK197.out 1).trans rfl
            have hfz17_0 := blk_frozen BK197.out 0
            have hfz17_1 := blk_frozen BK197.out 1
            go_wp2
            go_meet
            case rel => exact ⟨_, (true), (by first | rfl | (simp; done) | (simp [*]; done)), H', ⟨by have := HK1.out; have := HK2.out; first | omega | exact Nat.le_refl _⟩, ⟨by (with_reducible repeat (first | refine map_drewN ?_ _ | refine map_drew ?_ | refine map_alloc ?_ _)); exact MB.out⟩, ⟨by (with_reducible repeat (first | refine blk_drewN ?_ _ | refine blk_drew ?_ | refine blk_alloc ?_ _)); exact BK197.out⟩, ⟨by repeat (first | (with_reducible first | exact HB.out | apply below_alloc | apply pw_below_drewN | apply below_drew1 | refine below_set ?_ GE197.out) | exact HB.out)⟩⟩
           ·rw [if_neg c16] at H
            have c16b0 : decide (x7_2 < 0) = false := decide_eq_false c16
            clear c16
            have H' := Aside0.mk H
            clear H
            have hcz18_0 : wr.cell? ⟨gb197, 0, none⟩ = some (.int .i64 a0_0) := (blk_cell BK197.out 0).trans rfl
            have hcz18_1 : wr.cell? ⟨gb197, 1, none⟩ = some (.bool a0_1) := (blk_cell BK197.out 1).trans rfl
            have hfz18_0 := blk_frozen BK197.out 0
            have hfz18_1 := blk_frozen BK197.out 1
            go_wp2
            go_meet
            case rel => exact ⟨_, (decide (t201 < x7_2)), (by first | rfl | (simp; done) | (simp [*]; done)), H', ⟨by have := HK1.out; have := HK2.out; first | omega | exact Nat.le_refl _⟩, ⟨by (with_reducible repeat (first | refine map_drewN ?_ _ | refine map_drew ?_ | refine map_alloc ?_ _)); exact MB.out⟩, ⟨by (with_reducible repeat (first | refine blk_drewN ?_ _ | refine blk_drew ?_ | refine blk_alloc ?_ _)); exact BK197.out⟩, ⟨by repeat (first | (with_reducible first | exact HB.out | apply below_alloc | apply pw_below_drewN | apply below_drew1 | refine below_set ?_ GE197.out) | exact HB.out)⟩⟩
          ·rw [if_neg c15] at H
           have c15b0 : (x35_2 == a0_0) = false := beq_eq_false_iff_ne.mpr c15
           have c15b1 : (x35_2 != a0_0) = true := bne_iff_ne.mpr c15
           (first | rw [c15b0] | (simp only [i64_w, i32_w]; rw [c15b0]) | skip)
           have H' := Aside0.mk H
           clear H
           have hcz19_0 : wr.cell? ⟨gb197, 0, none⟩ = some (.int .i64 a0_0) := (blk_cell BK197.out 0).trans rfl
           have hcz19_1 : wr.cell? ⟨gb197, 1, none⟩ = some (.bool a0_1) := (blk_cell BK197.out 1).trans rfl
           have hfz19_0 := blk_frozen BK197.out 0
           have hfz19_1 := blk_frozen BK197.out 1
           go_wp2
           go_meet
           case rel => exact ⟨_, (false), (by first | rfl | (simp; done) | (simp [*]; done)), H', ⟨by have := HK1.out; have := HK2.out; first | omega | exact Nat.le_refl _⟩, ⟨by (with_reducible repeat (first | refine map_drewN ?_ _ | refine map_drew ?_ | refine map_alloc ?_ _)); exact MB.out⟩, ⟨by (with_reducible repeat (first | refine blk_drewN ?_ _ | refine blk_drew ?_ | refine blk_alloc ?_ _)); exact BK197.out⟩, ⟨by repeat (first | (with_reducible first | exact HB.out | apply below_alloc | apply pw_below_drewN | apply below_drew1 | refine below_set ?_ GE197.out) | exact HB.out)⟩⟩
         case rest =>
          clear HC14
          try clear c1
          try clear c2
          try clear p2
          try clear c4
          try clear c5
          try clear p6
          try clear c9
          try clear c9b0
          try clear c11
          try clear c11b0
          try clear c13
          try clear c15
          try clear c15b0
          try clear c15b1
          try clear c16
          try clear c16b0
          try clear hcz10_0
          try clear hcz10_1
          try clear hcz17_0
          try clear hcz17_1
          try clear hcz18_0
          try clear hcz18_1
          try clear hcz19_0
          try clear hcz19_1
          try clear hcz7_0
          try clear hcz7_1
          try clear hfz10_0
          try clear hfz10_1
          try clear hfz17_0
          try clear hfz17_1
          try clear hfz18_0
          try clear hfz18_1
          try clear hfz19_0
          try clear hfz19_1
          try clear hfz7_0
          try clear hfz7_1
          try clear p2
          try clear p6
          obtain ⟨kq, x60_13, rfl, HA, HJ13, MB, BK197, HB⟩ := hcut
          cases kq with
          | zero => exact absurd HA.out (by simp [impl_LeastSum.j2])
          | succ kj13 =>
           have H := HA.out
           clear HA
           simp only [impl_LeastSum.j2] at H
           have HC20 := Aside0.mk H
           clear H
           go_upto_if 60 with (fail)
           go_cut [7] (fun v7 wc => ∃ (kq : Nat) (x7_19 : Int), v7 = .int .i64 x7_19 ∧ Aside0 (impl_LeastSum.j3 kq l1 x6_2 x7_19 x29_1 x35_2 t201 ji5 x29_1 (wrap64 (a0_0 + 1)) x35_2 a0_0 a0_1 = some (r1, r2)) ∧ Aside0 (kq ≤ kj13) ∧ Aside0 (MapIs wc gm x6_2) ∧ Aside0 (wc.heap[gb197]? = some (.cells #[.int .i64 a0_0, .bool a0_1] 27 (0, 0))) ∧ Aside0 (Below w.heap.size w wc))
           case first =>
            have H := HC20.out
            clear HC20
            by_cases c21 : x60_13 = true
            ·subst c21
             have H1 : (impl_LeastSum.j3 kj13 l1 x6_2 t201 x29_1 x35_2 t201 ji5 x29_1 (wrap64 (a0_0 + 1)) x35_2 a0_0 a0_1) = some (r1, r2) := by rw [if_pos rfl] at H; exact H
             clear H
             have H := H1
             clear H1
             have H' := Aside0.mk H
             clear H
             go_wp2
             go_meet
             case rel => exact ⟨_, (t201), (by first | rfl | (simp; done) | (simp [*]; done)), H', ⟨by have := HK1.out; have := HK2.out; have := HJ13.out; first | omega | exact Nat.le_refl _⟩, ⟨by (with_reducible repeat (first | refine map_drewN ?_ _ | refine map_drew ?_ | refine map_alloc ?_ _)); exact MB.out⟩, ⟨by (with_reducible repeat (first | refine blk_drewN ?_ _ | refine blk_drew ?_ | refine blk_alloc ?_ _)); exact BK197.out⟩, ⟨by repeat (first | (with_reducible first | exact HB.out | apply below_alloc | apply pw_below_drewN | apply below_drew1 | refine below_set ?_ GE197.out) | exact HB.out)⟩⟩
            ·replace c21 := Bool.eq_false_iff.mpr c21
             subst c21
             have H1 : (impl_LeastSum.j3 kj13 l1 x6_2 x7_2 x29_1 x35_2 t201 ji5 x29_1 (wrap64 (a0_0 + 1)) x35_2 a0_0 a0_1) = some (r1, r2) := by rw [if_neg (show ¬ (false = true) by decide)] at H; exact H
             clear H
             have H := H1
             clear H1
             have H' := Aside0.mk H
             clear H
             go_wp2
             go_meet
             case rel => exact ⟨_, (x7_2), (by first | rfl | (simp; done) | (simp [*]; done)), H', ⟨by have := HK1.out; have := HK2.out; have := HJ13.out; first | omega | exact Nat.le_refl _⟩, ⟨by (with_reducible repeat (first | refine map_drewN ?_ _ | refine map_drew ?_ | refine map_alloc ?_ _)); exact MB.out⟩, ⟨by (with_reducible repeat (first | refine blk_drewN ?_ _ | refine blk_drew ?_ | refine blk_alloc ?_ _)); exact BK197.out⟩, ⟨by repeat (first | (with_reducible first | exact HB.out | apply below_alloc | apply pw_below_drewN | apply below_drew1 | refine below_set ?_ GE197.out) | exact HB.out)⟩⟩
           case rest =>
            clear HC20
            try clear c1
            try clear c2
            try clear p2
            try clear c4
            try clear c5
            try clear p6
            try clear c9
            try clear c9b0
            try clear c11
            try clear c11b0
            try clear c13
            try clear c15
            try clear c15b0
            try clear c15b1
            try clear c16
            try clear c16b0
            try clear c20
            try clear c21
            try clear hcz10_0
            try clear hcz10_1
            try clear hcz17_0
            try clear hcz17_1
            try clear hcz18_0
            try clear hcz18_1
            try clear hcz19_0
            try clear hcz19_1
            try clear hcz7_0
            try clear hcz7_1
            try clear hfz10_0
            try clear hfz10_1
            try clear hfz17_0
            try clear hfz17_1
            try clear hfz18_0
            try clear hfz18_1
            try clear hfz19_0
            try clear hfz19_1
            try clear hfz7_0
            try clear hfz7_1
            try clear p2
            try clear p6
            obtain ⟨kq, x7_19, rfl, HA, HJ19, MB, BK197, HB⟩ := hcut
            cases kq with
            | zero => exact absurd HA.out (by simp [impl_LeastSum.j3])
            | succ kj19 =>
             have H := HA.out
             clear HA
             simp only [impl_LeastSum.j3] at H
             have H' := Aside0.mk H
             clear H
             go_wp2
             go_loopg [64] kj19 (fun kq v64 w' => ∃ (x6_5 : Mt) (x64_5 : Int), v64 = .int .i64 x64_5 ∧ Aside0 (impl_LeastSum.l2 kq l1 x6_5 x7_19 x29_1 x35_2 t201 ji5 x29_1 (wrap64 (a0_0 + 1)) x35_2 l1 (l1.length : Int) x64_5 a0_0 a0_1 = some (r1, r2)) ∧ Aside0 (kq ≤ kj19) ∧ Aside0 (MapIs w' gm x6_5) ∧ Aside0 (w'.heap[gb197]? = some (.cells #[.int .i64 a0_0, .bool a0_1] 27 (0, 0))) ∧ Aside0 (Below w.heap.size w w'))
             case atStart => exact ⟨(x6_2), (0), (by first | rfl | (simp; done) | (simp [*]; done)), H', ⟨Nat.le_refl _⟩, ⟨by (with_reducible repeat (first | refine map_drewN ?_ _ | refine map_drew ?_ | refine map_alloc ?_ _)); exact MB.out⟩, ⟨by (with_reducible repeat (first | refine blk_drewN ?_ _ | refine blk_drew ?_ | refine blk_alloc ?_ _)); exact BK197.out⟩, ⟨by repeat (first | (with_reducible first | exact HB.out | apply below_alloc | apply pw_below_drewN | apply below_drew1 | refine below_set ?_ GE197.out) | exact HB.out)⟩⟩
             case round =>
              clear H'
              try clear c1
              try clear c2
              try clear p2
              try clear c4
              try clear c5
              try clear p6
              try clear c9
              try clear c9b0
              try clear c11
              try clear c11b0
              try clear c13
              try clear c15
              try clear c15b0
              try clear c15b1
              try clear c16
              try clear c16b0
              try clear c20
              try clear c21
              try clear hcz10_0
              try clear hcz10_1
              try clear hcz17_0
              try clear hcz17_1
              try clear hcz18_0
              try clear hcz18_1
              try clear hcz19_0
              try clear hcz19_1
              try clear hcz7_0
              try clear hcz7_1
              try clear hfz10_0
              try clear hfz10_1
              try clear hfz17_0
              try clear hfz17_1
              try clear hfz18_0
              try clear hfz18_1
              try clear hfz19_0
              try clear hfz19_1
              try clear hfz7_0
              try clear hfz7_1
              try clear p2
              try clear p6
              obtain ⟨x6_5, x64_5, rfl, HA, HK5, MB, BK197, HB⟩ := hrel
              cases gk with
              | zero => exact absurd HA.out (by simp [impl_LeastSum.l2])
              | succ k5 =>
               have H := HA.out
               clear HA
               simp only [impl_LeastSum.l2] at H
               by_cases c22 : x64_5 < (l1.length : Int)
               ·rw [if_pos c22] at H
                have c22b0 : decide (x64_5 < (l1.length : Int)) = true := decide_eq_true c22
                clear c22
                by_cases c23 : 0 ≤ x64_5
                ·rw [if_pos c23] at H
                 have c23b0 : decide (0 ≤ x64_5) = true := decide_eq_true c23
                 clear c23
                 by_cases c24 : x64_5 < (l1.length : Int)
                 ·rw [if_pos c24] at H
                  have c24b0 : decide (x64_5 < (l1.length : Int)) = true := decide_eq_true c24
                  clear c24
                  have H' := Aside0.mk H
                  clear H
                  have p203 : 0 ≤ (x64_5 : Int) := of_decide_eq_true (by first | (with_reducible assumption) | assumption)
                  have q203 : x64_5 < (l1.length : Int) := of_decide_eq_true (by first | (with_reducible assumption) | assumption)
                  obtain ⟨ad203, e203, hx203_0, hx203_1⟩ := at_T58 HR1.out x64_5 p203 q203
                  cases e203
                  replace hx203_0 := (HB.out.cell (World.block_lt_of_cell? w _ hx203_0)).trans hx203_0
                  replace hx203_1 := (HB.out.cell (World.block_lt_of_cell? w _ hx203_1)).trans hx203_1
                  replace p203 := eq_true p203
                  replace q203 := eq_true q203
                  go_wp2_with (first | ((with_reducible refine gate_dst (N := 13) rfl ?_); refine box_event ?hg (N := 13) ?hd (cs := #[.int .i64 0, .int .i64 0]) (t := 58) ?hr ?_; (case hd => rfl); (case hg => rfl); (case hr => first | (go_simp; done) | (go_simp; rfl)); intro gb204 hg w25 hbox hb; have n0_ := Aside0.mk (blk_below (g := gb197) (o := .cells #[.int .i64 a0_0, .bool a0_1] 27 (0, 0)) (by (with_reducible repeat (first | refine blk_drewN ?_ _ | refine blk_drew ?_ | refine blk_alloc ?_ _)); exact BK197.out) hb); have mb_ := Aside0.mk (map_below (g := gm) (m := x6_5) (by (with_reducible repeat (first | refine map_drewN ?_ _ | refine map_drew ?_ | refine map_alloc ?_ _)); exact MB.out) hb); have n1_ := Aside0.mk (below_step (by repeat (first | (with_reducible first | exact HB.out | apply below_alloc | apply pw_below_drewN | apply below_drew1 | refine below_set ?_ GE197.out) | exact HB.out)) hb); have n2_ := Aside0.mk (hbox); have n3_ := Aside0.mk ((by rw [hg]; exact (below_size (by repeat (first | (with_reducible first | exact HB.out | apply below_alloc | apply pw_below_drewN | apply below_drew1 | refine below_set ?_ GE197.out) | exact HB.out))) : w.heap.size ≤ gb204)); have n4_ := Aside0.mk ((by rw [hg]; exact (below_size (by repeat (first | (with_reducible first | exact HB.out | apply below_alloc | apply pw_below_drewN | apply below_drew1 | refine below_set ?_ GE197.out) | exact HB.out))) : w.heap.size ≤ gb204)); have n5_ := Aside0.mk ((by rw [hg]; exact Nat.ne_of_lt (blk_lt (g := gb197) (o := .cells #[.int .i64 a0_0, .bool a0_1] 27 (0, 0)) (by (with_reducible repeat (first | refine blk_drewN ?_ _ | refine blk_drew ?_ | refine blk_alloc ?_ _)); exact BK197.out)) : gb197 ≠ gb204)); have nm_ := Aside0.mk ((by rw [hg]; exact Nat.ne_of_lt (map_lt (g := gm) (m := x6_5) (by (with_reducible repeat (first | refine map_drewN ?_ _ | refine map_drew ?_ | refine map_alloc ?_ _)); exact MB.out))) : gm ≠ gb204); have n6_ := Aside0.mk ((by rw [hg]; exact Nat.ne_of_gt (blk_lt (g := gb197) (o := .cells #[.int .i64 a0_0, .bool a0_1] 27 (0, 0)) (by (with_reducible repeat (first | refine blk_drewN ?_ _ | refine blk_drew ?_ | refine blk_alloc ?_ _)); exact BK197.out)) : gb204 ≠ gb197)); clear BK197; clear HB; have BK197 := n0_; clear MB; have MB := mb_; clear mb_; have HB := n1_; have BK204 := n2_; have GW204 := n3_; have GE204 := n4_; have NB197_204 := n5_; have NM_204 := nm_; have NGM := Aside0.mk (Ne.symm NM_204.out); clear nm_; have NB204_197 := n6_; clear n0_ n1_ n2_ n3_ n4_ n5_ n6_; clear hb hbox hg; have hnb26 := NB204_197.out; have hnc26 := NB197_204.out; have hcz27_0 : w25.cell? ⟨gb204, 0, none⟩ = some (.int .i64 0) := (blk_cell BK204.out 0).trans rfl; have hcz27_1 : w25.cell? ⟨gb204, 1, none⟩ = some (.int .i64 0) := (blk_cell BK204.out 1).trans rfl; have hfz27_0 := blk_frozen BK204.out 0; have hfz27_1 := blk_frozen BK204.out 1; have hcz28_0 : w25.cell? ⟨gb197, 0, none⟩ = some (.int .i64 a0_0) := (blk_cell BK197.out 0).trans rfl; have hcz28_1 : w25.cell? ⟨gb197, 1, none⟩ = some (.bool a0_1) := (blk_cell BK197.out 1).trans rfl; have hfz28_0 := blk_frozen BK197.out 0; have hfz28_1 := blk_frozen BK197.out 1))
                  go_loopg [71] k5 (fun kq v71 w' => ∃ (x6_6 : Mt) (x71_6 : Int), v71 = .int .i64 x71_6 ∧ Aside0 (impl_LeastSum.l3 kq l1 x6_6 x7_19 x29_1 x35_2 t201 x64_5 ji5 x29_1 (wrap64 (a0_0 + 1)) x35_2 l1 (l1.length : Int) x64_5 a0_0 x71_6 a0_0 a0_1 ((rd_T58 l1 x64_5).f0) ((rd_T58 l1 x64_5).f1) = some (r1, r2)) ∧ Aside0 (kq ≤ k5) ∧ Aside0 (MapIs w' gm x6_6) ∧ Aside0 (w'.heap[gb197]? = some (.cells #[.int .i64 a0_0, .bool a0_1] 27 (0, 0))) ∧ Aside0 (w'.heap[gb204]? = some (.cells #[.int .i64 ((rd_T58 l1 x64_5).f0), .int .i64 ((rd_T58 l1 x64_5).f1)] 58 (0, 0))) ∧ Aside0 (Below w.heap.size w w'))
                  case atStart => exact ⟨(x6_5), (0), (by first | rfl | (simp; done) | (simp [*]; done)), H', ⟨Nat.le_refl _⟩, ⟨by (with_reducible repeat (first | refine map_drewN ?_ _ | refine map_drew ?_ | refine map_alloc ?_ _)); refine map_far ?_ NM_204.out _; (with_reducible repeat (first | refine map_drewN ?_ _ | refine map_drew ?_ | refine map_alloc ?_ _)); refine map_far ?_ NM_204.out _; (with_reducible repeat (first | refine map_drewN ?_ _ | refine map_drew ?_ | refine map_alloc ?_ _)); exact MB.out⟩, ⟨by (with_reducible repeat (first | refine blk_drewN ?_ _ | refine blk_drew ?_ | refine blk_alloc ?_ _)); refine blk_far ?_ NB197_204.out _; (with_reducible repeat (first | refine blk_drewN ?_ _ | refine blk_drew ?_ | refine blk_alloc ?_ _)); refine blk_far ?_ NB197_204.out _; (with_reducible repeat (first | refine blk_drewN ?_ _ | refine blk_drew ?_ | refine blk_alloc ?_ _)); exact BK197.out⟩, ⟨by (with_reducible repeat (first | refine blk_drewN ?_ _ | refine blk_drew ?_ | refine blk_alloc ?_ _)); refine blk_put (cs := #[.int .i64 ((rd_T58 l1 x64_5).f0), .int .i64 0]) ?_ 1 _ rfl; (with_reducible repeat (first | refine blk_drewN ?_ _ | refine blk_drew ?_ | refine blk_alloc ?_ _)); refine blk_put (cs := #[.int .i64 0, .int .i64 0]) ?_ 0 _ rfl; (with_reducible repeat (first | refine blk_drewN ?_ _ | refine blk_drew ?_ | refine blk_alloc ?_ _)); exact BK204.out⟩, ⟨by repeat (first | (with_reducible first | exact HB.out | apply below_alloc | apply pw_below_drewN | apply below_drew1 | refine below_set ?_ GE197.out | refine below_set ?_ GE204.out) | exact HB.out)⟩⟩
                  case round =>
                   clear H'
                   try clear c1
                   try clear c2
                   try clear p2
                   try clear q2
                   try clear hx2
                   try clear c4
                   try clear c5
                   try clear p6
                   try clear c9
                   try clear c9b0
                   try clear c11
                   try clear c11b0
                   try clear c13
                   try clear c15
                   try clear c15b0
                   try clear c15b1
                   try clear c16
                   try clear c16b0
                   try clear c20
                   try clear p20
                   try clear q20
                   try clear hx20
                   try clear c21
                   try clear c22
                   try clear c22b0
                   try clear c23
                   try clear c23b0
                   try clear c24
                   try clear c24b0
                   try clear c26
                   try clear hcz10_0
                   try clear hcz10_1
                   try clear hcz17_0
                   try clear hcz17_1
                   try clear hcz18_0
                   try clear hcz18_1
                   try clear hcz19_0
                   try clear hcz19_1
                   try clear hcz27_0
                   try clear hcz27_1
                   try clear hcz28_0
                   try clear hcz28_1
                   try clear hcz7_0
                   try clear hcz7_1
                   try clear hfz10_0
                   try clear hfz10_1
                   try clear hfz17_0
                   try clear hfz17_1
                   try clear hfz18_0
                   try clear hfz18_1
                   try clear hfz19_0
                   try clear hfz19_1
                   try clear hfz27_0
                   try clear hfz27_1
                   try clear hfz28_0
                   try clear hfz28_1
                   try clear hfz7_0
                   try clear hfz7_1
                   try clear hx203_0
                   try clear hx203_1
                   try clear p2
                   try clear p203
                   try clear p6
                   try clear q203
                   obtain ⟨x6_6, x71_6, rfl, HA, HK6, MB, BK197, BK204, HB⟩ := hrel
                   cases gk with
                   | zero => exact absurd HA.out (by simp [impl_LeastSum.l3])
                   | succ k6 =>
                    have H := HA.out
                    clear HA
                    simp only [impl_LeastSum.l3] at H
                    by_cases c29 : x71_6 < a0_0
                    ·rw [if_pos c29] at H
                     have c29b0 : decide (x71_6 < a0_0) = true := decide_eq_true c29
                     clear c29
                     have HC30 := Aside0.mk H
                     clear H
                     go_upto_region 21 with (fail)
                     go_cut [94] (fun v94 wc => ∃ (kq : Nat) (x94_29 : Bool), v94 = .bool x94_29 ∧ Aside0 (impl_LeastSum.j6 kq l1 x6_6 x7_19 x29_1 x35_2 t201 x64_5 x71_6 ji5 x29_1 (wrap64 (a0_0 + 1)) x35_2 l1 (l1.length : Int) x64_5 a0_0 x71_6 x94_29 a0_0 a0_1 ((rd_T58 l1 x64_5).f0) ((rd_T58 l1 x64_5).f1) = some (r1, r2)) ∧ Aside0 (kq ≤ k6) ∧ Aside0 (MapIs wc gm x6_6) ∧ Aside0 (wc.heap[gb197]? = some (.cells #[.int .i64 a0_0, .bool a0_1] 27 (0, 0))) ∧ Aside0 (wc.heap[gb204]? = some (.cells #[.int .i64 ((rd_T58 l1 x64_5).f0), .int .i64 ((rd_T58 l1 x64_5).f1)] 58 (0, 0))) ∧ Aside0 (Below w.heap.size w wc))
                     case first =>
                      have H := HC30.out
                      clear HC30
                      by_cases c31 : 0 ≤ x64_5
                      ·rw [if_pos c31] at H
                       have c31b0 := eq_true c31
                       have c31b1 : decide (0 ≤ x64_5) = true := decide_eq_true c31
                       clear c31
                       obtain ⟨ji32, hji32⟩ : ∃ j_ : Int, (shr .i64 x29_1 x64_5) = j_ := ⟨_, rfl⟩
                       replace H : (if (Go.bits .and .i64 (ji32) 1) = 1 then (impl_LeastSum.j6 k6 l1 x6_6 x7_19 x29_1 x35_2 t201 x64_5 x71_6 ji5 x29_1 (wrap64 (a0_0 + 1)) x35_2 l1 (l1.length : Int) x64_5 a0_0 x71_6 true a0_0 a0_1 ((rd_T58 l1 x64_5).f0) ((rd_T58 l1 x64_5).f1)) else (if (wrap64 (x71_6 - ((rd_T58 l1 x64_5).f1))) > x35_2 then (impl_LeastSum.j6 k6 l1 x6_6 x7_19 x29_1 x35_2 t201 x64_5 x71_6 ji5 x29_1 (wrap64 (a0_0 + 1)) x35_2 l1 (l1.length : Int) x64_5 a0_0 x71_6 true a0_0 a0_1 ((rd_T58 l1 x64_5).f0) ((rd_T58 l1 x64_5).f1)) else (impl_LeastSum.j6 k6 l1 x6_6 x7_19 x29_1 x35_2 t201 x64_5 x71_6 ji5 x29_1 (wrap64 (a0_0 + 1)) x35_2 l1 (l1.length : Int) x64_5 a0_0 x71_6 (decide ((wrap64 (x71_6 + ((rd_T58 l1 x64_5).f1))) < x35_2)) a0_0 a0_1 ((rd_T58 l1 x64_5).f0) ((rd_T58 l1 x64_5).f1)))) = some (r1, r2) := by first | (rw [hji32] at H; exact H) | (simp only [hji32] at H ⊢; exact H)
                       have hji32_ : (x29_1 / 2 ^ min x64_5.toNat 64) = ji32 := hji32
                       have hji32z : x64_5 ≤ 64 → (x29_1 / 2 ^ x64_5.toNat) = ji32 := shr_small hji32
                       by_cases c33 : (Go.bits .and .i64 (ji32) 1) = 1
                       ·rw [if_pos c33] at H
                        have c33b0 : ((Go.bits .and .i64 (ji32) 1) == 1) = true := beq_iff_eq.mpr c33
                        have c33b1 : ((Go.bits .and .i64 (ji32) 1) != 1) = false := bne_eq_false_iff_eq.mpr c33
                        clear c33
                        (first | rw [c33b0] | (simp only [i64_w, i32_w]; rw [c33b0]) | skip)
                        have H' := Aside0.mk H
                        clear H
                        go_wp2
                        go_meet
                        case rel => exact ⟨_, (true), (by first | rfl | (simp; done) | (simp [*]; done)), H', ⟨by have := HK1.out; have := HK2.out; have := HJ13.out; have := HJ19.out; have := HK5.out; have := HK6.out; first | omega | exact Nat.le_refl _⟩, ⟨by (with_reducible repeat (first | refine map_drewN ?_ _ | refine map_drew ?_ | refine map_alloc ?_ _)); exact MB.out⟩, ⟨by (with_reducible repeat (first | refine blk_drewN ?_ _ | refine blk_drew ?_ | refine blk_alloc ?_ _)); exact BK197.out⟩, ⟨by (with_reducible repeat (first | refine blk_drewN ?_ _ | refine blk_drew ?_ | refine blk_alloc ?_ _)); exact BK204.out⟩, ⟨by repeat (first | (with_reducible first | exact HB.out | apply below_alloc | apply pw_below_drewN | apply below_drew1 | refine below_set ?_ GE197.out | refine below_set ?_ GE204.out) | exact HB.out)⟩⟩
                       ·rw [if_neg c33] at H
                        have c33b0 : ((Go.bits .and .i64 (ji32) 1) == 1) = false := beq_eq_false_iff_ne.mpr c33
                        have c33b1 : ((Go.bits .and .i64 (ji32) 1) != 1) = true := bne_iff_ne.mpr c33
                        (first | rw [c33b0] | (simp only [i64_w, i32_w]; rw [c33b0]) | skip)
                        by_cases c34 : (wrap64 (x71_6 - ((rd_T58 l1 x64_5).f1))) > x35_2
                        ·rw [if_pos c34] at H
                         have c34b0 : decide (x35_2 < (wrap64 (x71_6 - ((rd_T58 l1 x64_5).f1)))) = true := decide_eq_true c34
                         clear c34
                         have H' := Aside0.mk H
                         clear H
                         have hnb35 := NB204_197.out
                         have hnc35 := NB197_204.out
                         have hcz36_0 : wr.cell? ⟨gb204, 0, none⟩ = some (.int .i64 ((rd_T58 l1 x64_5).f0)) := (blk_cell BK204.out 0).trans rfl
                         have hcz36_1 : wr.cell? ⟨gb204, 1, none⟩ = some (.int .i64 ((rd_T58 l1 x64_5).f1)) := (blk_cell BK204.out 1).trans rfl
                         have hfz36_0 := blk_frozen BK204.out 0
                         have hfz36_1 := blk_frozen BK204.out 1
                         go_wp2
                         go_meet
                         case rel => exact ⟨_, (true), (by first | rfl | (simp; done) | (simp [*]; done)), H', ⟨by have := HK1.out; have := HK2.out; have := HJ13.out; have := HJ19.out; have := HK5.out; have := HK6.out; first | omega | exact Nat.le_refl _⟩, ⟨by (with_reducible repeat (first | refine map_drewN ?_ _ | refine map_drew ?_ | refine map_alloc ?_ _)); exact MB.out⟩, ⟨by (with_reducible repeat (first | refine blk_drewN ?_ _ | refine blk_drew ?_ | refine blk_alloc ?_ _)); exact BK197.out⟩, ⟨by (with_reducible repeat (first | refine blk_drewN ?_ _ | refine blk_drew ?_ | refine blk_alloc ?_ _)); exact BK204.out⟩, ⟨by repeat (first | (with_reducible first | exact HB.out | apply below_alloc | apply pw_below_drewN | apply below_drew1 | refine below_set ?_ GE197.out | refine below_set ?_ GE204.out) | exact HB.out)⟩⟩
                        ·rw [if_neg c34] at H
                         have c34b0 : decide (x35_2 < (wrap64 (x71_6 - ((rd_T58 l1 x64_5).f1)))) = false := decide_eq_false c34
                         clear c34
                         have H' := Aside0.mk H
                         clear H
                         have hnb37 := NB204_197.out
                         have hnc37 := NB197_204.out
                         have hcz38_0 : wr.cell? ⟨gb204, 0, none⟩ = some (.int .i64 ((rd_T58 l1 x64_5).f0)) := (blk_cell BK204.out 0).trans rfl
                         have hcz38_1 : wr.cell? ⟨gb204, 1, none⟩ = some (.int .i64 ((rd_T58 l1 x64_5).f1)) := (blk_cell BK204.out 1).trans rfl
                         have hfz38_0 := blk_frozen BK204.out 0
                         have hfz38_1 := blk_frozen BK204.out 1
                         go_wp2
                         go_meet
                         case rel => exact ⟨_, (decide ((wrap64 (x71_6 + ((rd_T58 l1 x64_5).f1))) < x35_2)), (by first | rfl | (simp; done) | (simp [*]; done)), H', ⟨by have := HK1.out; have := HK2.out; have := HJ13.out; have := HJ19.out; have := HK5.out; have := HK6.out; first | omega | exact Nat.le_refl _⟩, ⟨by (with_reducible repeat (first | refine map_drewN ?_ _ | refine map_drew ?_ | refine map_alloc ?_ _)); exact MB.out⟩, ⟨by (with_reducible repeat (first | refine blk_drewN ?_ _ | refine blk_drew ?_ | refine blk_alloc ?_ _)); exact BK197.out⟩, ⟨by (with_reducible repeat (first | refine blk_drewN ?_ _ | refine blk_drew ?_ | refine blk_alloc ?_ _)); exact BK204.out⟩, ⟨by repeat (first | (with_reducible first | exact HB.out | apply below_alloc | apply pw_below_drewN | apply below_drew1 | refine below_set ?_ GE197.out | refine below_set ?_ GE204.out) | exact HB.out)⟩⟩
                      ·rw [if_neg c31] at H
                       exact absurd H (by simp)
                     case rest =>
                      clear HC30
                      try clear c1
                      try clear c2
                      try clear p2
                      try clear q2
                      try clear hx2
                      try clear c3
                      try clear c4
                      try clear c5
                      try clear p6
                      try clear c9
                      try clear c9b0
                      try clear c11
                      try clear c11b0
                      try clear c13
                      try clear c15
                      try clear c15b0
                      try clear c15b1
                      try clear c16
                      try clear c16b0
                      try clear c20
                      try clear p20
                      try clear q20
                      try clear hx20
                      try clear c21
                      try clear c22
                      try clear c22b0
                      try clear c23
                      try clear c23b0
                      try clear c24
                      try clear c24b0
                      try clear c26
                      try clear c29
                      try clear c29b0
                      try clear c31
                      try clear c31b0
                      try clear c31b1
                      try clear c33
                      try clear c33b0
                      try clear c33b1
                      try clear c34
                      try clear c34b0
                      try clear c35
                      try clear c37
                      try clear hcz10_0
                      try clear hcz10_1
                      try clear hcz17_0
                      try clear hcz17_1
                      try clear hcz18_0
                      try clear hcz18_1
                      try clear hcz19_0
                      try clear hcz19_1
                      try clear hcz27_0
                      try clear hcz27_1
                      try clear hcz28_0
                      try clear hcz28_1
                      try clear hcz36_0
                      try clear hcz36_1
                      try clear hcz38_0
                      try clear hcz38_1
                      try clear hcz7_0
                      try clear hcz7_1
                      try clear hfz10_0
                      try clear hfz10_1
                      try clear hfz17_0
                      try clear hfz17_1
                      try clear hfz18_0
                      try clear hfz18_1
                      try clear hfz19_0
                      try clear hfz19_1
                      try clear hfz27_0
                      try clear hfz27_1
                      try clear hfz28_0
                      try clear hfz28_1
                      try clear hfz36_0
                      try clear hfz36_1
                      try clear hfz38_0
                      try clear hfz38_1
                      try clear hfz7_0
                      try clear hfz7_1
                      try clear hx203_0
                      try clear hx203_1
                      try clear p2
                      try clear p20
                      try clear p203
                      try clear p6
                      try clear q2
                      try clear q20
                      try clear q203
                      obtain ⟨kq, x94_29, rfl, HA, HJ29, MB, BK197, BK204, HB⟩ := hcut
                      cases kq with
                      | zero => exact absurd HA.out (by simp [impl_LeastSum.j6])
                      | succ kj29 =>
                       have H := HA.out
                       clear HA
                       simp only [impl_LeastSum.j6] at H
                       by_cases c39 : x94_29 = true
                       ·subst c39
                        have H1 : (impl_LeastSum.l3 kj29 l1 x6_6 x7_19 x29_1 x35_2 t201 x64_5 ji5 x29_1 (wrap64 (a0_0 + 1)) x35_2 l1 (l1.length : Int) x64_5 a0_0 (wrap64 (x71_6 + 1)) a0_0 a0_1 ((rd_T58 l1 x64_5).f0) ((rd_T58 l1 x64_5).f1)) = some (r1, r2) := by rw [if_pos rfl] at H; exact H
                        clear H
                        have H := H1
                        clear H1
                        have H' := Aside0.mk H
                        clear H
                        go_wp2
                        go_roundg kj29
                        case measure => have := HK1.out; have := HK2.out; have := HJ13.out; have := HJ19.out; have := HK5.out; have := HK6.out; have := HJ29.out; omega
                        case rel => exact ⟨(x6_6), (wrap64 (x71_6 + 1)), (by first | rfl | (simp; done) | (simp [*]; done)), H', ⟨by have := HK1.out; have := HK2.out; have := HJ13.out; have := HJ19.out; have := HK5.out; have := HK6.out; have := HJ29.out; omega⟩, ⟨by (with_reducible repeat (first | refine map_drewN ?_ _ | refine map_drew ?_ | refine map_alloc ?_ _)); exact MB.out⟩, ⟨by (with_reducible repeat (first | refine blk_drewN ?_ _ | refine blk_drew ?_ | refine blk_alloc ?_ _)); exact BK197.out⟩, ⟨by (with_reducible repeat (first | refine blk_drewN ?_ _ | refine blk_drew ?_ | refine blk_alloc ?_ _)); exact BK204.out⟩, ⟨by repeat (first | (with_reducible first | exact HB.out | apply below_alloc | apply pw_below_drewN | apply below_drew1 | refine below_set ?_ GE197.out | refine below_set ?_ GE204.out) | exact HB.out)⟩⟩
                       ·replace c39 := Bool.eq_false_iff.mpr c39
                        subst c39
                        have H1 : (if 0 ≤ x64_5 then ((impl_Road_gap.f a0_0 a0_1 ((rd_T58 l1 x64_5).f0) x71_6).bind fun t206 => ((mapGet.f x6_6 (Go.bits .or .i64 x29_1 (shl .i64 1 x64_5)) (mn a0_0 (wrap64 ((wrap64 (x71_6 + ((rd_T58 l1 x64_5).f1))) + 1)))).bind fun bt207 => (if bt207.2 = true then (if (wrap64 (t201 + t206)) < bt207.1 then ((mapPut.f x6_6 (Go.bits .or .i64 x29_1 (shl .i64 1 x64_5)) (mn a0_0 (wrap64 ((wrap64 (x71_6 + ((rd_T58 l1 x64_5).f1))) + 1))) (wrap64 (t201 + t206))).bind fun t209 => (impl_LeastSum.l3 kj29 l1 t209 x7_19 x29_1 x35_2 t201 x64_5 ji5 x29_1 (wrap64 (a0_0 + 1)) x35_2 l1 (l1.length : Int) x64_5 a0_0 (wrap64 (x71_6 + 1)) a0_0 a0_1 ((rd_T58 l1 x64_5).f0) ((rd_T58 l1 x64_5).f1))) else (impl_LeastSum.l3 kj29 l1 x6_6 x7_19 x29_1 x35_2 t201 x64_5 ji5 x29_1 (wrap64 (a0_0 + 1)) x35_2 l1 (l1.length : Int) x64_5 a0_0 (wrap64 (x71_6 + 1)) a0_0 a0_1 ((rd_T58 l1 x64_5).f0) ((rd_T58 l1 x64_5).f1))) else ((mapPut.f x6_6 (Go.bits .or .i64 x29_1 (shl .i64 1 x64_5)) (mn a0_0 (wrap64 ((wrap64 (x71_6 + ((rd_T58 l1 x64_5).f1))) + 1))) (wrap64 (t201 + t206))).bind fun t210 => (impl_LeastSum.l3 kj29 l1 t210 x7_19 x29_1 x35_2 t201 x64_5 ji5 x29_1 (wrap64 (a0_0 + 1)) x35_2 l1 (l1.length : Int) x64_5 a0_0 (wrap64 (x71_6 + 1)) a0_0 a0_1 ((rd_T58 l1 x64_5).f0) ((rd_T58 l1 x64_5).f1)))))) else (none)) = some (r1, r2) := by rw [if_neg (show ¬ (false = true) by decide)] at H; exact H
                        clear H
                        have H := H1
                        clear H1
                        by_cases c40 : 0 ≤ x64_5
                        ·rw [if_pos c40] at H
                         have c40b0 := eq_true c40
                         have c40b1 : decide (0 ≤ x64_5) = true := decide_eq_true c40
                         clear c40
                         obtain ⟨ji41, hji41⟩ : ∃ j_ : Int, (shl .i64 1 x64_5) = j_ := ⟨_, rfl⟩
                         replace H : ((impl_Road_gap.f a0_0 a0_1 ((rd_T58 l1 x64_5).f0) x71_6).bind fun t206 => ((mapGet.f x6_6 (Go.bits .or .i64 x29_1 (ji41)) (mn a0_0 (wrap64 ((wrap64 (x71_6 + ((rd_T58 l1 x64_5).f1))) + 1)))).bind fun bt207 => (if bt207.2 = true then (if (wrap64 (t201 + t206)) < bt207.1 then ((mapPut.f x6_6 (Go.bits .or .i64 x29_1 (ji41)) (mn a0_0 (wrap64 ((wrap64 (x71_6 + ((rd_T58 l1 x64_5).f1))) + 1))) (wrap64 (t201 + t206))).bind fun t209 => (impl_LeastSum.l3 kj29 l1 t209 x7_19 x29_1 x35_2 t201 x64_5 ji5 x29_1 (wrap64 (a0_0 + 1)) x35_2 l1 (l1.length : Int) x64_5 a0_0 (wrap64 (x71_6 + 1)) a0_0 a0_1 ((rd_T58 l1 x64_5).f0) ((rd_T58 l1 x64_5).f1))) else (impl_LeastSum.l3 kj29 l1 x6_6 x7_19 x29_1 x35_2 t201 x64_5 ji5 x29_1 (wrap64 (a0_0 + 1)) x35_2 l1 (l1.length : Int) x64_5 a0_0 (wrap64 (x71_6 + 1)) a0_0 a0_1 ((rd_T58 l1 x64_5).f0) ((rd_T58 l1 x64_5).f1))) else ((mapPut.f x6_6 (Go.bits .or .i64 x29_1 (ji41)) (mn a0_0 (wrap64 ((wrap64 (x71_6 + ((rd_T58 l1 x64_5).f1))) + 1))) (wrap64 (t201 + t206))).bind fun t210 => (impl_LeastSum.l3 kj29 l1 t210 x7_19 x29_1 x35_2 t201 x64_5 ji5 x29_1 (wrap64 (a0_0 + 1)) x35_2 l1 (l1.length : Int) x64_5 a0_0 (wrap64 (x71_6 + 1)) a0_0 a0_1 ((rd_T58 l1 x64_5).f0) ((rd_T58 l1 x64_5).f1)))))) = some (r1, r2) := by first | (rw [hji41] at H; exact H) | (simp only [hji41] at H ⊢; exact H)
                         have hji41_ : (IntKind.i64.wrap (1 * 2 ^ min x64_5.toNat 64)) = ji41 := hji41
                         have hji41z : x64_5 ≤ 64 → (IntKind.i64.wrap (1 * 2 ^ x64_5.toNat)) = ji41 := shl_small hji41
                         have hji41u : (IntKind.i64.wrap (2 ^ min x64_5.toNat 64)) = ji41 := by have h_ := hji41_; rw [Int.one_mul] at h_; exact h_
                         have hji41v : x64_5 ≤ 64 → (IntKind.i64.wrap (2 ^ x64_5.toNat)) = ji41 := fun hle_ => by have h_ := hji41z hle_; rw [Int.one_mul] at h_; exact h_
                         have hji41y : (wrap64 (1 * 2 ^ min x64_5.toNat 64)) = ji41 := (i64_w _).symm.trans hji41_
                         have hji41x : x64_5 ≤ 64 → (wrap64 (1 * 2 ^ x64_5.toNat)) = ji41 := fun h_ => (i64_w _).symm.trans (hji41z h_)
                         obtain ⟨ji42, hji42⟩ : ∃ j_ : Int, (mn a0_0 (wrap64 ((wrap64 (x71_6 + ((rd_T58 l1 x64_5).f1))) + 1))) = j_ := ⟨_, rfl⟩
                         replace H : ((impl_Road_gap.f a0_0 a0_1 ((rd_T58 l1 x64_5).f0) x71_6).bind fun t206 => ((mapGet.f x6_6 (Go.bits .or .i64 x29_1 (ji41)) (ji42)).bind fun bt207 => (if bt207.2 = true then (if (wrap64 (t201 + t206)) < bt207.1 then ((mapPut.f x6_6 (Go.bits .or .i64 x29_1 (ji41)) (ji42) (wrap64 (t201 + t206))).bind fun t209 => (impl_LeastSum.l3 kj29 l1 t209 x7_19 x29_1 x35_2 t201 x64_5 ji5 x29_1 (wrap64 (a0_0 + 1)) x35_2 l1 (l1.length : Int) x64_5 a0_0 (wrap64 (x71_6 + 1)) a0_0 a0_1 ((rd_T58 l1 x64_5).f0) ((rd_T58 l1 x64_5).f1))) else (impl_LeastSum.l3 kj29 l1 x6_6 x7_19 x29_1 x35_2 t201 x64_5 ji5 x29_1 (wrap64 (a0_0 + 1)) x35_2 l1 (l1.length : Int) x64_5 a0_0 (wrap64 (x71_6 + 1)) a0_0 a0_1 ((rd_T58 l1 x64_5).f0) ((rd_T58 l1 x64_5).f1))) else ((mapPut.f x6_6 (Go.bits .or .i64 x29_1 (ji41)) (ji42) (wrap64 (t201 + t206))).bind fun t210 => (impl_LeastSum.l3 kj29 l1 t210 x7_19 x29_1 x35_2 t201 x64_5 ji5 x29_1 (wrap64 (a0_0 + 1)) x35_2 l1 (l1.length : Int) x64_5 a0_0 (wrap64 (x71_6 + 1)) a0_0 a0_1 ((rd_T58 l1 x64_5).f0) ((rd_T58 l1 x64_5).f1)))))) = some (r1, r2) := by first | (rw [hji42] at H; exact H) | (simp only [hji42] at H ⊢; exact H)
                         have hji42_ : (if (wrap64 ((wrap64 (x71_6 + ((rd_T58 l1 x64_5).f1))) + 1)) < a0_0 then (wrap64 ((wrap64 (x71_6 + ((rd_T58 l1 x64_5).f1))) + 1)) else a0_0) = ji42 := hji42
                         replace H := Option.bind_eq_some_iff.mp H
                         obtain ⟨t206, A430, H⟩ := H
                         replace H : ((mapGet.f x6_6 (Go.bits .or .i64 x29_1 (ji41)) (ji42)).bind fun bt207 => (if bt207.2 = true then (if (wrap64 (t201 + t206)) < bt207.1 then ((mapPut.f x6_6 (Go.bits .or .i64 x29_1 (ji41)) (ji42) (wrap64 (t201 + t206))).bind fun t209 => (impl_LeastSum.l3 kj29 l1 t209 x7_19 x29_1 x35_2 t201 x64_5 ji5 x29_1 (wrap64 (a0_0 + 1)) x35_2 l1 (l1.length : Int) x64_5 a0_0 (wrap64 (x71_6 + 1)) a0_0 a0_1 ((rd_T58 l1 x64_5).f0) ((rd_T58 l1 x64_5).f1))) else (impl_LeastSum.l3 kj29 l1 x6_6 x7_19 x29_1 x35_2 t201 x64_5 ji5 x29_1 (wrap64 (a0_0 + 1)) x35_2 l1 (l1.length : Int) x64_5 a0_0 (wrap64 (x71_6 + 1)) a0_0 a0_1 ((rd_T58 l1 x64_5).f0) ((rd_T58 l1 x64_5).f1))) else ((mapPut.f x6_6 (Go.bits .or .i64 x29_1 (ji41)) (ji42) (wrap64 (t201 + t206))).bind fun t210 => (impl_LeastSum.l3 kj29 l1 t210 x7_19 x29_1 x35_2 t201 x64_5 ji5 x29_1 (wrap64 (a0_0 + 1)) x35_2 l1 (l1.length : Int) x64_5 a0_0 (wrap64 (x71_6 + 1)) a0_0 a0_1 ((rd_T58 l1 x64_5).f0) ((rd_T58 l1 x64_5).f1))))) = some (r1, r2) := H
                         have A43 := Aside0.mk A430
                         clear A430
                         replace H := Option.bind_eq_some_iff.mp H
                         obtain ⟨⟨t207, t208⟩, A440, H⟩ := H
                         replace H : (if t208 = true then (if (wrap64 (t201 + t206)) < t207 then ((mapPut.f x6_6 (Go.bits .or .i64 x29_1 (ji41)) (ji42) (wrap64 (t201 + t206))).bind fun t209 => (impl_LeastSum.l3 kj29 l1 t209 x7_19 x29_1 x35_2 t201 x64_5 ji5 x29_1 (wrap64 (a0_0 + 1)) x35_2 l1 (l1.length : Int) x64_5 a0_0 (wrap64 (x71_6 + 1)) a0_0 a0_1 ((rd_T58 l1 x64_5).f0) ((rd_T58 l1 x64_5).f1))) else (impl_LeastSum.l3 kj29 l1 x6_6 x7_19 x29_1 x35_2 t201 x64_5 ji5 x29_1 (wrap64 (a0_0 + 1)) x35_2 l1 (l1.length : Int) x64_5 a0_0 (wrap64 (x71_6 + 1)) a0_0 a0_1 ((rd_T58 l1 x64_5).f0) ((rd_T58 l1 x64_5).f1))) else ((mapPut.f x6_6 (Go.bits .or .i64 x29_1 (ji41)) (ji42) (wrap64 (t201 + t206))).bind fun t210 => (impl_LeastSum.l3 kj29 l1 t210 x7_19 x29_1 x35_2 t201 x64_5 ji5 x29_1 (wrap64 (a0_0 + 1)) x35_2 l1 (l1.length : Int) x64_5 a0_0 (wrap64 (x71_6 + 1)) a0_0 a0_1 ((rd_T58 l1 x64_5).f0) ((rd_T58 l1 x64_5).f1)))) = some (r1, r2) := H
                         have A44 := Aside0.mk A440
                         clear A440
                         by_cases c45 : t208 = true
                         ·subst c45
                          have H1 : (if (wrap64 (t201 + t206)) < t207 then ((mapPut.f x6_6 (Go.bits .or .i64 x29_1 (ji41)) (ji42) (wrap64 (t201 + t206))).bind fun t209 => (impl_LeastSum.l3 kj29 l1 t209 x7_19 x29_1 x35_2 t201 x64_5 ji5 x29_1 (wrap64 (a0_0 + 1)) x35_2 l1 (l1.length : Int) x64_5 a0_0 (wrap64 (x71_6 + 1)) a0_0 a0_1 ((rd_T58 l1 x64_5).f0) ((rd_T58 l1 x64_5).f1))) else (impl_LeastSum.l3 kj29 l1 x6_6 x7_19 x29_1 x35_2 t201 x64_5 ji5 x29_1 (wrap64 (a0_0 + 1)) x35_2 l1 (l1.length : Int) x64_5 a0_0 (wrap64 (x71_6 + 1)) a0_0 a0_1 ((rd_T58 l1 x64_5).f0) ((rd_T58 l1 x64_5).f1))) = some (r1, r2) := by rw [if_pos rfl] at H; exact H
                          clear H
                          have H := H1
                          clear H1
                          by_cases c46 : (wrap64 (t201 + t206)) < t207
                          ·rw [if_pos c46] at H
                           have c46b0 : decide ((wrap64 (t201 + t206)) < t207) = true := decide_eq_true c46
                           clear c46
                           replace H := Option.bind_eq_some_iff.mp H
                           obtain ⟨t209, A470, H⟩ := H
                           replace H : (impl_LeastSum.l3 kj29 l1 t209 x7_19 x29_1 x35_2 t201 x64_5 ji5 x29_1 (wrap64 (a0_0 + 1)) x35_2 l1 (l1.length : Int) x64_5 a0_0 (wrap64 (x71_6 + 1)) a0_0 a0_1 ((rd_T58 l1 x64_5).f0) ((rd_T58 l1 x64_5).f1)) = some (r1, r2) := H
                           have A47 := Aside0.mk A470
                           clear A470
                           have H' := Aside0.mk H
                           clear H
                           try go_wp2
                           have n0_ := Aside0.mk (blk_drew BK197.out)
                           have mb_ := Aside0.mk (map_drew MB.out)
                           have n1_ := Aside0.mk (blk_drew BK204.out)
                           have n2_ := Aside0.mk (below_drew1 HB.out)
                           clear BK197
                           clear BK204
                           clear HB
                           have BK197 := n0_
                           clear MB
                           have MB := mb_
                           clear mb_
                           have BK204 := n1_
                           have HB := n2_
                           clear n0_ n1_ n2_
                           refine start_ (n := 15) (S := fun w' => w'.cell? ⟨gb197, 0, none⟩ = some (.int .i64 a0_0) ∧ w'.cell? ⟨gb197, 1, none⟩ = some (.bool a0_1) ∧ w'.cell? ⟨gb204, 0, none⟩ = some (.int .i64 ((rd_T58 l1 x64_5).f0)) ∧ w'.cell? ⟨gb204, 1, none⟩ = some (.int .i64 ((rd_T58 l1 x64_5).f1))) (ds := []) #[false,false,false,false,false,false,false,false,false,false,false,false,false,false,false] (by kernel_rfl) rfl rfl ⟨(blk_cell BK197.out 0).trans rfl, (blk_cell BK197.out 1).trans rfl, (blk_cell BK204.out 0).trans rfl, (blk_cell BK204.out 1).trans rfl⟩ (fun hHeld => ?_); refine with_tabW impl_LeastSum.tab22 impl_LeastSum.bits22 (fun HT_ HW_ => ?_)
                           generalize wc.drew = w48 at MB BK197 BK204 HB hHeld ⊢
                           refine pure_ (i := 0) (N := some 95) (v := ?_) (a' := ?_) #[true,false,false,false,false,false,false,false,false,false,false,false,false,false,false] rfl rfl (any_of HT_.out (by kernel_rfl)) (fun _ _ _ h => h) (Or.inl ⟨by rfl, ?_⟩) ?_ ?_
                           rotate_left
                           ·intro w'
                            go_simp
                            with_reducible rfl
                           rotate_left
                           ·simp only [Act.put, List.setIfInBounds_toArray, List.set_cons_zero, List.set_cons_succ, i64_w, i32_w]
                            rfl
                           refine pure_ (i := 1) (N := some 96) (v := ?_) (a' := ?_) #[true,true,false,false,false,false,false,false,false,false,false,false,false,false,false] rfl rfl (any_of HT_.out (by kernel_rfl)) (fun _ _ _ h => h) (Or.inl ⟨by rfl, ?_⟩) ?_ ?_
                           rotate_left
                           ·intro w'
                            go_simp
                            with_reducible rfl
                           rotate_left
                           ·simp only [Act.put, List.setIfInBounds_toArray, List.set_cons_zero, List.set_cons_succ, i64_w, i32_w]
                            rfl
                           refine pure_ (i := 2) (N := some 97) (v := ?_) (a' := ?_) #[true,true,true,false,false,false,false,false,false,false,false,false,false,false,false] rfl rfl (any_of HT_.out (by kernel_rfl)) (fun _ _ _ h => h) (Or.inl ⟨by rfl, ?_⟩) ?_ ?_
                           rotate_left
                           ·intro w'
                            go_simp
                            with_reducible rfl
                           rotate_left
                           ·simp only [Act.put, List.setIfInBounds_toArray, List.set_cons_zero, List.set_cons_succ, i64_w, i32_w]
                            rfl
                           refine pure_ (i := 3) (N := some 98) (v := ?_) (a' := ?_) #[true,true,true,true,false,false,false,false,false,false,false,false,false,false,false] rfl rfl (any_of HT_.out (by kernel_rfl)) (fun _ _ _ h => h) (Or.inl ⟨by rfl, ?_⟩) ?_ ?_
                           rotate_left
                           ·intro w'
                            go_simp
                            with_reducible rfl
                           rotate_left
                           ·simp only [Act.put, List.setIfInBounds_toArray, List.set_cons_zero, List.set_cons_succ, i64_w, i32_w]
                            rfl
                           refine pure_ (i := 4) (N := some 99) (v := ?_) (a' := ?_) #[true,true,true,true,true,false,false,false,false,false,false,false,false,false,false] rfl rfl (any_of HT_.out (by kernel_rfl)) (fun _ _ _ h => h) (Or.inl ⟨by rfl, ?_⟩) ?_ ?_
                           rotate_left
                           ·intro w'
                            go_simp
                            with_reducible rfl
                           rotate_left
                           ·simp only [Act.put, List.setIfInBounds_toArray, List.set_cons_zero, List.set_cons_succ, i64_w, i32_w]
                            rfl
                           refine pure_ (i := 6) (N := some 101) (v := ?_) (a' := ?_) #[true,true,true,true,true,false,true,false,false,false,false,false,false,false,false] rfl rfl (any_of HT_.out (by kernel_rfl)) (fun _ _ _ h => h) (Or.inl ⟨by rfl, ?_⟩) ?_ ?_
                           rotate_left
                           ·intro w'
                            go_simp
                            with_reducible rfl
                           rotate_left
                           ·simp only [Act.put, List.setIfInBounds_toArray, List.set_cons_zero, List.set_cons_succ, i64_w, i32_w]
                            rfl
                           refine pure_ (i := 7) (N := some 102) (v := ?_) (a' := ?_) #[true,true,true,true,true,false,true,true,false,false,false,false,false,false,false] rfl rfl (any_of HT_.out (by kernel_rfl)) (fun _ _ _ h => h) (Or.inl ⟨by rfl, ?_⟩) ?_ ?_
                           rotate_left
                           ·intro w'
                            go_simp
                            with_reducible rfl
                           rotate_left
                           ·simp only [Act.put, List.setIfInBounds_toArray, List.set_cons_zero, List.set_cons_succ, i64_w, i32_w]
                            rfl
                           refine take_ (i := 5) (N := some 100) (v := ?_) (a' := ?_) #[true,true,true,true,true,true,true,true,false,false,false,false,false,false,false] rfl rfl (take_ofW HT_.out HW_.out (by kernel_rfl)) (fun _ _ _ h => h) (Or.inl ⟨by rfl, ?_⟩) hHeld ?_ ?_
                           rotate_left
                           ·rintro w' ⟨s0, s1, s2, s3⟩
                            go_simp
                            with_reducible rfl
                           rotate_left
                           ·simp only [Act.put, List.setIfInBounds_toArray, List.set_cons_zero, List.set_cons_succ, i64_w, i32_w]
                            rfl
                           refine take_ (i := 8) (N := some 103) (v := ?_) (a' := ?_) #[true,true,true,true,true,true,true,true,true,false,false,false,false,false,false] rfl rfl (take_ofW HT_.out HW_.out (by kernel_rfl)) (fun _ _ _ h => h) (Or.inl ⟨by rfl, ?_⟩) hHeld ?_ ?_
                           rotate_left
                           ·rintro w' ⟨s0, s1, s2, s3⟩
                            go_simp
                            with_reducible rfl
                           rotate_left
                           ·simp only [Act.put, List.setIfInBounds_toArray, List.set_cons_zero, List.set_cons_succ, i64_w, i32_w]
                            rfl
                           refine pure_ (i := 9) (N := some 104) (v := ?_) (a' := ?_) #[true,true,true,true,true,true,true,true,true,true,false,false,false,false,false] rfl rfl (any_of HT_.out (by kernel_rfl)) (fun _ _ _ h => h) (Or.inl ⟨by rfl, ?_⟩) ?_ ?_
                           rotate_left
                           ·intro w'
                            go_simp
                            with_reducible rfl
                           rotate_left
                           ·simp only [Act.put, List.setIfInBounds_toArray, List.set_cons_zero, List.set_cons_succ, i64_w, i32_w]
                            rfl
                           refine pure_ (i := 10) (N := some 105) (v := ?_) (a' := ?_) #[true,true,true,true,true,true,true,true,true,true,true,false,false,false,false] rfl rfl (any_of HT_.out (by kernel_rfl)) (fun _ _ _ h => h) (Or.inl ⟨by rfl, ?_⟩) ?_ ?_
                           rotate_left
                           ·intro w'
                            go_simp
                            with_reducible rfl
                           rotate_left
                           ·simp only [Act.put, List.setIfInBounds_toArray, List.set_cons_zero, List.set_cons_succ, i64_w, i32_w]
                            rfl
                           refine pure_ (i := 11) (N := some 106) (v := ?_) (a' := ?_) #[true,true,true,true,true,true,true,true,true,true,true,true,false,false,false] rfl rfl (any_of HT_.out (by kernel_rfl)) (fun _ _ _ h => h) (Or.inl ⟨by rfl, ?_⟩) ?_ ?_
                           rotate_left
                           ·intro w'
                            go_simp
                            with_reducible rfl
                           rotate_left
                           ·simp only [Act.put, List.setIfInBounds_toArray, List.set_cons_zero, List.set_cons_succ, i64_w, i32_w]
                            rfl
                           refine pure_ (i := 12) (N := some 107) (v := ?_) (a' := ?_) #[true,true,true,true,true,true,true,true,true,true,true,true,true,false,false] rfl rfl (any_of HT_.out (by kernel_rfl)) (fun _ _ _ h => h) (Or.inl ⟨by rfl, ?_⟩) ?_ ?_
                           rotate_left
                           ·intro w'
                            go_simp
                            with_reducible rfl
                           rotate_left
                           ·simp only [Act.put, List.setIfInBounds_toArray, List.set_cons_zero, List.set_cons_succ, i64_w, i32_w]
                            rfl
                           refine one_ (i := 13) (N := some 15) #[true,true,true,true,true,true,true,true,true,true,true,true,true,true,false] rfl rfl (one_of HT_.out (by kernel_rfl)) (by decide) (fun K hK => ?_)
                           refine box_step ?hg (N := 15) ?hd (cs := #[.int .i64 0, .int .i64 0]) (t := 76) ?hr ?_; (case hd => rfl); (case hg => rfl); (case hr => first | (go_simp; done) | (go_simp; rfl))
                           intro gb205 hg w49 hbox hb
                           have n0_ := Aside0.mk (blk_below (g := gb197) (o := .cells #[.int .i64 a0_0, .bool a0_1] 27 (0, 0)) (by (with_reducible repeat (first | refine blk_drewN ?_ _ | refine blk_drew ?_ | refine blk_alloc ?_ _)); exact BK197.out) hb)
                           have mb_ := Aside0.mk (map_below (g := gm) (m := x6_6) (by (with_reducible repeat (first | refine map_drewN ?_ _ | refine map_drew ?_ | refine map_alloc ?_ _)); exact MB.out) hb)
                           have n1_ := Aside0.mk (blk_below (g := gb204) (o := .cells #[.int .i64 ((rd_T58 l1 x64_5).f0), .int .i64 ((rd_T58 l1 x64_5).f1)] 58 (0, 0)) (by (with_reducible repeat (first | refine blk_drewN ?_ _ | refine blk_drew ?_ | refine blk_alloc ?_ _)); exact BK204.out) hb)
                           have n2_ := Aside0.mk (below_step (by repeat (first | (with_reducible first | exact HB.out | apply below_alloc | apply pw_below_drewN | apply below_drew1 | refine below_set ?_ GE197.out | refine below_set ?_ GE204.out) | exact HB.out)) hb)
                           have n3_ := Aside0.mk (hbox)
                           have n4_ := Aside0.mk ((by rw [hg]; exact (below_size (by repeat (first | (with_reducible first | exact HB.out | apply below_alloc | apply pw_below_drewN | apply below_drew1 | refine below_set ?_ GE197.out | refine below_set ?_ GE204.out) | exact HB.out))) : w.heap.size ≤ gb205))
                           have n5_ := Aside0.mk ((by rw [hg]; exact (below_size (by repeat (first | (with_reducible first | exact HB.out | apply below_alloc | apply pw_below_drewN | apply below_drew1 | refine below_set ?_ GE197.out | refine below_set ?_ GE204.out) | exact HB.out))) : w.heap.size ≤ gb205))
                           have n6_ := Aside0.mk ((by rw [hg]; exact Nat.ne_of_lt (blk_lt (g := gb197) (o := .cells #[.int .i64 a0_0, .bool a0_1] 27 (0, 0)) (by (with_reducible repeat (first | refine blk_drewN ?_ _ | refine blk_drew ?_ | refine blk_alloc ?_ _)); exact BK197.out)) : gb197 ≠ gb205))
                           have nm_ := Aside0.mk ((by rw [hg]; exact Nat.ne_of_lt (map_lt (g := gm) (m := x6_6) (by (with_reducible repeat (first | refine map_drewN ?_ _ | refine map_drew ?_ | refine map_alloc ?_ _)); exact MB.out))) : gm ≠ gb205)
                           have n7_ := Aside0.mk ((by rw [hg]; exact Nat.ne_of_gt (blk_lt (g := gb197) (o := .cells #[.int .i64 a0_0, .bool a0_1] 27 (0, 0)) (by (with_reducible repeat (first | refine blk_drewN ?_ _ | refine blk_drew ?_ | refine blk_alloc ?_ _)); exact BK197.out)) : gb205 ≠ gb197))
                           have n8_ := Aside0.mk ((by rw [hg]; exact Nat.ne_of_lt (blk_lt (g := gb204) (o := .cells #[.int .i64 ((rd_T58 l1 x64_5).f0), .int .i64 ((rd_T58 l1 x64_5).f1)] 58 (0, 0)) (by (with_reducible repeat (first | refine blk_drewN ?_ _ | refine blk_drew ?_ | refine blk_alloc ?_ _)); exact BK204.out)) : gb204 ≠ gb205))
                           have n9_ := Aside0.mk ((by rw [hg]; exact Nat.ne_of_gt (blk_lt (g := gb204) (o := .cells #[.int .i64 ((rd_T58 l1 x64_5).f0), .int .i64 ((rd_T58 l1 x64_5).f1)] 58 (0, 0)) (by (with_reducible repeat (first | refine blk_drewN ?_ _ | refine blk_drew ?_ | refine blk_alloc ?_ _)); exact BK204.out)) : gb205 ≠ gb204))
                           clear BK197
                           clear BK204
                           clear HB
                           have BK197 := n0_
                           clear MB
                           have MB := mb_
                           clear mb_
                           have BK204 := n1_
                           have HB := n2_
                           have BK205 := n3_
                           have GW205 := n4_
                           have GE205 := n5_
                           have NB197_205 := n6_
                           have NM_205 := nm_
                           clear nm_
                           have NB205_197 := n7_
                           have NB204_205 := n8_
                           have NB205_204 := n9_
                           clear n0_ n1_ n2_ n3_ n4_ n5_ n6_ n7_ n8_ n9_
                           clear hb hbox hg
                           refine hK.out _ _ ⟨(blk_cell BK197.out 0).trans rfl, (blk_cell BK197.out 1).trans rfl, (blk_cell BK204.out 0).trans rfl, (blk_cell BK204.out 1).trans rfl⟩ (fun hHeld => ?_)
                           clear hK K
                           refine norm_ (a' := ?_) ?_ ?_
                           rotate_left
                           ·show Act.put _ (some 15) _ = _
                            simp only [Act.put, List.setIfInBounds_toArray, List.set_cons_zero, List.set_cons_succ, i64_w, i32_w]
                            rfl
                           refine one_ (i := 14) (N := none) #[true,true,true,true,true,true,true,true,true,true,true,true,true,true,true] rfl rfl (one_of HT_.out (by kernel_rfl)) (by decide) (fun K hK => ?_)
                           have hs50 : w49.cell? ⟨gb205, 0, none⟩ = some (.int .i64 0) := (blk_cell BK205.out 0).trans rfl
                           have hfs50 := blk_frozen BK205.out 0
                           have hns50_0 := NB197_205.out
                           have hns50_1 := NB204_205.out
                           have hms50_0 := NB205_197.out
                           have hms50_1 := NB205_204.out
                           have hs51 : w49.cell? ⟨gb205, 1, none⟩ = some (.int .i64 0) := (blk_cell BK205.out 1).trans rfl
                           have hfs51 := blk_frozen BK205.out 1
                           have hns51_0 := NB197_205.out
                           have hns51_1 := NB204_205.out
                           have hms51_0 := NB205_197.out
                           have hms51_1 := NB205_204.out
                           refine skip_ (w1 := ?_) (by rfl) rfl ?_ ?_
                           rotate_left
                           ·go_simp
                            rfl
                           refine hK.out _ _ ⟨((cell_far (p := ⟨gb205, _, none⟩) NB197_205.out _).trans (((cell_far (p := ⟨gb205, _, none⟩) NB197_205.out _).trans (hHeld.1)))), ((cell_far (p := ⟨gb205, _, none⟩) NB197_205.out _).trans (((cell_far (p := ⟨gb205, _, none⟩) NB197_205.out _).trans (hHeld.2.1)))), ((cell_far (p := ⟨gb205, _, none⟩) NB204_205.out _).trans (((cell_far (p := ⟨gb205, _, none⟩) NB204_205.out _).trans (hHeld.2.2.1)))), ((cell_far (p := ⟨gb205, _, none⟩) NB204_205.out _).trans (((cell_far (p := ⟨gb205, _, none⟩) NB204_205.out _).trans (hHeld.2.2.2))))⟩ (fun hHeld => ?_)
                           clear hK K
                           refine done_ (done_of HT_.out (by kernel_rfl)) ?_
                           have hnb52 := NB197_204.out
                           have hnc52 := NB204_197.out
                           have hnb53 := NB197_205.out
                           have hnc53 := NB205_197.out
                           have hcz54_0 : w49.cell? ⟨gb197, 0, none⟩ = some (.int .i64 a0_0) := (blk_cell BK197.out 0).trans rfl
                           have hcz54_1 : w49.cell? ⟨gb197, 1, none⟩ = some (.bool a0_1) := (blk_cell BK197.out 1).trans rfl
                           have hfz54_0 := blk_frozen BK197.out 0
                           have hfz54_1 := blk_frozen BK197.out 1
                           have hnb55 := NB204_205.out
                           have hnc55 := NB205_204.out
                           have hcz56_0 : w49.cell? ⟨gb204, 0, none⟩ = some (.int .i64 ((rd_T58 l1 x64_5).f0)) := (blk_cell BK204.out 0).trans rfl
                           have hcz56_1 : w49.cell? ⟨gb204, 1, none⟩ = some (.int .i64 ((rd_T58 l1 x64_5).f1)) := (blk_cell BK204.out 1).trans rfl
                           have hfz56_0 := blk_frozen BK204.out 0
                           have hfz56_1 := blk_frozen BK204.out 1
                           try go_wp2_with (first | ((with_reducible refine gate_callee (f := 57) rfl ?_); refine goesL_ (some 113) rfl rfl Try.func57 (by kernel_rfl) rfl #[.agg #[.int .i64 a0_0, .bool a0_1], .int .i64 ((rd_T58 l1 x64_5).f0), .int .i64 x71_6] rfl (by (try simp only [List.map_toArray, List.map_cons, List.map_nil]); first | done | rfl | (simp only [List.length_drop, List.length_take]; rfl)) ?_; (with_reducible refine (impl_Road_gap.calls a0_0 a0_1 ((rd_T58 l1 x64_5).f0) x71_6 t206 _ A43.out).mono ?_); rintro e w57 ⟨rfl, hb⟩; refine ⟨_, rfl, ?_⟩; have n0_ := Aside0.mk (blk_below (g := gb197) (o := .cells #[.int .i64 a0_0, .bool a0_1] 27 (0, 0)) (by (with_reducible repeat (first | refine blk_drewN ?_ _ | refine blk_drew ?_ | refine blk_alloc ?_ _)); refine blk_far ?_ NB197_205.out _; (with_reducible repeat (first | refine blk_drewN ?_ _ | refine blk_drew ?_ | refine blk_alloc ?_ _)); refine blk_far ?_ NB197_205.out _; (with_reducible repeat (first | refine blk_drewN ?_ _ | refine blk_drew ?_ | refine blk_alloc ?_ _)); exact BK197.out) hb); have mb_ := Aside0.mk (map_below (g := gm) (m := x6_6) (by (with_reducible repeat (first | refine map_drewN ?_ _ | refine map_drew ?_ | refine map_alloc ?_ _)); refine map_far ?_ NM_205.out _; (with_reducible repeat (first | refine map_drewN ?_ _ | refine map_drew ?_ | refine map_alloc ?_ _)); refine map_far ?_ NM_205.out _; (with_reducible repeat (first | refine map_drewN ?_ _ | refine map_drew ?_ | refine map_alloc ?_ _)); exact MB.out) hb); have n1_ := Aside0.mk (blk_below (g := gb204) (o := .cells #[.int .i64 ((rd_T58 l1 x64_5).f0), .int .i64 ((rd_T58 l1 x64_5).f1)] 58 (0, 0)) (by (with_reducible repeat (first | refine blk_drewN ?_ _ | refine blk_drew ?_ | refine blk_alloc ?_ _)); refine blk_far ?_ NB204_205.out _; (with_reducible repeat (first | refine blk_drewN ?_ _ | refine blk_drew ?_ | refine blk_alloc ?_ _)); refine blk_far ?_ NB204_205.out _; (with_reducible repeat (first | refine blk_drewN ?_ _ | refine blk_drew ?_ | refine blk_alloc ?_ _)); exact BK204.out) hb); have n2_ := Aside0.mk (blk_below (g := gb205) (o := .cells #[.int .i64 (Go.bits .or .i64 x29_1 (ji41)), .int .i64 ji42] 76 (0, 0)) (by (with_reducible repeat (first | refine blk_drewN ?_ _ | refine blk_drew ?_ | refine blk_alloc ?_ _)); refine blk_put (cs := #[.int .i64 (Go.bits .or .i64 x29_1 (ji41)), .int .i64 0]) ?_ 1 _ rfl; (with_reducible repeat (first | refine blk_drewN ?_ _ | refine blk_drew ?_ | refine blk_alloc ?_ _)); refine blk_put (cs := #[.int .i64 0, .int .i64 0]) ?_ 0 _ rfl; (with_reducible repeat (first | refine blk_drewN ?_ _ | refine blk_drew ?_ | refine blk_alloc ?_ _)); exact BK205.out) hb); have n3_ := Aside0.mk (below_step (by repeat (first | (with_reducible first | exact HB.out | apply below_alloc | apply pw_below_drewN | apply below_drew1 | refine below_set ?_ GE197.out | refine below_set ?_ GE204.out | refine below_set ?_ GE205.out) | exact HB.out)) hb); clear BK197; clear BK204; clear BK205; clear HB; have BK197 := n0_; clear MB; have MB := mb_; clear mb_; have BK204 := n1_; have BK205 := n2_; have HB := n3_; clear n0_ n1_ n2_ n3_; (try clear hb); (try clear hb2); (try clear hk); (try clear hi); have hcz58_0 : w57.cell? ⟨gb205, 0, none⟩ = some (.int .i64 (Go.bits .or .i64 x29_1 (ji41))) := (blk_cell BK205.out 0).trans rfl; have hcz58_1 : w57.cell? ⟨gb205, 1, none⟩ = some (.int .i64 ji42) := (blk_cell BK205.out 1).trans rfl; have hfz58_0 := blk_frozen BK205.out 0; have hfz58_1 := blk_frozen BK205.out 1) | ((with_reducible refine gate_dst (N := 118) rfl ?_); refine map_get rfl (.tmp 116) (.tmp 117) rfl gm x6_6 (Go.bits .or .i64 x29_1 (ji41)) ji42 t207 true (by rfl) (by first | rfl | (simp only [hji41, hji42]; rfl)) (by (with_reducible repeat (first | refine map_drewN ?_ _ | refine map_drew ?_ | refine map_alloc ?_ _)); exact MB.out) A44.out ?_) | (at_mapUpdate; refine map_put rfl (.tmp 128) (.tmp 129) (.tmp 130) (.inl rfl) rfl gm x6_6 t209 (Go.bits .or .i64 x29_1 (ji41)) ji42 (wrap64 (t201 + t206)) (by rfl) (by first | rfl | (simp only [hji41, hji42]; rfl)) (by first | rfl | (simp only [hji41, hji42]; rfl)) (by (with_reducible repeat (first | refine map_drewN ?_ _ | refine map_drew ?_ | refine map_alloc ?_ _)); exact MB.out) A47.out ?_; intro wp hM hgr; have q0_ := Aside0.mk hM; have q1_ := Aside0.mk (below_put (by repeat (first | (with_reducible first | exact HB.out | apply below_alloc | apply pw_below_drewN | apply below_drew1 | refine below_set ?_ GE197.out | refine below_set ?_ GE204.out | refine below_set ?_ GE205.out) | exact HB.out)) hgr GM.out); have r0_ := Aside0.mk (blk_grown (o := (.cells #[.int .i64 a0_0, .bool a0_1] 27 (0, 0))) (by (with_reducible repeat (first | refine blk_drewN ?_ _ | refine blk_drew ?_ | refine blk_alloc ?_ _)); exact BK197.out) hgr (fun e_ => NG197.out (Option.some.inj e_))); have r1_ := Aside0.mk (blk_grown (o := (.cells #[.int .i64 ((rd_T58 l1 x64_5).f0), .int .i64 ((rd_T58 l1 x64_5).f1)] 58 (0, 0))) (by (with_reducible repeat (first | refine blk_drewN ?_ _ | refine blk_drew ?_ | refine blk_alloc ?_ _)); exact BK204.out) hgr (fun e_ => NGM.out (Option.some.inj e_))); clear MB; clear HB; clear BK197; clear BK204; have MB := q0_; have HB := q1_; have BK197 := r0_; have BK204 := r1_; clear q0_ q1_ r0_ r1_; clear hM hgr))
                           go_roundg kj29
                           case measure => have := HK1.out; have := HK2.out; have := HJ13.out; have := HJ19.out; have := HK5.out; have := HK6.out; have := HJ29.out; omega
                           case rel => exact ⟨(t209), (wrap64 (x71_6 + 1)), (by first | rfl | (simp; done) | (simp [*]; done)), H', ⟨by have := HK1.out; have := HK2.out; have := HJ13.out; have := HJ19.out; have := HK5.out; have := HK6.out; have := HJ29.out; omega⟩, ⟨by (with_reducible repeat (first | refine map_drewN ?_ _ | refine map_drew ?_ | refine map_alloc ?_ _)); exact MB.out⟩, ⟨by (with_reducible repeat (first | refine blk_drewN ?_ _ | refine blk_drew ?_ | refine blk_alloc ?_ _)); exact BK197.out⟩, ⟨by (with_reducible repeat (first | refine blk_drewN ?_ _ | refine blk_drew ?_ | refine blk_alloc ?_ _)); exact BK204.out⟩, ⟨by repeat (first | (with_reducible first | exact HB.out | apply below_alloc | apply pw_below_drewN | apply below_drew1 | refine below_set ?_ GE197.out | refine below_set ?_ GE204.out | refine below_set ?_ GE205.out) | exact HB.out)⟩⟩
                          ·rw [if_neg c46] at H
                           have c46b0 : decide ((wrap64 (t201 + t206)) < t207) = false := decide_eq_false c46
                           clear c46
                           have H' := Aside0.mk H
                           clear H
                           try go_wp2
                           have n0_ := Aside0.mk (blk_drew BK197.out)
                           have mb_ := Aside0.mk (map_drew MB.out)
                           have n1_ := Aside0.mk (blk_drew BK204.out)
                           have n2_ := Aside0.mk (below_drew1 HB.out)
                           clear BK197
                           clear BK204
                           clear HB
                           have BK197 := n0_
                           clear MB
                           have MB := mb_
                           clear mb_
                           have BK204 := n1_
                           have HB := n2_
                           clear n0_ n1_ n2_
                           refine start_ (n := 15) (S := fun w' => w'.cell? ⟨gb197, 0, none⟩ = some (.int .i64 a0_0) ∧ w'.cell? ⟨gb197, 1, none⟩ = some (.bool a0_1) ∧ w'.cell? ⟨gb204, 0, none⟩ = some (.int .i64 ((rd_T58 l1 x64_5).f0)) ∧ w'.cell? ⟨gb204, 1, none⟩ = some (.int .i64 ((rd_T58 l1 x64_5).f1))) (ds := []) #[false,false,false,false,false,false,false,false,false,false,false,false,false,false,false] (by kernel_rfl) rfl rfl ⟨(blk_cell BK197.out 0).trans rfl, (blk_cell BK197.out 1).trans rfl, (blk_cell BK204.out 0).trans rfl, (blk_cell BK204.out 1).trans rfl⟩ (fun hHeld => ?_); refine with_tabW impl_LeastSum.tab22 impl_LeastSum.bits22 (fun HT_ HW_ => ?_)
                           generalize wc.drew = w59 at MB BK197 BK204 HB hHeld ⊢
                           refine pure_ (i := 0) (N := some 95) (v := ?_) (a' := ?_) #[true,false,false,false,false,false,false,false,false,false,false,false,false,false,false] rfl rfl (any_of HT_.out (by kernel_rfl)) (fun _ _ _ h => h) (Or.inl ⟨by rfl, ?_⟩) ?_ ?_
                           rotate_left
                           ·intro w'
                            go_simp
                            with_reducible rfl
                           rotate_left
                           ·simp only [Act.put, List.setIfInBounds_toArray, List.set_cons_zero, List.set_cons_succ, i64_w, i32_w]
                            rfl
                           refine pure_ (i := 1) (N := some 96) (v := ?_) (a' := ?_) #[true,true,false,false,false,false,false,false,false,false,false,false,false,false,false] rfl rfl (any_of HT_.out (by kernel_rfl)) (fun _ _ _ h => h) (Or.inl ⟨by rfl, ?_⟩) ?_ ?_
                           rotate_left
                           ·intro w'
                            go_simp
                            with_reducible rfl
                           rotate_left
                           ·simp only [Act.put, List.setIfInBounds_toArray, List.set_cons_zero, List.set_cons_succ, i64_w, i32_w]
                            rfl
                           refine pure_ (i := 2) (N := some 97) (v := ?_) (a' := ?_) #[true,true,true,false,false,false,false,false,false,false,false,false,false,false,false] rfl rfl (any_of HT_.out (by kernel_rfl)) (fun _ _ _ h => h) (Or.inl ⟨by rfl, ?_⟩) ?_ ?_
                           rotate_left
                           ·intro w'
                            go_simp
                            with_reducible rfl
                           rotate_left
                           ·simp only [Act.put, List.setIfInBounds_toArray, List.set_cons_zero, List.set_cons_succ, i64_w, i32_w]
                            rfl
                           refine pure_ (i := 3) (N := some 98) (v := ?_) (a' := ?_) #[true,true,true,true,false,false,false,false,false,false,false,false,false,false,false] rfl rfl (any_of HT_.out (by kernel_rfl)) (fun _ _ _ h => h) (Or.inl ⟨by rfl, ?_⟩) ?_ ?_
                           rotate_left
                           ·intro w'
                            go_simp
                            with_reducible rfl
                           rotate_left
                           ·simp only [Act.put, List.setIfInBounds_toArray, List.set_cons_zero, List.set_cons_succ, i64_w, i32_w]
                            rfl
                           refine pure_ (i := 4) (N := some 99) (v := ?_) (a' := ?_) #[true,true,true,true,true,false,false,false,false,false,false,false,false,false,false] rfl rfl (any_of HT_.out (by kernel_rfl)) (fun _ _ _ h => h) (Or.inl ⟨by rfl, ?_⟩) ?_ ?_
                           rotate_left
                           ·intro w'
                            go_simp
                            with_reducible rfl
                           rotate_left
                           ·simp only [Act.put, List.setIfInBounds_toArray, List.set_cons_zero, List.set_cons_succ, i64_w, i32_w]
                            rfl
                           refine pure_ (i := 6) (N := some 101) (v := ?_) (a' := ?_) #[true,true,true,true,true,false,true,false,false,false,false,false,false,false,false] rfl rfl (any_of HT_.out (by kernel_rfl)) (fun _ _ _ h => h) (Or.inl ⟨by rfl, ?_⟩) ?_ ?_
                           rotate_left
                           ·intro w'
                            go_simp
                            with_reducible rfl
                           rotate_left
                           ·simp only [Act.put, List.setIfInBounds_toArray, List.set_cons_zero, List.set_cons_succ, i64_w, i32_w]
                            rfl
                           refine pure_ (i := 7) (N := some 102) (v := ?_) (a' := ?_) #[true,true,true,true,true,false,true,true,false,false,false,false,false,false,false] rfl rfl (any_of HT_.out (by kernel_rfl)) (fun _ _ _ h => h) (Or.inl ⟨by rfl, ?_⟩) ?_ ?_
                           rotate_left
                           ·intro w'
                            go_simp
                            with_reducible rfl
                           rotate_left
                           ·simp only [Act.put, List.setIfInBounds_toArray, List.set_cons_zero, List.set_cons_succ, i64_w, i32_w]
                            rfl
                           refine take_ (i := 5) (N := some 100) (v := ?_) (a' := ?_) #[true,true,true,true,true,true,true,true,false,false,false,false,false,false,false] rfl rfl (take_ofW HT_.out HW_.out (by kernel_rfl)) (fun _ _ _ h => h) (Or.inl ⟨by rfl, ?_⟩) hHeld ?_ ?_
                           rotate_left
                           ·rintro w' ⟨s0, s1, s2, s3⟩
                            go_simp
                            with_reducible rfl
                           rotate_left
                           ·simp only [Act.put, List.setIfInBounds_toArray, List.set_cons_zero, List.set_cons_succ, i64_w, i32_w]
                            rfl
                           refine take_ (i := 8) (N := some 103) (v := ?_) (a' := ?_) #[true,true,true,true,true,true,true,true,true,false,false,false,false,false,false] rfl rfl (take_ofW HT_.out HW_.out (by kernel_rfl)) (fun _ _ _ h => h) (Or.inl ⟨by rfl, ?_⟩) hHeld ?_ ?_
                           rotate_left
                           ·rintro w' ⟨s0, s1, s2, s3⟩
                            go_simp
                            with_reducible rfl
                           rotate_left
                           ·simp only [Act.put, List.setIfInBounds_toArray, List.set_cons_zero, List.set_cons_succ, i64_w, i32_w]
                            rfl
                           refine pure_ (i := 9) (N := some 104) (v := ?_) (a' := ?_) #[true,true,true,true,true,true,true,true,true,true,false,false,false,false,false] rfl rfl (any_of HT_.out (by kernel_rfl)) (fun _ _ _ h => h) (Or.inl ⟨by rfl, ?_⟩) ?_ ?_
                           rotate_left
                           ·intro w'
                            go_simp
                            with_reducible rfl
                           rotate_left
                           ·simp only [Act.put, List.setIfInBounds_toArray, List.set_cons_zero, List.set_cons_succ, i64_w, i32_w]
                            rfl
                           refine pure_ (i := 10) (N := some 105) (v := ?_) (a' := ?_) #[true,true,true,true,true,true,true,true,true,true,true,false,false,false,false] rfl rfl (any_of HT_.out (by kernel_rfl)) (fun _ _ _ h => h) (Or.inl ⟨by rfl, ?_⟩) ?_ ?_
                           rotate_left
                           ·intro w'
                            go_simp
                            with_reducible rfl
                           rotate_left
                           ·simp only [Act.put, List.setIfInBounds_toArray, List.set_cons_zero, List.set_cons_succ, i64_w, i32_w]
                            rfl
                           refine pure_ (i := 11) (N := some 106) (v := ?_) (a' := ?_) #[true,true,true,true,true,true,true,true,true,true,true,true,false,false,false] rfl rfl (any_of HT_.out (by kernel_rfl)) (fun _ _ _ h => h) (Or.inl ⟨by rfl, ?_⟩) ?_ ?_
                           rotate_left
                           ·intro w'
                            go_simp
                            with_reducible rfl
                           rotate_left
                           ·simp only [Act.put, List.setIfInBounds_toArray, List.set_cons_zero, List.set_cons_succ, i64_w, i32_w]
                            rfl
                           refine pure_ (i := 12) (N := some 107) (v := ?_) (a' := ?_) #[true,true,true,true,true,true,true,true,true,true,true,true,true,false,false] rfl rfl (any_of HT_.out (by kernel_rfl)) (fun _ _ _ h => h) (Or.inl ⟨by rfl, ?_⟩) ?_ ?_
                           rotate_left
                           ·intro w'
                            go_simp
                            with_reducible rfl
                           rotate_left
                           ·simp only [Act.put, List.setIfInBounds_toArray, List.set_cons_zero, List.set_cons_succ, i64_w, i32_w]
                            rfl
                           refine one_ (i := 13) (N := some 15) #[true,true,true,true,true,true,true,true,true,true,true,true,true,true,false] rfl rfl (one_of HT_.out (by kernel_rfl)) (by decide) (fun K hK => ?_)
                           refine box_step ?hg (N := 15) ?hd (cs := #[.int .i64 0, .int .i64 0]) (t := 76) ?hr ?_; (case hd => rfl); (case hg => rfl); (case hr => first | (go_simp; done) | (go_simp; rfl))
                           intro gb205 hg w60 hbox hb
                           have n0_ := Aside0.mk (blk_below (g := gb197) (o := .cells #[.int .i64 a0_0, .bool a0_1] 27 (0, 0)) (by (with_reducible repeat (first | refine blk_drewN ?_ _ | refine blk_drew ?_ | refine blk_alloc ?_ _)); exact BK197.out) hb)
                           have mb_ := Aside0.mk (map_below (g := gm) (m := x6_6) (by (with_reducible repeat (first | refine map_drewN ?_ _ | refine map_drew ?_ | refine map_alloc ?_ _)); exact MB.out) hb)
                           have n1_ := Aside0.mk (blk_below (g := gb204) (o := .cells #[.int .i64 ((rd_T58 l1 x64_5).f0), .int .i64 ((rd_T58 l1 x64_5).f1)] 58 (0, 0)) (by (with_reducible repeat (first | refine blk_drewN ?_ _ | refine blk_drew ?_ | refine blk_alloc ?_ _)); exact BK204.out) hb)
                           have n2_ := Aside0.mk (below_step (by repeat (first | (with_reducible first | exact HB.out | apply below_alloc | apply pw_below_drewN | apply below_drew1 | refine below_set ?_ GE197.out | refine below_set ?_ GE204.out) | exact HB.out)) hb)
                           have n3_ := Aside0.mk (hbox)
                           have n4_ := Aside0.mk ((by rw [hg]; exact (below_size (by repeat (first | (with_reducible first | exact HB.out | apply below_alloc | apply pw_below_drewN | apply below_drew1 | refine below_set ?_ GE197.out | refine below_set ?_ GE204.out) | exact HB.out))) : w.heap.size ≤ gb205))
                           have n5_ := Aside0.mk ((by rw [hg]; exact (below_size (by repeat (first | (with_reducible first | exact HB.out | apply below_alloc | apply pw_below_drewN | apply below_drew1 | refine below_set ?_ GE197.out | refine below_set ?_ GE204.out) | exact HB.out))) : w.heap.size ≤ gb205))
                           have n6_ := Aside0.mk ((by rw [hg]; exact Nat.ne_of_lt (blk_lt (g := gb197) (o := .cells #[.int .i64 a0_0, .bool a0_1] 27 (0, 0)) (by (with_reducible repeat (first | refine blk_drewN ?_ _ | refine blk_drew ?_ | refine blk_alloc ?_ _)); exact BK197.out)) : gb197 ≠ gb205))
                           have nm_ := Aside0.mk ((by rw [hg]; exact Nat.ne_of_lt (map_lt (g := gm) (m := x6_6) (by (with_reducible repeat (first | refine map_drewN ?_ _ | refine map_drew ?_ | refine map_alloc ?_ _)); exact MB.out))) : gm ≠ gb205)
                           have n7_ := Aside0.mk ((by rw [hg]; exact Nat.ne_of_gt (blk_lt (g := gb197) (o := .cells #[.int .i64 a0_0, .bool a0_1] 27 (0, 0)) (by (with_reducible repeat (first | refine blk_drewN ?_ _ | refine blk_drew ?_ | refine blk_alloc ?_ _)); exact BK197.out)) : gb205 ≠ gb197))
                           have n8_ := Aside0.mk ((by rw [hg]; exact Nat.ne_of_lt (blk_lt (g := gb204) (o := .cells #[.int .i64 ((rd_T58 l1 x64_5).f0), .int .i64 ((rd_T58 l1 x64_5).f1)] 58 (0, 0)) (by (with_reducible repeat (first | refine blk_drewN ?_ _ | refine blk_drew ?_ | refine blk_alloc ?_ _)); exact BK204.out)) : gb204 ≠ gb205))
                           have n9_ := Aside0.mk ((by rw [hg]; exact Nat.ne_of_gt (blk_lt (g := gb204) (o := .cells #[.int .i64 ((rd_T58 l1 x64_5).f0), .int .i64 ((rd_T58 l1 x64_5).f1)] 58 (0, 0)) (by (with_reducible repeat (first | refine blk_drewN ?_ _ | refine blk_drew ?_ | refine blk_alloc ?_ _)); exact BK204.out)) : gb205 ≠ gb204))
                           clear BK197
                           clear BK204
                           clear HB
                           have BK197 := n0_
                           clear MB
                           have MB := mb_
                           clear mb_
                           have BK204 := n1_
                           have HB := n2_
                           have BK205 := n3_
                           have GW205 := n4_
                           have GE205 := n5_
                           have NB197_205 := n6_
                           have NM_205 := nm_
                           clear nm_
                           have NB205_197 := n7_
                           have NB204_205 := n8_
                           have NB205_204 := n9_
                           clear n0_ n1_ n2_ n3_ n4_ n5_ n6_ n7_ n8_ n9_
                           clear hb hbox hg
                           refine hK.out _ _ ⟨(blk_cell BK197.out 0).trans rfl, (blk_cell BK197.out 1).trans rfl, (blk_cell BK204.out 0).trans rfl, (blk_cell BK204.out 1).trans rfl⟩ (fun hHeld => ?_)
                           clear hK K
                           refine norm_ (a' := ?_) ?_ ?_
                           rotate_left
                           ·show Act.put _ (some 15) _ = _
                            simp only [Act.put, List.setIfInBounds_toArray, List.set_cons_zero, List.set_cons_succ, i64_w, i32_w]
                            rfl
                           refine one_ (i := 14) (N := none) #[true,true,true,true,true,true,true,true,true,true,true,true,true,true,true] rfl rfl (one_of HT_.out (by kernel_rfl)) (by decide) (fun K hK => ?_)
                           have hs61 : w60.cell? ⟨gb205, 0, none⟩ = some (.int .i64 0) := (blk_cell BK205.out 0).trans rfl
                           have hfs61 := blk_frozen BK205.out 0
                           have hns61_0 := NB197_205.out
                           have hns61_1 := NB204_205.out
                           have hms61_0 := NB205_197.out
                           have hms61_1 := NB205_204.out
                           have hs62 : w60.cell? ⟨gb205, 1, none⟩ = some (.int .i64 0) := (blk_cell BK205.out 1).trans rfl
                           have hfs62 := blk_frozen BK205.out 1
                           have hns62_0 := NB197_205.out
                           have hns62_1 := NB204_205.out
                           have hms62_0 := NB205_197.out
                           have hms62_1 := NB205_204.out
                           refine skip_ (w1 := ?_) (by rfl) rfl ?_ ?_
                           rotate_left
                           ·go_simp
                            rfl
                           refine hK.out _ _ ⟨((cell_far (p := ⟨gb205, _, none⟩) NB197_205.out _).trans (((cell_far (p := ⟨gb205, _, none⟩) NB197_205.out _).trans (hHeld.1)))), ((cell_far (p := ⟨gb205, _, none⟩) NB197_205.out _).trans (((cell_far (p := ⟨gb205, _, none⟩) NB197_205.out _).trans (hHeld.2.1)))), ((cell_far (p := ⟨gb205, _, none⟩) NB204_205.out _).trans (((cell_far (p := ⟨gb205, _, none⟩) NB204_205.out _).trans (hHeld.2.2.1)))), ((cell_far (p := ⟨gb205, _, none⟩) NB204_205.out _).trans (((cell_far (p := ⟨gb205, _, none⟩) NB204_205.out _).trans (hHeld.2.2.2))))⟩ (fun hHeld => ?_)
                           clear hK K
                           refine done_ (done_of HT_.out (by kernel_rfl)) ?_
                           have hnb63 := NB197_204.out
                           have hnc63 := NB204_197.out
                           have hnb64 := NB197_205.out
                           have hnc64 := NB205_197.out
                           have hcz65_0 : w60.cell? ⟨gb197, 0, none⟩ = some (.int .i64 a0_0) := (blk_cell BK197.out 0).trans rfl
                           have hcz65_1 : w60.cell? ⟨gb197, 1, none⟩ = some (.bool a0_1) := (blk_cell BK197.out 1).trans rfl
                           have hfz65_0 := blk_frozen BK197.out 0
                           have hfz65_1 := blk_frozen BK197.out 1
                           have hnb66 := NB204_205.out
                           have hnc66 := NB205_204.out
                           have hcz67_0 : w60.cell? ⟨gb204, 0, none⟩ = some (.int .i64 ((rd_T58 l1 x64_5).f0)) := (blk_cell BK204.out 0).trans rfl
                           have hcz67_1 : w60.cell? ⟨gb204, 1, none⟩ = some (.int .i64 ((rd_T58 l1 x64_5).f1)) := (blk_cell BK204.out 1).trans rfl
                           have hfz67_0 := blk_frozen BK204.out 0
                           have hfz67_1 := blk_frozen BK204.out 1
                           try go_wp2_with (first | ((with_reducible refine gate_callee (f := 57) rfl ?_); refine goesL_ (some 113) rfl rfl Try.func57 (by kernel_rfl) rfl #[.agg #[.int .i64 a0_0, .bool a0_1], .int .i64 ((rd_T58 l1 x64_5).f0), .int .i64 x71_6] rfl (by (try simp only [List.map_toArray, List.map_cons, List.map_nil]); first | done | rfl | (simp only [List.length_drop, List.length_take]; rfl)) ?_; (with_reducible refine (impl_Road_gap.calls a0_0 a0_1 ((rd_T58 l1 x64_5).f0) x71_6 t206 _ A43.out).mono ?_); rintro e w68 ⟨rfl, hb⟩; refine ⟨_, rfl, ?_⟩; have n0_ := Aside0.mk (blk_below (g := gb197) (o := .cells #[.int .i64 a0_0, .bool a0_1] 27 (0, 0)) (by (with_reducible repeat (first | refine blk_drewN ?_ _ | refine blk_drew ?_ | refine blk_alloc ?_ _)); refine blk_far ?_ NB197_205.out _; (with_reducible repeat (first | refine blk_drewN ?_ _ | refine blk_drew ?_ | refine blk_alloc ?_ _)); refine blk_far ?_ NB197_205.out _; (with_reducible repeat (first | refine blk_drewN ?_ _ | refine blk_drew ?_ | refine blk_alloc ?_ _)); exact BK197.out) hb); have mb_ := Aside0.mk (map_below (g := gm) (m := x6_6) (by (with_reducible repeat (first | refine map_drewN ?_ _ | refine map_drew ?_ | refine map_alloc ?_ _)); refine map_far ?_ NM_205.out _; (with_reducible repeat (first | refine map_drewN ?_ _ | refine map_drew ?_ | refine map_alloc ?_ _)); refine map_far ?_ NM_205.out _; (with_reducible repeat (first | refine map_drewN ?_ _ | refine map_drew ?_ | refine map_alloc ?_ _)); exact MB.out) hb); have n1_ := Aside0.mk (blk_below (g := gb204) (o := .cells #[.int .i64 ((rd_T58 l1 x64_5).f0), .int .i64 ((rd_T58 l1 x64_5).f1)] 58 (0, 0)) (by (with_reducible repeat (first | refine blk_drewN ?_ _ | refine blk_drew ?_ | refine blk_alloc ?_ _)); refine blk_far ?_ NB204_205.out _; (with_reducible repeat (first | refine blk_drewN ?_ _ | refine blk_drew ?_ | refine blk_alloc ?_ _)); refine blk_far ?_ NB204_205.out _; (with_reducible repeat (first | refine blk_drewN ?_ _ | refine blk_drew ?_ | refine blk_alloc ?_ _)); exact BK204.out) hb); have n2_ := Aside0.mk (blk_below (g := gb205) (o := .cells #[.int .i64 (Go.bits .or .i64 x29_1 (ji41)), .int .i64 ji42] 76 (0, 0)) (by (with_reducible repeat (first | refine blk_drewN ?_ _ | refine blk_drew ?_ | refine blk_alloc ?_ _)); refine blk_put (cs := #[.int .i64 (Go.bits .or .i64 x29_1 (ji41)), .int .i64 0]) ?_ 1 _ rfl; (with_reducible repeat (first | refine blk_drewN ?_ _ | refine blk_drew ?_ | refine blk_alloc ?_ _)); refine blk_put (cs := #[.int .i64 0, .int .i64 0]) ?_ 0 _ rfl; (with_reducible repeat (first | refine blk_drewN ?_ _ | refine blk_drew ?_ | refine blk_alloc ?_ _)); exact BK205.out) hb); have n3_ := Aside0.mk (below_step (by repeat (first | (with_reducible first | exact HB.out | apply below_alloc | apply pw_below_drewN | apply below_drew1 | refine below_set ?_ GE197.out | refine below_set ?_ GE204.out | refine below_set ?_ GE205.out) | exact HB.out)) hb); clear BK197; clear BK204; clear BK205; clear HB; have BK197 := n0_; clear MB; have MB := mb_; clear mb_; have BK204 := n1_; have BK205 := n2_; have HB := n3_; clear n0_ n1_ n2_ n3_; (try clear hb); (try clear hb2); (try clear hk); (try clear hi); have hcz69_0 : w68.cell? ⟨gb205, 0, none⟩ = some (.int .i64 (Go.bits .or .i64 x29_1 (ji41))) := (blk_cell BK205.out 0).trans rfl; have hcz69_1 : w68.cell? ⟨gb205, 1, none⟩ = some (.int .i64 ji42) := (blk_cell BK205.out 1).trans rfl; have hfz69_0 := blk_frozen BK205.out 0; have hfz69_1 := blk_frozen BK205.out 1) | ((with_reducible refine gate_dst (N := 118) rfl ?_); refine map_get rfl (.tmp 116) (.tmp 117) rfl gm x6_6 (Go.bits .or .i64 x29_1 (ji41)) ji42 t207 true (by rfl) (by first | rfl | (simp only [hji41, hji42]; rfl)) (by (with_reducible repeat (first | refine map_drewN ?_ _ | refine map_drew ?_ | refine map_alloc ?_ _)); exact MB.out) A44.out ?_))
                           go_roundg kj29
                           case measure => have := HK1.out; have := HK2.out; have := HJ13.out; have := HJ19.out; have := HK5.out; have := HK6.out; have := HJ29.out; omega
                           case rel => exact ⟨(x6_6), (wrap64 (x71_6 + 1)), (by first | rfl | (simp; done) | (simp [*]; done)), H', ⟨by have := HK1.out; have := HK2.out; have := HJ13.out; have := HJ19.out; have := HK5.out; have := HK6.out; have := HJ29.out; omega⟩, ⟨by (with_reducible repeat (first | refine map_drewN ?_ _ | refine map_drew ?_ | refine map_alloc ?_ _)); exact MB.out⟩, ⟨by (with_reducible repeat (first | refine blk_drewN ?_ _ | refine blk_drew ?_ | refine blk_alloc ?_ _)); exact BK197.out⟩, ⟨by (with_reducible repeat (first | refine blk_drewN ?_ _ | refine blk_drew ?_ | refine blk_alloc ?_ _)); exact BK204.out⟩, ⟨by repeat (first | (with_reducible first | exact HB.out | apply below_alloc | apply pw_below_drewN | apply below_drew1 | refine below_set ?_ GE197.out | refine below_set ?_ GE204.out | refine below_set ?_ GE205.out) | exact HB.out)⟩⟩
                         ·replace c45 := Bool.eq_false_iff.mpr c45
                          subst c45
                          have H1 : ((mapPut.f x6_6 (Go.bits .or .i64 x29_1 (ji41)) (ji42) (wrap64 (t201 + t206))).bind fun t210 => (impl_LeastSum.l3 kj29 l1 t210 x7_19 x29_1 x35_2 t201 x64_5 ji5 x29_1 (wrap64 (a0_0 + 1)) x35_2 l1 (l1.length : Int) x64_5 a0_0 (wrap64 (x71_6 + 1)) a0_0 a0_1 ((rd_T58 l1 x64_5).f0) ((rd_T58 l1 x64_5).f1))) = some (r1, r2) := by rw [if_neg (show ¬ (false = true) by decide)] at H; exact H
                          clear H
                          have H := H1
                          clear H1
                          replace H := Option.bind_eq_some_iff.mp H
                          obtain ⟨t210, A700, H⟩ := H
                          replace H : (impl_LeastSum.l3 kj29 l1 t210 x7_19 x29_1 x35_2 t201 x64_5 ji5 x29_1 (wrap64 (a0_0 + 1)) x35_2 l1 (l1.length : Int) x64_5 a0_0 (wrap64 (x71_6 + 1)) a0_0 a0_1 ((rd_T58 l1 x64_5).f0) ((rd_T58 l1 x64_5).f1)) = some (r1, r2) := H
                          have A70 := Aside0.mk A700
                          clear A700
                          have H' := Aside0.mk H
                          clear H
                          try go_wp2
                          have n0_ := Aside0.mk (blk_drew BK197.out)
                          have mb_ := Aside0.mk (map_drew MB.out)
                          have n1_ := Aside0.mk (blk_drew BK204.out)
                          have n2_ := Aside0.mk (below_drew1 HB.out)
                          clear BK197
                          clear BK204
                          clear HB
                          have BK197 := n0_
                          clear MB
                          have MB := mb_
                          clear mb_
                          have BK204 := n1_
                          have HB := n2_
                          clear n0_ n1_ n2_
                          refine start_ (n := 15) (S := fun w' => w'.cell? ⟨gb197, 0, none⟩ = some (.int .i64 a0_0) ∧ w'.cell? ⟨gb197, 1, none⟩ = some (.bool a0_1) ∧ w'.cell? ⟨gb204, 0, none⟩ = some (.int .i64 ((rd_T58 l1 x64_5).f0)) ∧ w'.cell? ⟨gb204, 1, none⟩ = some (.int .i64 ((rd_T58 l1 x64_5).f1))) (ds := []) #[false,false,false,false,false,false,false,false,false,false,false,false,false,false,false] (by kernel_rfl) rfl rfl ⟨(blk_cell BK197.out 0).trans rfl, (blk_cell BK197.out 1).trans rfl, (blk_cell BK204.out 0).trans rfl, (blk_cell BK204.out 1).trans rfl⟩ (fun hHeld => ?_); refine with_tabW impl_LeastSum.tab22 impl_LeastSum.bits22 (fun HT_ HW_ => ?_)
                          generalize wc.drew = w71 at MB BK197 BK204 HB hHeld ⊢
                          refine pure_ (i := 0) (N := some 95) (v := ?_) (a' := ?_) #[true,false,false,false,false,false,false,false,false,false,false,false,false,false,false] rfl rfl (any_of HT_.out (by kernel_rfl)) (fun _ _ _ h => h) (Or.inl ⟨by rfl, ?_⟩) ?_ ?_
                          rotate_left
                          ·intro w'
                           go_simp
                           with_reducible rfl
                          rotate_left
                          ·simp only [Act.put, List.setIfInBounds_toArray, List.set_cons_zero, List.set_cons_succ, i64_w, i32_w]
                           rfl
                          refine pure_ (i := 1) (N := some 96) (v := ?_) (a' := ?_) #[true,true,false,false,false,false,false,false,false,false,false,false,false,false,false] rfl rfl (any_of HT_.out (by kernel_rfl)) (fun _ _ _ h => h) (Or.inl ⟨by rfl, ?_⟩) ?_ ?_
                          rotate_left
                          ·intro w'
                           go_simp
                           with_reducible rfl
                          rotate_left
                          ·simp only [Act.put, List.setIfInBounds_toArray, List.set_cons_zero, List.set_cons_succ, i64_w, i32_w]
                           rfl
                          refine pure_ (i := 2) (N := some 97) (v := ?_) (a' := ?_) #[true,true,true,false,false,false,false,false,false,false,false,false,false,false,false] rfl rfl (any_of HT_.out (by kernel_rfl)) (fun _ _ _ h => h) (Or.inl ⟨by rfl, ?_⟩) ?_ ?_
                          rotate_left
                          ·intro w'
                           go_simp
                           with_reducible rfl
                          rotate_left
                          ·simp only [Act.put, List.setIfInBounds_toArray, List.set_cons_zero, List.set_cons_succ, i64_w, i32_w]
                           rfl
                          refine pure_ (i := 3) (N := some 98) (v := ?_) (a' := ?_) #[true,true,true,true,false,false,false,false,false,false,false,false,false,false,false] rfl rfl (any_of HT_.out (by kernel_rfl)) (fun _ _ _ h => h) (Or.inl ⟨by rfl, ?_⟩) ?_ ?_
                          rotate_left
                          ·intro w'
                           go_simp
                           with_reducible rfl
                          rotate_left
                          ·simp only [Act.put, List.setIfInBounds_toArray, List.set_cons_zero, List.set_cons_succ, i64_w, i32_w]
                           rfl
                          refine pure_ (i := 4) (N := some 99) (v := ?_) (a' := ?_) #[true,true,true,true,true,false,false,false,false,false,false,false,false,false,false] rfl rfl (any_of HT_.out (by kernel_rfl)) (fun _ _ _ h => h) (Or.inl ⟨by rfl, ?_⟩) ?_ ?_
                          rotate_left
                          ·intro w'
                           go_simp
                           with_reducible rfl
                          rotate_left
                          ·simp only [Act.put, List.setIfInBounds_toArray, List.set_cons_zero, List.set_cons_succ, i64_w, i32_w]
                           rfl
                          refine pure_ (i := 6) (N := some 101) (v := ?_) (a' := ?_) #[true,true,true,true,true,false,true,false,false,false,false,false,false,false,false] rfl rfl (any_of HT_.out (by kernel_rfl)) (fun _ _ _ h => h) (Or.inl ⟨by rfl, ?_⟩) ?_ ?_
                          rotate_left
                          ·intro w'
                           go_simp
                           with_reducible rfl
                          rotate_left
                          ·simp only [Act.put, List.setIfInBounds_toArray, List.set_cons_zero, List.set_cons_succ, i64_w, i32_w]
                           rfl
                          refine pure_ (i := 7) (N := some 102) (v := ?_) (a' := ?_) #[true,true,true,true,true,false,true,true,false,false,false,false,false,false,false] rfl rfl (any_of HT_.out (by kernel_rfl)) (fun _ _ _ h => h) (Or.inl ⟨by rfl, ?_⟩) ?_ ?_
                          rotate_left
                          ·intro w'
                           go_simp
                           with_reducible rfl
                          rotate_left
                          ·simp only [Act.put, List.setIfInBounds_toArray, List.set_cons_zero, List.set_cons_succ, i64_w, i32_w]
                           rfl
                          refine take_ (i := 5) (N := some 100) (v := ?_) (a' := ?_) #[true,true,true,true,true,true,true,true,false,false,false,false,false,false,false] rfl rfl (take_ofW HT_.out HW_.out (by kernel_rfl)) (fun _ _ _ h => h) (Or.inl ⟨by rfl, ?_⟩) hHeld ?_ ?_
                          rotate_left
                          ·rintro w' ⟨s0, s1, s2, s3⟩
                           go_simp
                           with_reducible rfl
                          rotate_left
                          ·simp only [Act.put, List.setIfInBounds_toArray, List.set_cons_zero, List.set_cons_succ, i64_w, i32_w]
                           rfl
                          refine take_ (i := 8) (N := some 103) (v := ?_) (a' := ?_) #[true,true,true,true,true,true,true,true,true,false,false,false,false,false,false] rfl rfl (take_ofW HT_.out HW_.out (by kernel_rfl)) (fun _ _ _ h => h) (Or.inl ⟨by rfl, ?_⟩) hHeld ?_ ?_
                          rotate_left
                          ·rintro w' ⟨s0, s1, s2, s3⟩
                           go_simp
                           with_reducible rfl
                          rotate_left
                          ·simp only [Act.put, List.setIfInBounds_toArray, List.set_cons_zero, List.set_cons_succ, i64_w, i32_w]
                           rfl
                          refine pure_ (i := 9) (N := some 104) (v := ?_) (a' := ?_) #[true,true,true,true,true,true,true,true,true,true,false,false,false,false,false] rfl rfl (any_of HT_.out (by kernel_rfl)) (fun _ _ _ h => h) (Or.inl ⟨by rfl, ?_⟩) ?_ ?_
                          rotate_left
                          ·intro w'
                           go_simp
                           with_reducible rfl
                          rotate_left
                          ·simp only [Act.put, List.setIfInBounds_toArray, List.set_cons_zero, List.set_cons_succ, i64_w, i32_w]
                           rfl
                          refine pure_ (i := 10) (N := some 105) (v := ?_) (a' := ?_) #[true,true,true,true,true,true,true,true,true,true,true,false,false,false,false] rfl rfl (any_of HT_.out (by kernel_rfl)) (fun _ _ _ h => h) (Or.inl ⟨by rfl, ?_⟩) ?_ ?_
                          rotate_left
                          ·intro w'
                           go_simp
                           with_reducible rfl
                          rotate_left
                          ·simp only [Act.put, List.setIfInBounds_toArray, List.set_cons_zero, List.set_cons_succ, i64_w, i32_w]
                           rfl
                          refine pure_ (i := 11) (N := some 106) (v := ?_) (a' := ?_) #[true,true,true,true,true,true,true,true,true,true,true,true,false,false,false] rfl rfl (any_of HT_.out (by kernel_rfl)) (fun _ _ _ h => h) (Or.inl ⟨by rfl, ?_⟩) ?_ ?_
                          rotate_left
                          ·intro w'
                           go_simp
                           with_reducible rfl
                          rotate_left
                          ·simp only [Act.put, List.setIfInBounds_toArray, List.set_cons_zero, List.set_cons_succ, i64_w, i32_w]
                           rfl
                          refine pure_ (i := 12) (N := some 107) (v := ?_) (a' := ?_) #[true,true,true,true,true,true,true,true,true,true,true,true,true,false,false] rfl rfl (any_of HT_.out (by kernel_rfl)) (fun _ _ _ h => h) (Or.inl ⟨by rfl, ?_⟩) ?_ ?_
                          rotate_left
                          ·intro w'
                           go_simp
                           with_reducible rfl
                          rotate_left
                          ·simp only [Act.put, List.setIfInBounds_toArray, List.set_cons_zero, List.set_cons_succ, i64_w, i32_w]
                           rfl
                          refine one_ (i := 13) (N := some 15) #[true,true,true,true,true,true,true,true,true,true,true,true,true,true,false] rfl rfl (one_of HT_.out (by kernel_rfl)) (by decide) (fun K hK => ?_)
                          refine box_step ?hg (N := 15) ?hd (cs := #[.int .i64 0, .int .i64 0]) (t := 76) ?hr ?_; (case hd => rfl); (case hg => rfl); (case hr => first | (go_simp; done) | (go_simp; rfl))
                          intro gb205 hg w72 hbox hb
                          have n0_ := Aside0.mk (blk_below (g := gb197) (o := .cells #[.int .i64 a0_0, .bool a0_1] 27 (0, 0)) (by (with_reducible repeat (first | refine blk_drewN ?_ _ | refine blk_drew ?_ | refine blk_alloc ?_ _)); exact BK197.out) hb)
                          have mb_ := Aside0.mk (map_below (g := gm) (m := x6_6) (by (with_reducible repeat (first | refine map_drewN ?_ _ | refine map_drew ?_ | refine map_alloc ?_ _)); exact MB.out) hb)
                          have n1_ := Aside0.mk (blk_below (g := gb204) (o := .cells #[.int .i64 ((rd_T58 l1 x64_5).f0), .int .i64 ((rd_T58 l1 x64_5).f1)] 58 (0, 0)) (by (with_reducible repeat (first | refine blk_drewN ?_ _ | refine blk_drew ?_ | refine blk_alloc ?_ _)); exact BK204.out) hb)
                          have n2_ := Aside0.mk (below_step (by repeat (first | (with_reducible first | exact HB.out | apply below_alloc | apply pw_below_drewN | apply below_drew1 | refine below_set ?_ GE197.out | refine below_set ?_ GE204.out) | exact HB.out)) hb)
                          have n3_ := Aside0.mk (hbox)
                          have n4_ := Aside0.mk ((by rw [hg]; exact (below_size (by repeat (first | (with_reducible first | exact HB.out | apply below_alloc | apply pw_below_drewN | apply below_drew1 | refine below_set ?_ GE197.out | refine below_set ?_ GE204.out) | exact HB.out))) : w.heap.size ≤ gb205))
                          have n5_ := Aside0.mk ((by rw [hg]; exact (below_size (by repeat (first | (with_reducible first | exact HB.out | apply below_alloc | apply pw_below_drewN | apply below_drew1 | refine below_set ?_ GE197.out | refine below_set ?_ GE204.out) | exact HB.out))) : w.heap.size ≤ gb205))
                          have n6_ := Aside0.mk ((by rw [hg]; exact Nat.ne_of_lt (blk_lt (g := gb197) (o := .cells #[.int .i64 a0_0, .bool a0_1] 27 (0, 0)) (by (with_reducible repeat (first | refine blk_drewN ?_ _ | refine blk_drew ?_ | refine blk_alloc ?_ _)); exact BK197.out)) : gb197 ≠ gb205))
                          have nm_ := Aside0.mk ((by rw [hg]; exact Nat.ne_of_lt (map_lt (g := gm) (m := x6_6) (by (with_reducible repeat (first | refine map_drewN ?_ _ | refine map_drew ?_ | refine map_alloc ?_ _)); exact MB.out))) : gm ≠ gb205)
                          have n7_ := Aside0.mk ((by rw [hg]; exact Nat.ne_of_gt (blk_lt (g := gb197) (o := .cells #[.int .i64 a0_0, .bool a0_1] 27 (0, 0)) (by (with_reducible repeat (first | refine blk_drewN ?_ _ | refine blk_drew ?_ | refine blk_alloc ?_ _)); exact BK197.out)) : gb205 ≠ gb197))
                          have n8_ := Aside0.mk ((by rw [hg]; exact Nat.ne_of_lt (blk_lt (g := gb204) (o := .cells #[.int .i64 ((rd_T58 l1 x64_5).f0), .int .i64 ((rd_T58 l1 x64_5).f1)] 58 (0, 0)) (by (with_reducible repeat (first | refine blk_drewN ?_ _ | refine blk_drew ?_ | refine blk_alloc ?_ _)); exact BK204.out)) : gb204 ≠ gb205))
                          have n9_ := Aside0.mk ((by rw [hg]; exact Nat.ne_of_gt (blk_lt (g := gb204) (o := .cells #[.int .i64 ((rd_T58 l1 x64_5).f0), .int .i64 ((rd_T58 l1 x64_5).f1)] 58 (0, 0)) (by (with_reducible repeat (first | refine blk_drewN ?_ _ | refine blk_drew ?_ | refine blk_alloc ?_ _)); exact BK204.out)) : gb205 ≠ gb204))
                          clear BK197
                          clear BK204
                          clear HB
                          have BK197 := n0_
                          clear MB
                          have MB := mb_
                          clear mb_
                          have BK204 := n1_
                          have HB := n2_
                          have BK205 := n3_
                          have GW205 := n4_
                          have GE205 := n5_
                          have NB197_205 := n6_
                          have NM_205 := nm_
                          clear nm_
                          have NB205_197 := n7_
                          have NB204_205 := n8_
                          have NB205_204 := n9_
                          clear n0_ n1_ n2_ n3_ n4_ n5_ n6_ n7_ n8_ n9_
                          clear hb hbox hg
                          refine hK.out _ _ ⟨(blk_cell BK197.out 0).trans rfl, (blk_cell BK197.out 1).trans rfl, (blk_cell BK204.out 0).trans rfl, (blk_cell BK204.out 1).trans rfl⟩ (fun hHeld => ?_)
                          clear hK K
                          refine norm_ (a' := ?_) ?_ ?_
                          rotate_left
                          ·show Act.put _ (some 15) _ = _
                           simp only [Act.put, List.setIfInBounds_toArray, List.set_cons_zero, List.set_cons_succ, i64_w, i32_w]
                           rfl
                          refine one_ (i := 14) (N := none) #[true,true,true,true,true,true,true,true,true,true,true,true,true,true,true] rfl rfl (one_of HT_.out (by kernel_rfl)) (by decide) (fun K hK => ?_)
                          have hs73 : w72.cell? ⟨gb205, 0, none⟩ = some (.int .i64 0) := (blk_cell BK205.out 0).trans rfl
                          have hfs73 := blk_frozen BK205.out 0
                          have hns73_0 := NB197_205.out
                          have hns73_1 := NB204_205.out
                          have hms73_0 := NB205_197.out
                          have hms73_1 := NB205_204.out
                          have hs74 : w72.cell? ⟨gb205, 1, none⟩ = some (.int .i64 0) := (blk_cell BK205.out 1).trans rfl
                          have hfs74 := blk_frozen BK205.out 1
                          have hns74_0 := NB197_205.out
                          have hns74_1 := NB204_205.out
                          have hms74_0 := NB205_197.out
                          have hms74_1 := NB205_204.out
                          refine skip_ (w1 := ?_) (by rfl) rfl ?_ ?_
                          rotate_left
                          ·go_simp
                           rfl
                          refine hK.out _ _ ⟨((cell_far (p := ⟨gb205, _, none⟩) NB197_205.out _).trans (((cell_far (p := ⟨gb205, _, none⟩) NB197_205.out _).trans (hHeld.1)))), ((cell_far (p := ⟨gb205, _, none⟩) NB197_205.out _).trans (((cell_far (p := ⟨gb205, _, none⟩) NB197_205.out _).trans (hHeld.2.1)))), ((cell_far (p := ⟨gb205, _, none⟩) NB204_205.out _).trans (((cell_far (p := ⟨gb205, _, none⟩) NB204_205.out _).trans (hHeld.2.2.1)))), ((cell_far (p := ⟨gb205, _, none⟩) NB204_205.out _).trans (((cell_far (p := ⟨gb205, _, none⟩) NB204_205.out _).trans (hHeld.2.2.2))))⟩ (fun hHeld => ?_)
                          clear hK K
                          refine done_ (done_of HT_.out (by kernel_rfl)) ?_
                          have hnb75 := NB197_204.out
                          have hnc75 := NB204_197.out
                          have hnb76 := NB197_205.out
                          have hnc76 := NB205_197.out
                          have hcz77_0 : w72.cell? ⟨gb197, 0, none⟩ = some (.int .i64 a0_0) := (blk_cell BK197.out 0).trans rfl
                          have hcz77_1 : w72.cell? ⟨gb197, 1, none⟩ = some (.bool a0_1) := (blk_cell BK197.out 1).trans rfl
                          have hfz77_0 := blk_frozen BK197.out 0
                          have hfz77_1 := blk_frozen BK197.out 1
                          have hnb78 := NB204_205.out
                          have hnc78 := NB205_204.out
                          have hcz79_0 : w72.cell? ⟨gb204, 0, none⟩ = some (.int .i64 ((rd_T58 l1 x64_5).f0)) := (blk_cell BK204.out 0).trans rfl
                          have hcz79_1 : w72.cell? ⟨gb204, 1, none⟩ = some (.int .i64 ((rd_T58 l1 x64_5).f1)) := (blk_cell BK204.out 1).trans rfl
                          have hfz79_0 := blk_frozen BK204.out 0
                          have hfz79_1 := blk_frozen BK204.out 1
                          try go_wp2_with (first | ((with_reducible refine gate_callee (f := 57) rfl ?_); refine goesL_ (some 113) rfl rfl Try.func57 (by kernel_rfl) rfl #[.agg #[.int .i64 a0_0, .bool a0_1], .int .i64 ((rd_T58 l1 x64_5).f0), .int .i64 x71_6] rfl (by (try simp only [List.map_toArray, List.map_cons, List.map_nil]); first | done | rfl | (simp only [List.length_drop, List.length_take]; rfl)) ?_; (with_reducible refine (impl_Road_gap.calls a0_0 a0_1 ((rd_T58 l1 x64_5).f0) x71_6 t206 _ A43.out).mono ?_); rintro e w80 ⟨rfl, hb⟩; refine ⟨_, rfl, ?_⟩; have n0_ := Aside0.mk (blk_below (g := gb197) (o := .cells #[.int .i64 a0_0, .bool a0_1] 27 (0, 0)) (by (with_reducible repeat (first | refine blk_drewN ?_ _ | refine blk_drew ?_ | refine blk_alloc ?_ _)); refine blk_far ?_ NB197_205.out _; (with_reducible repeat (first | refine blk_drewN ?_ _ | refine blk_drew ?_ | refine blk_alloc ?_ _)); refine blk_far ?_ NB197_205.out _; (with_reducible repeat (first | refine blk_drewN ?_ _ | refine blk_drew ?_ | refine blk_alloc ?_ _)); exact BK197.out) hb); have mb_ := Aside0.mk (map_below (g := gm) (m := x6_6) (by (with_reducible repeat (first | refine map_drewN ?_ _ | refine map_drew ?_ | refine map_alloc ?_ _)); refine map_far ?_ NM_205.out _; (with_reducible repeat (first | refine map_drewN ?_ _ | refine map_drew ?_ | refine map_alloc ?_ _)); refine map_far ?_ NM_205.out _; (with_reducible repeat (first | refine map_drewN ?_ _ | refine map_drew ?_ | refine map_alloc ?_ _)); exact MB.out) hb); have n1_ := Aside0.mk (blk_below (g := gb204) (o := .cells #[.int .i64 ((rd_T58 l1 x64_5).f0), .int .i64 ((rd_T58 l1 x64_5).f1)] 58 (0, 0)) (by (with_reducible repeat (first | refine blk_drewN ?_ _ | refine blk_drew ?_ | refine blk_alloc ?_ _)); refine blk_far ?_ NB204_205.out _; (with_reducible repeat (first | refine blk_drewN ?_ _ | refine blk_drew ?_ | refine blk_alloc ?_ _)); refine blk_far ?_ NB204_205.out _; (with_reducible repeat (first | refine blk_drewN ?_ _ | refine blk_drew ?_ | refine blk_alloc ?_ _)); exact BK204.out) hb); have n2_ := Aside0.mk (blk_below (g := gb205) (o := .cells #[.int .i64 (Go.bits .or .i64 x29_1 (ji41)), .int .i64 ji42] 76 (0, 0)) (by (with_reducible repeat (first | refine blk_drewN ?_ _ | refine blk_drew ?_ | refine blk_alloc ?_ _)); refine blk_put (cs := #[.int .i64 (Go.bits .or .i64 x29_1 (ji41)), .int .i64 0]) ?_ 1 _ rfl; (with_reducible repeat (first | refine blk_drewN ?_ _ | refine blk_drew ?_ | refine blk_alloc ?_ _)); refine blk_put (cs := #[.int .i64 0, .int .i64 0]) ?_ 0 _ rfl; (with_reducible repeat (first | refine blk_drewN ?_ _ | refine blk_drew ?_ | refine blk_alloc ?_ _)); exact BK205.out) hb); have n3_ := Aside0.mk (below_step (by repeat (first | (with_reducible first | exact HB.out | apply below_alloc | apply pw_below_drewN | apply below_drew1 | refine below_set ?_ GE197.out | refine below_set ?_ GE204.out | refine below_set ?_ GE205.out) | exact HB.out)) hb); clear BK197; clear BK204; clear BK205; clear HB; have BK197 := n0_; clear MB; have MB := mb_; clear mb_; have BK204 := n1_; have BK205 := n2_; have HB := n3_; clear n0_ n1_ n2_ n3_; (try clear hb); (try clear hb2); (try clear hk); (try clear hi); have hcz81_0 : w80.cell? ⟨gb205, 0, none⟩ = some (.int .i64 (Go.bits .or .i64 x29_1 (ji41))) := (blk_cell BK205.out 0).trans rfl; have hcz81_1 : w80.cell? ⟨gb205, 1, none⟩ = some (.int .i64 ji42) := (blk_cell BK205.out 1).trans rfl; have hfz81_0 := blk_frozen BK205.out 0; have hfz81_1 := blk_frozen BK205.out 1) | ((with_reducible refine gate_dst (N := 118) rfl ?_); refine map_get rfl (.tmp 116) (.tmp 117) rfl gm x6_6 (Go.bits .or .i64 x29_1 (ji41)) ji42 t207 false (by rfl) (by first | rfl | (simp only [hji41, hji42]; rfl)) (by (with_reducible repeat (first | refine map_drewN ?_ _ | refine map_drew ?_ | refine map_alloc ?_ _)); exact MB.out) A44.out ?_) | (at_mapUpdate; refine map_put rfl (.tmp 128) (.tmp 129) (.tmp 130) (.inl rfl) rfl gm x6_6 t210 (Go.bits .or .i64 x29_1 (ji41)) ji42 (wrap64 (t201 + t206)) (by rfl) (by first | rfl | (simp only [hji41, hji42]; rfl)) (by first | rfl | (simp only [hji41, hji42]; rfl)) (by (with_reducible repeat (first | refine map_drewN ?_ _ | refine map_drew ?_ | refine map_alloc ?_ _)); exact MB.out) A70.out ?_; intro wp hM hgr; have q0_ := Aside0.mk hM; have q1_ := Aside0.mk (below_put (by repeat (first | (with_reducible first | exact HB.out | apply below_alloc | apply pw_below_drewN | apply below_drew1 | refine below_set ?_ GE197.out | refine below_set ?_ GE204.out | refine below_set ?_ GE205.out) | exact HB.out)) hgr GM.out); have r0_ := Aside0.mk (blk_grown (o := (.cells #[.int .i64 a0_0, .bool a0_1] 27 (0, 0))) (by (with_reducible repeat (first | refine blk_drewN ?_ _ | refine blk_drew ?_ | refine blk_alloc ?_ _)); exact BK197.out) hgr (fun e_ => NG197.out (Option.some.inj e_))); have r1_ := Aside0.mk (blk_grown (o := (.cells #[.int .i64 ((rd_T58 l1 x64_5).f0), .int .i64 ((rd_T58 l1 x64_5).f1)] 58 (0, 0))) (by (with_reducible repeat (first | refine blk_drewN ?_ _ | refine blk_drew ?_ | refine blk_alloc ?_ _)); exact BK204.out) hgr (fun e_ => NGM.out (Option.some.inj e_))); clear MB; clear HB; clear BK197; clear BK204; have MB := q0_; have HB := q1_; have BK197 := r0_; have BK204 := r1_; clear q0_ q1_ r0_ r1_; clear hM hgr))
                          go_roundg kj29
                          case measure => have := HK1.out; have := HK2.out; have := HJ13.out; have := HJ19.out; have := HK5.out; have := HK6.out; have := HJ29.out; omega
                          case rel => exact ⟨(t210), (wrap64 (x71_6 + 1)), (by first | rfl | (simp; done) | (simp [*]; done)), H', ⟨by have := HK1.out; have := HK2.out; have := HJ13.out; have := HJ19.out; have := HK5.out; have := HK6.out; have := HJ29.out; omega⟩, ⟨by (with_reducible repeat (first | refine map_drewN ?_ _ | refine map_drew ?_ | refine map_alloc ?_ _)); exact MB.out⟩, ⟨by (with_reducible repeat (first | refine blk_drewN ?_ _ | refine blk_drew ?_ | refine blk_alloc ?_ _)); exact BK197.out⟩, ⟨by (with_reducible repeat (first | refine blk_drewN ?_ _ | refine blk_drew ?_ | refine blk_alloc ?_ _)); exact BK204.out⟩, ⟨by repeat (first | (with_reducible first | exact HB.out | apply below_alloc | apply pw_below_drewN | apply below_drew1 | refine below_set ?_ GE197.out | refine below_set ?_ GE204.out | refine below_set ?_ GE205.out) | exact HB.out)⟩⟩
                        ·rw [if_neg c40] at H
                         exact absurd H (by simp)
                    ·rw [if_neg c29] at H
                     have c29b0 : decide (x71_6 < a0_0) = false := decide_eq_false c29
                     clear c29
                     have H' := Aside0.mk H
                     clear H
                     go_wp2
                     go_roundg k6
                     case measure => have := HK1.out; have := HK2.out; have := HJ13.out; have := HJ19.out; have := HK5.out; have := HK6.out; omega
                     case rel => exact ⟨(x6_6), (wrap64 (x64_5 + 1)), (by first | rfl | (simp; done) | (simp [*]; done)), H', ⟨by have := HK1.out; have := HK2.out; have := HJ13.out; have := HJ19.out; have := HK5.out; have := HK6.out; omega⟩, ⟨by (with_reducible repeat (first | refine map_drewN ?_ _ | refine map_drew ?_ | refine map_alloc ?_ _)); exact MB.out⟩, ⟨by (with_reducible repeat (first | refine blk_drewN ?_ _ | refine blk_drew ?_ | refine blk_alloc ?_ _)); exact BK197.out⟩, ⟨by repeat (first | (with_reducible first | exact HB.out | apply below_alloc | apply pw_below_drewN | apply below_drew1 | refine below_set ?_ GE197.out | refine below_set ?_ GE204.out) | exact HB.out)⟩⟩
                 ·rw [if_neg c24] at H
                  exact absurd H (by simp)
                ·rw [if_neg c23] at H
                 exact absurd H (by simp)
               ·rw [if_neg c22] at H
                have c22b0 : decide (x64_5 < (l1.length : Int)) = false := decide_eq_false c22
                clear c22
                have H' := Aside0.mk H
                clear H
                go_wp2
                go_roundg k5
                case measure => have := HK1.out; have := HK2.out; have := HJ13.out; have := HJ19.out; have := HK5.out; omega
                case rel => exact ⟨(x6_5), (x7_19), (wrap64 (x35_2 + 1)), (by first | rfl | (simp; done) | (simp [*]; done)), (by first | rfl | (simp; done) | (simp [*]; done)), H', ⟨by have := HK1.out; have := HK2.out; have := HJ13.out; have := HJ19.out; have := HK5.out; omega⟩, ⟨by (with_reducible repeat (first | refine map_drewN ?_ _ | refine map_drew ?_ | refine map_alloc ?_ _)); exact MB.out⟩, ⟨by (with_reducible repeat (first | refine blk_drewN ?_ _ | refine blk_drew ?_ | refine blk_alloc ?_ _)); exact BK197.out⟩, ⟨by repeat (first | (with_reducible first | exact HB.out | apply below_alloc | apply pw_below_drewN | apply below_drew1 | refine below_set ?_ GE197.out) | exact HB.out)⟩⟩
        ·replace c13 := Bool.eq_false_iff.mpr c13
         subst c13
         have H1 : (impl_LeastSum.l1 k2 l1 x6_2 x7_2 x29_1 ji5 x29_1 (wrap64 (a0_0 + 1)) (wrap64 (x35_2 + 1)) a0_0 a0_1) = some (r1, r2) := by rw [if_neg (show ¬ (false = true) by decide)] at H; exact H
         clear H
         have H := H1
         clear H1
         have H' := Aside0.mk H
         clear H
         go_wp2_with (first | ((with_reducible refine gate_dst (N := 43) rfl ?_); refine map_get rfl (.tmp 39) (.tmp 42) rfl gm x6_2 x29_1 x35_2 t201 false (by rfl) (by first | rfl | (simp only [List.length_drop, List.length_take]; rfl)) (by (with_reducible repeat (first | refine map_drewN ?_ _ | refine map_drew ?_ | refine map_alloc ?_ _)); exact MB.out) A12.out ?_))
         go_roundg k2
         case measure => have := HK1.out; have := HK2.out; omega
         case rel => exact ⟨(x6_2), (x7_2), (wrap64 (x35_2 + 1)), (by first | rfl | (simp; done) | (simp [*]; done)), (by first | rfl | (simp; done) | (simp [*]; done)), H', ⟨by have := HK1.out; have := HK2.out; omega⟩, ⟨by (with_reducible repeat (first | refine map_drewN ?_ _ | refine map_drew ?_ | refine map_alloc ?_ _)); exact MB.out⟩, ⟨by (with_reducible repeat (first | refine blk_drewN ?_ _ | refine blk_drew ?_ | refine blk_alloc ?_ _)); exact BK197.out⟩, ⟨by repeat (first | (with_reducible first | exact HB.out | apply below_alloc | apply pw_below_drewN | apply below_drew1 | refine below_set ?_ GE197.out) | exact HB.out)⟩⟩
       ·rw [if_neg c11] at H
        have c11b0 : decide (x35_2 < (wrap64 (a0_0 + 1))) = false := decide_eq_false c11
        clear c11
        have H' := Aside0.mk H
        clear H
        go_wp2
        go_roundg k2
        case measure => have := HK1.out; have := HK2.out; omega
        case rel => exact ⟨(x6_2), (x7_2), (wrap64 (x29_1 + 1)), (by first | rfl | (simp; done) | (simp [*]; done)), (by first | rfl | (simp; done) | (simp [*]; done)), H', ⟨by have := HK1.out; have := HK2.out; omega⟩, ⟨by (with_reducible repeat (first | refine map_drewN ?_ _ | refine map_drew ?_ | refine map_alloc ?_ _)); exact MB.out⟩, ⟨by (with_reducible repeat (first | refine blk_drewN ?_ _ | refine blk_drew ?_ | refine blk_alloc ?_ _)); exact BK197.out⟩, ⟨by repeat (first | (with_reducible first | exact HB.out | apply below_alloc | apply pw_below_drewN | apply below_drew1 | refine below_set ?_ GE197.out) | exact HB.out)⟩⟩
    ·rw [if_neg c9] at H
     have c9b0 : decide (x29_1 < ji5) = false := decide_eq_false c9
     clear c9
     replace H := Option.bind_eq_some_iff.mp H
     obtain ⟨⟨t199, t200⟩, A820, H⟩ := H
     replace H : (some (t199, t200)) = some (r1, r2) := H
     have A82 := Aside0.mk A820
     clear A820
     simp only [Option.some.injEq, Prod.mk.injEq] at H
     obtain ⟨rfl, rfl⟩ := H
     go_wp2_with (first | ((with_reducible refine gate_callee (f := 60) rfl ?_); refine goesL_ (some 136) rfl rfl Try.func60 (by kernel_rfl) rfl #[.int .i64 x7_1] rfl (by (try simp only [List.map_toArray, List.map_cons, List.map_nil]); first | done | rfl | (simp only [List.length_drop, List.length_take]; rfl)) ?_; (with_reducible refine (impl_found.calls x7_1 t199 t200 _ A82.out).mono ?_); rintro e w83 ⟨rfl, hb⟩; refine ⟨_, rfl, ?_⟩; have n0_ := Aside0.mk (blk_below (g := gb197) (o := .cells #[.int .i64 a0_0, .bool a0_1] 27 (0, 0)) (by (with_reducible repeat (first | refine blk_drewN ?_ _ | refine blk_drew ?_ | refine blk_alloc ?_ _)); exact BK197.out) hb); have mb_ := Aside0.mk (map_below (g := gm) (m := x6_1) (by (with_reducible repeat (first | refine map_drewN ?_ _ | refine map_drew ?_ | refine map_alloc ?_ _)); exact MB.out) hb); have n1_ := Aside0.mk (below_step (by repeat (first | (with_reducible first | exact HB.out | apply below_alloc | apply pw_below_drewN | apply below_drew1 | refine below_set ?_ GE197.out) | exact HB.out)) hb); clear BK197; clear HB; have BK197 := n0_; clear MB; have MB := mb_; clear mb_; have HB := n1_; clear n0_ n1_; (try clear hb); (try clear hb2); (try clear hk); (try clear hi)))
     go_ret2
     exact ⟨by first | rfl | (simp [errW_none, errW_some] <;> rfl) | (simp only [← hji5]; first | rfl | (simp [errW_none, errW_some] <;> rfl)) | (simp [*, errW_none, errW_some] <;> rfl), by repeat (first | (with_reducible first | exact HB.out | apply below_alloc | apply pw_below_drewN | apply below_drew1 | refine below_set ?_ GE197.out) | exact HB.out)⟩
 ·replace c4 := Bool.eq_false_iff.mpr c4
  subst c4
  have H1 : (some (0, false)) = some (r1, r2) := by rw [if_neg (show ¬ (false = true) by decide)] at H; exact H
  clear H
  have H := H1
  clear H1
  simp only [Option.some.injEq, Prod.mk.injEq] at H
  obtain ⟨rfl, rfl⟩ := H
  go_enter Try.func29, Try.ntmps29
  go_wp2_with (first | ((with_reducible refine gate_dst (N := 2) rfl ?_); refine box_event ?hg (N := 2) ?hd (cs := #[.int .i64 a0_0, .bool a0_1]) (t := 27) ?hr ?_; (case hd => rfl); (case hg => rfl); (case hr => first | (go_simp; done) | (go_simp; rfl)); intro gb197 hg w84 hbox hb; have n0_ := Aside0.mk (below_step (by repeat (first | (with_reducible first | exact HB.out | apply below_alloc | apply pw_below_drewN | apply below_drew1) | exact HB.out)) hb); have n1_ := Aside0.mk (hbox); have n2_ := Aside0.mk ((by rw [hg]; exact (below_size (by repeat (first | (with_reducible first | exact HB.out | apply below_alloc | apply pw_below_drewN | apply below_drew1) | exact HB.out))) : w.heap.size ≤ gb197)); have n3_ := Aside0.mk ((by rw [hg]; exact (below_size (by repeat (first | (with_reducible first | exact HB.out | apply below_alloc | apply pw_below_drewN | apply below_drew1) | exact HB.out))) : w.heap.size ≤ gb197)); clear HB; have HB := n0_; have BK197 := n1_; have GW197 := n2_; have GE197 := n3_; clear n0_ n1_ n2_ n3_; clear hb hbox hg; have hcz85_0 : w84.cell? ⟨gb197, 0, none⟩ = some (.int .i64 a0_0) := (blk_cell BK197.out 0).trans rfl; have hcz85_1 : w84.cell? ⟨gb197, 1, none⟩ = some (.bool a0_1) := (blk_cell BK197.out 1).trans rfl; have hfz85_0 := blk_frozen BK197.out 0; have hfz85_1 := blk_frozen BK197.out 1) | ((with_reducible refine gate_callee (f := 50) rfl ?_); refine goesL_ (some 21) rfl rfl Try.func50 (by kernel_rfl) rfl #[.agg #[.int .i64 a0_0, .bool a0_1], .slice A1 l1.length c1] rfl (by (try simp only [List.map_toArray, List.map_cons, List.map_nil]); first | done | rfl | (simp only [List.length_drop, List.length_take]; rfl)) ?_; (with_reducible refine (impl_isGuarded.calls k a0_0 a0_1 _ _ l1 false _ ?side1 ?side2 A3.out).mono ?_); (case side1 => repeat (first | exact (Kd.C_below HR1.out HB.out) | (with_reducible refine Kd.C_alloc ?_ _) | (with_reducible refine Kd.C_drewN ?_ _) | (with_reducible refine Kd.C_drew ?_))); (case side2 => exact HC1.out); rintro e w86 ⟨rfl, hb⟩; refine ⟨_, rfl, ?_⟩; have n0_ := Aside0.mk (blk_below (g := gb197) (o := .cells #[.int .i64 a0_0, .bool a0_1] 27 (0, 0)) (by (with_reducible repeat (first | refine blk_drewN ?_ _ | refine blk_drew ?_ | refine blk_alloc ?_ _)); exact BK197.out) hb); have n1_ := Aside0.mk (below_step (by repeat (first | (with_reducible first | exact HB.out | apply below_alloc | apply pw_below_drewN | apply below_drew1 | refine below_set ?_ GE197.out) | exact HB.out)) hb); clear BK197; clear HB; have BK197 := n0_; have HB := n1_; clear n0_ n1_; (try clear hb); (try clear hb2); (try clear hk); (try clear hi)))
  go_ret2
  exact ⟨by first | rfl | (simp [errW_none, errW_some] <;> rfl) | (simp [*, errW_none, errW_some] <;> rfl), by repeat (first | (with_reducible first | exact HB.out | apply below_alloc | apply pw_below_drewN | apply below_drew1 | refine below_set ?_ GE197.out) | exact HB.out)⟩

end Go.Proofs.Ytanfamfgdgcjpaa.QFnExactLeastSum
