/- The row of the law FnExactBeadsAt, out of its left statement (proved beside it) and the walk of its function. No condition. -/
import Derived.Test.YtciihopkgblpkaaRows
import Derived.Test.YtciihopkgblpkaaQFnExactBeadsAtx11
import Derived.Test.YtciihopkgblpkaaPureFnExactBeadsAt
import Derived.Test.YtciihopkgblpkaaRowAid
import Derived.WalkKit
import Derived.ProofKit
import Derived.OpenShut
import Derived.ShutString
import Derived.ChangeOld
import Derived.Below
import Derived.SizedLaws
import Derived.Lib.SmallJoins
namespace Go.Proofs.Ytciihopkgblpkaa.fnExactBeadsAt
open Go.ChangeShapes Go.WideShapes Go.ChangeAt Go.RowKit Go.Proofs.YtciihopkgblpkaaW.PrintWords
set_option linter.unusedVariables false
theorem own : ownKnob Try.prog.godebug = none := by kernel_rfl
theorem laidOut : laidOutB Try.prog = true := by kernel_rfl
set_option maxHeartbeats 2000000 in
set_option maxRecDepth 100000 in
theorem lifted (os : Os) (started : os.Started) (H : Type) (enc : TypeId × Value → H) :
    ReturnsInHanded {} Try.checked os 9 .any (Rows.fnExactBeadsAtSpec.pre6 enc Try.prog Try.f9 Rows.fnExactBeadsAtRow.domain false) (Rows.fnExactBeadsAtSpec.post enc Try.prog Try.f9 false true false false) := by
  refine returnsInHanded_of_change_sized (C := Try.checked) own started (by kernel_rfl) Try.func9
    (ChangeSpec.witness6 (enc := enc) (C := Try.checked) false ⟨#[], #[.agg #[.int .i64 0, .slice none 0 0, .slice none 0 0], .int .i64 0], []⟩ 8 (by kernel_rfl) (by kernel_rfl) (by kernel_rfl) (by kernel_rfl)) ?_
  intro W base args ds gs before hval0 hW hcnd hsz0 _
  have hval : ∀ (j : Nat) t v, Try.f9.params[j]? = some t → args[j]? = some v → Value.okWide Try.prog W .any base t v := hval0
  have hW' := hW
  obtain ⟨p, q, hA0, hV, rfl, hfz, hnd⟩ := hW
  have hA : DataW.TrodAll enc Try.prog W 0 (fun _ => true) true Try.f9.params.toList args.toList ds p := hA0
  rw [Try.params9] at hA hval
  obtain ⟨v0, vs0, d0, ds0, p0, q0, hargs, rfl, rfl, h0, r0⟩ := trodAll_cons hA
  obtain ⟨v1, vs1, d1, ds1, p1, q1, rfl, rfl, rfl, h1, r1⟩ := trodAll_cons r0
  obtain ⟨rfl, rfl, rfl⟩ := trodAll_nil r1
  obtain rfl : args = #[v0, v1] := by cases args; simp_all
  obtain ⟨rfl, rfl⟩ := trodVars_none hV
  have k0 := h0
  have lt0 : ∀ x ∈ p0, x.block < W.heap.size := by obtain ⟨m, hm⟩ := k0; exact DataW.trod_lt m _ _ _ hm
  obtain ⟨v0_0, v0_1, v0_2, y0_0, y0_1, y0_2, n0, e0, _, _, t0_0, t0_1, t0_2⟩ := Go.Joins.open_agg3 Try.underlying24 (by kernel_rfl) (by kernel_rfl) (hval 0 24 v0 rfl rfl) h0
  subst e0
  obtain ⟨a0_0, e0_0, w0_0⟩ := RowAid.field_int Try.underlying3 t0_0
  subst e0_0
  obtain ⟨A0_1, c0_1, l0_1, e0_1, hc0_1, hr0_1, hm0_1, hw0_1⟩ := RowAid.field_ints Try.underlying22 Try.underlying3 (by kernel_rfl) t0_1
  subst e0_1
  obtain ⟨A0_2, c0_2, l0_2, e0_2, hc0_2, hr0_2, hm0_2, hw0_2⟩ := RowAid.field_ints Try.underlying22 Try.underlying3 (by kernel_rfl) t0_2
  subst e0_2
  have k1 := h1
  have lt1 : ∀ x ∈ p1, x.block < W.heap.size := by obtain ⟨m, hm⟩ := k1; exact DataW.trod_lt m _ _ _ hm
  obtain ⟨a1, rfl, _, _, w1⟩ := open_int Try.underlying3 (hval 1 3 v1 rfl rfl) h1
  clear hA0 hval0 hsz0
  obtain ⟨k, hk⟩ := Pure.FnExactBeadsAt a0_0 l0_1 l0_2 a1 w0_0 hm0_1 hw0_1 hm0_2 hw0_2 w1
  refine (QFnExactBeadsAt.laws_FnExactBeadsAt.calls (k := k) (r := true) (w := W) (a0_0 := a0_0) (A0_1 := A0_1) (c0_1 := c0_1) (l0_1 := l0_1) (hr0_1 := hr0_1) (hc0_1 := hc0_1) (A0_2 := A0_2) (c0_2 := c0_2) (l0_2 := l0_2) (hr0_2 := hr0_2) (hc0_2 := hc0_2) (a1 := a1) (h := hk)).mono fun e W' ⟨he, bel⟩ => ?_
  subst he
  exact ⟨_, rfl, _, _, _, [], _, [], hW', trodAll_mk1 (shut_bool Try.underlying4 _), (trodAll_cons_mk (Below.trod laidOut (by kernel_rfl) (of_decide_eq_true (by kernel_rfl)) k0 bel lt0) (trodAll_cons_mk (Below.trod laidOut (by kernel_rfl) (of_decide_eq_true (by kernel_rfl)) k1 bel lt1) trodAll_mk0)), rfl, bel.frame _, fun h => by cases h⟩
theorem over : Rows.fnExactBeadsAtRow.holds Try.pinned (OpenSpec.ofChange Rows.fnExactBeadsAtSpec) :=
  OpenClaim.holds_of_wide 9 Try.f9 rfl rfl rfl rfl rfl rfl rfl ⟨rfl, rfl, rfl, rfl, rfl⟩ rfl rfl rfl rfl rfl (by kernel_rfl) Try.func9 (by kernel_rfl)
    (of_decide_eq_true (by kernel_rfl)) (by unfold Func.isWrapper; first | (rw [if_pos (by decide +kernel)]; kernel_rfl) | (rw [if_neg (by decide +kernel)]; exact ⟨rfl, rfl⟩))
    (fun os started H enc _ => lifted os started H enc)
theorem proved : Rows.FnExactBeadsAtSaid := over
#print axioms proved
end Go.Proofs.Ytciihopkgblpkaa.fnExactBeadsAt
namespace Go.Proofs.Ytciihopkgblpkaa
/-- The row, under a short name, for the claim. -/
theorem fnExactBeadsAt_holds : Rows.FnExactBeadsAtSaid := fnExactBeadsAt.proved
end Go.Proofs.Ytciihopkgblpkaa
