/- The row of the law FnExactAreSameForm, out of its left statement (proved beside it) and the walk of its function. No condition. -/
import Derived.Test.YtjmpanikfomgeaaRows
import Derived.Test.YtjmpanikfomgeaaQFnExactAreSameFormx10
import Derived.Test.YtjmpanikfomgeaaPureFnExactAreSameForm
import Derived.Test.YtjmpanikfomgeaaRowAid
import Derived.WalkKit
import Derived.ProofKit
import Derived.OpenShut
import Derived.ShutString
import Derived.ChangeOld
import Derived.Below
import Derived.SizedLaws
import Derived.Lib.SmallJoins
namespace Go.Proofs.Ytjmpanikfomgeaa.fnExactAreSameForm
open Go.ChangeShapes Go.WideShapes Go.ChangeAt Go.RowKit Go.Proofs.YtjmpanikfomgeaaW.PrintWords
set_option linter.unusedVariables false
theorem own : ownKnob Try.prog.godebug = none := by kernel_rfl
theorem laidOut : laidOutB Try.prog = true := by kernel_rfl
set_option maxHeartbeats 2000000 in
set_option maxRecDepth 100000 in
theorem lifted (os : Os) (started : os.Started) (H : Type) (enc : TypeId × Value → H) :
    ReturnsInHanded {} Try.checked os 13 .any (Rows.fnExactAreSameFormSpec.pre6 enc Try.prog Try.f13 Rows.fnExactAreSameFormRow.domain false) (Rows.fnExactAreSameFormSpec.post enc Try.prog Try.f13 false true false false) := by
  refine returnsInHanded_of_change_sized (C := Try.checked) own started (by kernel_rfl) Try.func13
    (ChangeSpec.witness6 (enc := enc) (C := Try.checked) false ⟨#[], #[.agg #[.int .i64 0, .slice none 0 0], .agg #[.int .i64 0, .slice none 0 0]], []⟩ 8 (by kernel_rfl) (by kernel_rfl) (by kernel_rfl) (by kernel_rfl)) ?_
  intro W base args ds gs before hval0 hW hcnd hsz0 _
  have hval : ∀ (j : Nat) t v, Try.f13.params[j]? = some t → args[j]? = some v → Value.okWide Try.prog W .any base t v := hval0
  have hW' := hW
  obtain ⟨p, q, hA0, hV, rfl, hfz, hnd⟩ := hW
  have hA : DataW.TrodAll enc Try.prog W 0 (fun _ => true) true Try.f13.params.toList args.toList ds p := hA0
  rw [Try.params13] at hA hval
  obtain ⟨v0, vs0, d0, ds0, p0, q0, hargs, rfl, rfl, h0, r0⟩ := trodAll_cons hA
  obtain ⟨v1, vs1, d1, ds1, p1, q1, rfl, rfl, rfl, h1, r1⟩ := trodAll_cons r0
  obtain ⟨rfl, rfl, rfl⟩ := trodAll_nil r1
  obtain rfl : args = #[v0, v1] := by cases args; simp_all
  obtain ⟨rfl, rfl⟩ := trodVars_none hV
  have k0 := h0
  have lt0 : ∀ x ∈ p0, x.block < W.heap.size := by obtain ⟨m, hm⟩ := k0; exact DataW.trod_lt m _ _ _ hm
  obtain ⟨v0_0, v0_1, y0_0, y0_1, n0, e0, _, _, t0_0, t0_1⟩ := Go.Joins.open_agg2 Try.underlying27 (by kernel_rfl) (by kernel_rfl) (hval 0 27 v0 rfl rfl) h0
  subst e0
  obtain ⟨a0_0, e0_0, w0_0⟩ := RowAid.field_int Try.underlying3 t0_0
  subst e0_0
  obtain ⟨A0_1, c0_1, l0_1, e0_1, hc0_1, hr0_1, hm0_1, hw0_1⟩ := RowAid.field_ints Try.underlying22 Try.underlying3 (by kernel_rfl) t0_1
  subst e0_1
  have k1 := h1
  have lt1 : ∀ x ∈ p1, x.block < W.heap.size := by obtain ⟨m, hm⟩ := k1; exact DataW.trod_lt m _ _ _ hm
  obtain ⟨v1_0, v1_1, y1_0, y1_1, n1, e1, _, _, t1_0, t1_1⟩ := Go.Joins.open_agg2 Try.underlying27 (by kernel_rfl) (by kernel_rfl) (hval 1 27 v1 rfl rfl) h1
  subst e1
  obtain ⟨a1_0, e1_0, w1_0⟩ := RowAid.field_int Try.underlying3 t1_0
  subst e1_0
  obtain ⟨A1_1, c1_1, l1_1, e1_1, hc1_1, hr1_1, hm1_1, hw1_1⟩ := RowAid.field_ints Try.underlying22 Try.underlying3 (by kernel_rfl) t1_1
  subst e1_1
  clear hA0 hval0 hsz0
  obtain ⟨k, hk⟩ := Pure.FnExactAreSameForm a0_0 l0_1 a1_0 l1_1 w0_0 hm0_1 hw0_1 w1_0 hm1_1 hw1_1
  refine (QFnExactAreSameForm.laws_FnExactAreSameForm.calls (k := k) (r := true) (w := W) (a0_0 := a0_0) (A0_1 := A0_1) (c0_1 := c0_1) (l0_1 := l0_1) (hr0_1 := hr0_1) (hc0_1 := hc0_1) (a1_0 := a1_0) (A1_1 := A1_1) (c1_1 := c1_1) (l1_1 := l1_1) (hr1_1 := hr1_1) (hc1_1 := hc1_1) (h := hk)).mono fun e W' ⟨he, bel⟩ => ?_
  subst he
  exact ⟨_, rfl, _, _, _, [], _, [], hW', trodAll_mk1 (shut_bool Try.underlying4 _), (trodAll_cons_mk (Below.trod laidOut (by kernel_rfl) (of_decide_eq_true (by kernel_rfl)) k0 bel lt0) (trodAll_cons_mk (Below.trod laidOut (by kernel_rfl) (of_decide_eq_true (by kernel_rfl)) k1 bel lt1) trodAll_mk0)), rfl, bel.frame _, fun h => by cases h⟩
theorem over : Rows.fnExactAreSameFormRow.holds Try.pinned (OpenSpec.ofChange Rows.fnExactAreSameFormSpec) :=
  OpenClaim.holds_of_wide 13 Try.f13 rfl rfl rfl rfl rfl rfl rfl ⟨rfl, rfl, rfl, rfl, rfl⟩ rfl rfl rfl rfl rfl (by kernel_rfl) Try.func13 (by kernel_rfl)
    (of_decide_eq_true (by kernel_rfl)) (by unfold Func.isWrapper; first | (rw [if_pos (by decide +kernel)]; kernel_rfl) | (rw [if_neg (by decide +kernel)]; exact ⟨rfl, rfl⟩))
    (fun os started H enc _ => lifted os started H enc)
theorem proved : Rows.FnExactAreSameFormSaid := over
#print axioms proved
end Go.Proofs.Ytjmpanikfomgeaa.fnExactAreSameForm
namespace Go.Proofs.Ytjmpanikfomgeaa
/-- The row, under a short name, for the claim. -/
theorem fnExactAreSameForm_holds : Rows.FnExactAreSameFormSaid := fnExactAreSameForm.proved
end Go.Proofs.Ytjmpanikfomgeaa
