/- The row of the law FnExactLeastSum, out of its left statement (proved beside it) and the walk of its function. No condition. -/
import Derived.Test.YtanfamfgdgcjpaaRows
import Derived.Test.YtanfamfgdgcjpaaQFnExactLeastSumx6
import Derived.Test.YtanfamfgdgcjpaaPureFnExactLeastSum
import Derived.Test.YtanfamfgdgcjpaaRowAid
import Derived.WalkKit
import Derived.ProofKit
import Derived.OpenShut
import Derived.ShutString
import Derived.ChangeOld
import Derived.Below
import Derived.SizedLaws
import Derived.Lib.SmallJoins
namespace Go.Proofs.Ytanfamfgdgcjpaa.fnExactLeastSum
open Go.ChangeShapes Go.WideShapes Go.ChangeAt Go.RowKit Go.Proofs.YtanfamfgdgcjpaaW.PrintWords
set_option linter.unusedVariables false
theorem own : ownKnob Try.prog.godebug = none := by kernel_rfl
theorem laidOut : laidOutB Try.prog = true := by kernel_rfl
set_option maxHeartbeats 2000000 in
set_option maxRecDepth 100000 in
theorem lifted (os : Os) (started : os.Started) (H : Type) (enc : TypeId × Value → H) :
    ReturnsInHanded {} Try.checked os 7 .any (Rows.fnExactLeastSumSpec.pre6 enc Try.prog Try.f7 Rows.fnExactLeastSumRow.domain false) (Rows.fnExactLeastSumSpec.post enc Try.prog Try.f7 false true false false) := by
  refine returnsInHanded_of_change_sized (C := Try.checked) own started (by kernel_rfl) Try.func7
    (ChangeSpec.witness6 (enc := enc) (C := Try.checked) false ⟨#[], #[.agg #[.int .i64 0, .bool false], .slice none 0 0], []⟩ 8 (by kernel_rfl) (by kernel_rfl) (by kernel_rfl) (by kernel_rfl)) ?_
  intro W base args ds gs before hval0 hW hcnd hsz0 _
  have hval : ∀ (j : Nat) t v, Try.f7.params[j]? = some t → args[j]? = some v → Value.okWide Try.prog W .any base t v := hval0
  have hW' := hW
  obtain ⟨p, q, hA0, hV, rfl, hfz, hnd⟩ := hW
  have hA : DataW.TrodAll enc Try.prog W 0 (fun _ => true) true Try.f7.params.toList args.toList ds p := hA0
  rw [Try.params7] at hA hval
  obtain ⟨v0, vs0, d0, ds0, p0, q0, hargs, rfl, rfl, h0, r0⟩ := trodAll_cons hA
  obtain ⟨v1, vs1, d1, ds1, p1, q1, rfl, rfl, rfl, h1, r1⟩ := trodAll_cons r0
  obtain ⟨rfl, rfl, rfl⟩ := trodAll_nil r1
  obtain rfl : args = #[v0, v1] := by cases args; simp_all
  obtain ⟨rfl, rfl⟩ := trodVars_none hV
  have k0 := h0
  have lt0 : ∀ x ∈ p0, x.block < W.heap.size := by obtain ⟨m, hm⟩ := k0; exact DataW.trod_lt m _ _ _ hm
  obtain ⟨v0_0, v0_1, y0_0, y0_1, n0, e0, _, _, t0_0, t0_1⟩ := Go.Joins.open_agg2 Try.underlying23 (by kernel_rfl) (by kernel_rfl) (hval 0 23 v0 rfl rfl) h0
  subst e0
  obtain ⟨a0_0, e0_0, w0_0⟩ := RowAid.field_int Try.underlying3 t0_0
  subst e0_0
  obtain ⟨a0_1, e0_1⟩ := RowAid.field_bool Try.underlying4 t0_1
  subst e0_1
  have k1 := h1
  have lt1 : ∀ x ∈ p1, x.block < W.heap.size := by obtain ⟨m, hm⟩ := k1; exact DataW.trod_lt m _ _ _ hm
  obtain ⟨f1, hf1⟩ := h1
  have x1 := okWide_slice Try.underlying32 (hval 1 32 v1 rfl rfl)
  obtain ⟨xa1, xl1, xc1, rfl⟩ := x1
  obtain ⟨A1, c1, l1, e1, hc1, hr1, hm1, hw1⟩ := RowAid.field_rows (QFnExactLeastSum.k66) (fun x => (Lit.int .i64 x.f0).wf = true ∧ (Lit.int .i64 x.f1).wf = true) Try.underlying32 (by kernel_rfl) (fun n cs y hy hl => by
    obtain ⟨a, b, rfl, wa, wb⟩ := RowAid.cells_two Try.underlying66 (by kernel_rfl) Try.underlying3 Try.underlying3 hy (hl.trans (by kernel_rfl))
    exact ⟨⟨a, b⟩, QFnExactLeastSum.k66_mk W _, ⟨wa, wb⟩⟩) (v := .slice xa1 xl1 xc1) hf1
  obtain ⟨rfl, rfl, rfl⟩ : A1 = xa1 ∧ l1.length = xl1 ∧ c1 = xc1 := by simpa using e1.symm
  clear hA0 hval0 hsz0
  obtain ⟨k, hk⟩ := Pure.FnExactLeastSum a0_0 a0_1 l1 w0_0 hm1 hw1
  refine (QFnExactLeastSum.laws_FnExactLeastSum.calls (k := k) (r := true) (w := W) (a0_0 := a0_0) (a0_1 := a0_1) (A1 := A1) (c1 := c1) (l1 := l1) (hr1 := hr1) (hc1 := hc1) (h := hk)).mono fun e W' ⟨he, bel⟩ => ?_
  subst he
  exact ⟨_, rfl, _, _, _, [], _, [], hW', trodAll_mk1 (shut_bool Try.underlying4 _), (trodAll_cons_mk (Below.trod laidOut (by kernel_rfl) (of_decide_eq_true (by kernel_rfl)) k0 bel lt0) (trodAll_cons_mk (Below.trod laidOut (by kernel_rfl) (of_decide_eq_true (by kernel_rfl)) k1 bel lt1) trodAll_mk0)), rfl, bel.frame _, fun h => by cases h⟩
theorem over : Rows.fnExactLeastSumRow.holds Try.pinned (OpenSpec.ofChange Rows.fnExactLeastSumSpec) :=
  OpenClaim.holds_of_wide 7 Try.f7 rfl rfl rfl rfl rfl rfl rfl ⟨rfl, rfl, rfl, rfl, rfl⟩ rfl rfl rfl rfl rfl (by kernel_rfl) Try.func7 (by kernel_rfl)
    (of_decide_eq_true (by kernel_rfl)) (by unfold Func.isWrapper; first | (rw [if_pos (by decide +kernel)]; kernel_rfl) | (rw [if_neg (by decide +kernel)]; exact ⟨rfl, rfl⟩))
    (fun os started H enc _ => lifted os started H enc)
theorem proved : Rows.FnExactLeastSumSaid := over
#print axioms proved
end Go.Proofs.Ytanfamfgdgcjpaa.fnExactLeastSum
namespace Go.Proofs.Ytanfamfgdgcjpaa
/-- The row, under a short name, for the claim. -/
theorem fnExactLeastSum_holds : Rows.FnExactLeastSumSaid := fnExactLeastSum.proved
end Go.Proofs.Ytanfamfgdgcjpaa
