/- The row of the law FnExactRelayArrival, out of its left statement (proved beside it) and the walk of its function. No condition. -/
import Derived.Test.YthagkpoinjpmfaaRows
import Derived.Test.YthagkpoinjpmfaaQFnExactRelayArrivalx8
import Derived.Test.YthagkpoinjpmfaaPureFnExactRelayArrival
import Derived.Test.YthagkpoinjpmfaaRowAid
import Derived.Test.YthagkpoinjpmfaaRowArr
import Derived.WalkKit
import Derived.ProofKit
import Derived.OpenShut
import Derived.ShutString
import Derived.ChangeOld
import Derived.Below
import Derived.SizedLaws
import Derived.Lib.SmallJoins
namespace Go.Proofs.Ythagkpoinjpmfaa.fnExactRelayArrival
open Go.ChangeShapes Go.WideShapes Go.ChangeAt Go.RowKit Go.Proofs.YthagkpoinjpmfaaW.PrintWords
set_option linter.unusedVariables false
theorem own : ownKnob Try.prog.godebug = none := by kernel_rfl
theorem laidOut : laidOutB Try.prog = true := by kernel_rfl
set_option maxHeartbeats 2000000 in
set_option maxRecDepth 100000 in
theorem lifted (os : Os) (started : os.Started) (H : Type) (enc : TypeId × Value → H) :
    ReturnsInHanded {} Try.checked os 6 .any (Rows.fnExactRelayArrivalSpec.pre6 enc Try.prog Try.f6 Rows.fnExactRelayArrivalRow.domain false) (Rows.fnExactRelayArrivalSpec.post enc Try.prog Try.f6 false true false false) := by
  refine returnsInHanded_of_change_sized (C := Try.checked) own started (by kernel_rfl) Try.func6
    (ChangeSpec.witness6 (enc := enc) (C := Try.checked) false ⟨#[], #[.agg #[.int .i64 0, .bool false], .slice none 0 0, .int .i64 0, .int .i64 0, .slice none 0 0], []⟩ 8 (by kernel_rfl) (by kernel_rfl) (by kernel_rfl) (by kernel_rfl)) ?_
  intro W base args ds gs before hval0 hW hcnd hsz0 _
  have hval : ∀ (j : Nat) t v, Try.f6.params[j]? = some t → args[j]? = some v → Value.okWide Try.prog W .any base t v := hval0
  have hW' := hW
  obtain ⟨p, q, hA0, hV, rfl, hfz, hnd⟩ := hW
  have hA : DataW.TrodAll enc Try.prog W 0 (fun _ => true) true Try.f6.params.toList args.toList ds p := hA0
  rw [Try.params6] at hA hval
  obtain ⟨v0, vs0, d0, ds0, p0, q0, hargs, rfl, rfl, h0, r0⟩ := trodAll_cons hA
  obtain ⟨v1, vs1, d1, ds1, p1, q1, rfl, rfl, rfl, h1, r1⟩ := trodAll_cons r0
  obtain ⟨v2, vs2, d2, ds2, p2, q2, rfl, rfl, rfl, h2, r2⟩ := trodAll_cons r1
  obtain ⟨v3, vs3, d3, ds3, p3, q3, rfl, rfl, rfl, h3, r3⟩ := trodAll_cons r2
  obtain ⟨v4, vs4, d4, ds4, p4, q4, rfl, rfl, rfl, h4, r4⟩ := trodAll_cons r3
  obtain ⟨rfl, rfl, rfl⟩ := trodAll_nil r4
  obtain rfl : args = #[v0, v1, v2, v3, v4] := by cases args; simp_all
  obtain ⟨rfl, rfl⟩ := trodVars_none hV
  have k0 := h0
  have lt0 : ∀ x ∈ p0, x.block < W.heap.size := by obtain ⟨m, hm⟩ := k0; exact DataW.trod_lt m _ _ _ hm
  obtain ⟨v0_0, v0_1, y0_0, y0_1, n0, e0, _, _, t0_0, t0_1⟩ := Go.Joins.open_agg2 Try.underlying23 (by kernel_rfl) (by kernel_rfl) (hval 0 23 v0 rfl rfl) h0
  subst e0
  obtain ⟨a0_0, e0_0, w0_0⟩ := RowAid.field_int Try.underlying3 t0_0
  subst e0_0
  obtain ⟨a0_1, e0_1⟩ := RowAid.field_bool Try.underlying4 t0_1
  subst e0_1
  have k1 := h1
  have lt1 : ∀ x ∈ p1, x.block < W.heap.size := by obtain ⟨m, hm⟩ := k1; exact DataW.trod_lt m _ _ _ hm
  obtain ⟨f1, hf1⟩ := h1
  have x1 := okWide_slice Try.underlying24 (hval 1 24 v1 rfl rfl)
  obtain ⟨xa1, xl1, xc1, rfl⟩ := x1
  obtain ⟨A1, c1, l1, e1, hc1, hr1, hm1, hw1⟩ := RowAid.field_rows (QFnExactRelayArrival.k75) (fun x => (Lit.int .i64 x.f0).wf = true ∧ (Lit.int .i64 x.f1).wf = true ∧ (Lit.int .i64 x.f2).wf = true) Try.underlying24 (by kernel_rfl) (fun n cs y hy hl => by
    obtain ⟨a, b, c, rfl, wa, wb, wc⟩ := RowAid.cells_three Try.underlying75 (by kernel_rfl) Try.underlying3 Try.underlying3 Try.underlying3 hy (hl.trans (by kernel_rfl))
    exact ⟨⟨a, b, c⟩, QFnExactRelayArrival.k75_mk W _, ⟨wa, wb, wc⟩⟩) (v := .slice xa1 xl1 xc1) hf1
  obtain ⟨rfl, rfl, rfl⟩ : A1 = xa1 ∧ l1.length = xl1 ∧ c1 = xc1 := by simpa using e1.symm
  have k2 := h2
  have lt2 : ∀ x ∈ p2, x.block < W.heap.size := by obtain ⟨m, hm⟩ := k2; exact DataW.trod_lt m _ _ _ hm
  obtain ⟨a2, rfl, _, _, w2⟩ := open_int Try.underlying3 (hval 2 3 v2 rfl rfl) h2
  have k3 := h3
  have lt3 : ∀ x ∈ p3, x.block < W.heap.size := by obtain ⟨m, hm⟩ := k3; exact DataW.trod_lt m _ _ _ hm
  obtain ⟨a3, rfl, _, _, w3⟩ := open_int Try.underlying3 (hval 3 3 v3 rfl rfl) h3
  have k4 := h4
  have lt4 : ∀ x ∈ p4, x.block < W.heap.size := by obtain ⟨m, hm⟩ := k4; exact DataW.trod_lt m _ _ _ hm
  obtain ⟨f4, hf4⟩ := h4
  have x4 := okWide_slice Try.underlying34 (hval 4 34 v4 rfl rfl)
  obtain ⟨xa4, xl4, xc4, rfl⟩ := x4
  obtain ⟨A4, c4, l4, e4, hc4, hr4, hm4, hw4⟩ := RowAid.field_rows (QFnExactRelayArrival.k70) (fun x => (Lit.int .i64 x.f0).wf = true ∧ (Lit.int .i64 x.f1).wf = true ∧ (Lit.int .i64 x.f2).wf = true) Try.underlying34 (by kernel_rfl) (fun n cs y hy hl => by
    obtain ⟨a, b, c, rfl, wa, wb, wc⟩ := RowAid.cells_arr3 Try.underlying70 (by kernel_rfl) Try.underlying3 hy (hl.trans (by kernel_rfl))
    exact ⟨⟨a, b, c⟩, QFnExactRelayArrival.k70_mk W _, ⟨wa, wb, wc⟩⟩) (v := .slice xa4 xl4 xc4) hf4
  obtain ⟨rfl, rfl, rfl⟩ : A4 = xa4 ∧ l4.length = xl4 ∧ c4 = xc4 := by simpa using e4.symm
  clear hA0 hval0 hsz0
  obtain ⟨k, hk⟩ := Pure.FnExactRelayArrival a0_0 a0_1 l1 a2 a3 l4 w0_0 hm1 hw1 w2 w3 hm4 hw4
  refine (QFnExactRelayArrival.laws_FnExactRelayArrival.calls (k := k) (r := true) (w := W) (a0_0 := a0_0) (a0_1 := a0_1) (A1 := A1) (c1 := c1) (l1 := l1) (hr1 := hr1) (hc1 := hc1) (a2 := a2) (a3 := a3) (A4 := A4) (c4 := c4) (l4 := l4) (hr4 := hr4) (hc4 := hc4) (h := hk)).mono fun e W' ⟨he, bel⟩ => ?_
  subst he
  exact ⟨_, rfl, _, _, _, [], _, [], hW', trodAll_mk1 (shut_bool Try.underlying4 _), (trodAll_cons_mk (Below.trod laidOut (by kernel_rfl) (of_decide_eq_true (by kernel_rfl)) k0 bel lt0) (trodAll_cons_mk (Below.trod laidOut (by kernel_rfl) (of_decide_eq_true (by kernel_rfl)) k1 bel lt1) (trodAll_cons_mk (Below.trod laidOut (by kernel_rfl) (of_decide_eq_true (by kernel_rfl)) k2 bel lt2) (trodAll_cons_mk (Below.trod laidOut (by kernel_rfl) (of_decide_eq_true (by kernel_rfl)) k3 bel lt3) (trodAll_cons_mk (Below.trod laidOut (by kernel_rfl) (of_decide_eq_true (by kernel_rfl)) k4 bel lt4) trodAll_mk0))))), rfl, bel.frame _, fun h => by cases h⟩
theorem over : Rows.fnExactRelayArrivalRow.holds Try.pinned (OpenSpec.ofChange Rows.fnExactRelayArrivalSpec) :=
  OpenClaim.holds_of_wide 6 Try.f6 rfl rfl rfl rfl rfl rfl rfl ⟨rfl, rfl, rfl, rfl, rfl⟩ rfl rfl rfl rfl rfl (by kernel_rfl) Try.func6 (by kernel_rfl)
    (of_decide_eq_true (by kernel_rfl)) (by unfold Func.isWrapper; first | (rw [if_pos (by decide +kernel)]; kernel_rfl) | (rw [if_neg (by decide +kernel)]; exact ⟨rfl, rfl⟩))
    (fun os started H enc _ => lifted os started H enc)
theorem proved : Rows.FnExactRelayArrivalSaid := over
#print axioms proved
end Go.Proofs.Ythagkpoinjpmfaa.fnExactRelayArrival
namespace Go.Proofs.Ythagkpoinjpmfaa
/-- The row, under a short name, for the claim. -/
theorem fnExactRelayArrival_holds : Rows.FnExactRelayArrivalSaid := fnExactRelayArrival.proved
end Go.Proofs.Ythagkpoinjpmfaa
