/- What a row needs of a slice of arrays of three numbers. No condition. -/
import Derived.Test.YthagkpoinjpmfaaRowAid
import Derived.Laws.IdiomArrays
namespace Go.Proofs.Ythagkpoinjpmfaa.RowAid
open Go.RowKit Go.ChangeShapes Go.WideShapes Go.Deep Go.Joins Go.Proofs.YthagkpoinjpmfaaW.PrintWords
set_option linter.unusedVariables false
variable {H : Type} {enc : TypeId × Value → H} {P : Program} {w : World} {base : Nat} {spare : Nat → Bool} {held : Bool}
theorem cells_arr3 {e t : TypeId} {k : IntKind} {n : Nat} {cs : List Value} {y : DataW H × List MemPlace} (hs : P.underlying e = some (.array 3 t)) (hc : P.cellsOf t = 1) (h0 : P.underlying t = some (.int k))
    (h : DataW.trod enc P w base spare held n e cs = some y) (hl : cs.length = 3) : ∃ a b c, cs = [.int k a, .int k b, .int k c] ∧ (Lit.int k a).wf = true ∧ (Lit.int k b).wf = true ∧ (Lit.int k c).wf = true := by
  match cs, hl with
  | [v0, v1, v2], _ =>
    obtain ⟨y0, y1, y2, m, _, g0, g1, g2⟩ := trod_array3 hs hc h
    obtain ⟨a, rfl, wa⟩ := field_int h0 g0
    obtain ⟨b, rfl, wb⟩ := field_int h0 g1
    obtain ⟨c, rfl, wc⟩ := field_int h0 g2
    exact ⟨a, b, c, rfl, wa, wb, wc⟩
end Go.Proofs.Ythagkpoinjpmfaa.RowAid
