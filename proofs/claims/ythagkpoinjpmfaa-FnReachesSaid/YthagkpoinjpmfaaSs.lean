/- Short words for long texts, some more: no condition. -/
import Derived.Test.YthagkpoinjpmfaaSq
namespace Go.Proofs.Ythagkpoinjpmfaa.Short
open Go.RowKit Go.Proofs.YthagkpoinjpmfaaW.PrintWords Go.Proofs.YthagkpoinjpmfaaW.PrintLast
set_option linter.unusedVariables false
theorem so {β:Type} {f:Nat→Option β} {r:β} (n:Nat) (h:Aside0 (f n=some r)) (h0:f 0=none:=by exact rfl):∃ k,n=k+1∧f (k+1)=some r:=by
  cases n with
  | zero=>exact absurd (h0.symm.trans h.out) (by simp)
  | succ k=>exact⟨k,rfl,h.out⟩
end Go.Proofs.Ythagkpoinjpmfaa.Short
