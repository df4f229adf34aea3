/-
  No cell of these rows narrows 'for every input' (looked for: loops, veiled, ifaces, maps, wideKeys, modest, calm, conditions, laid).
  DERIVED. THE GIVEN ROWS OF THIS SEAT. 7 by the template 'for every input the law returns true; each argument reads behind the call as it read before'; 0 by the template 'total and deterministic' (their statements: YtanfamfgdgcjpaaTotals.lean).
  GIVEN WITH THE SEED: the statements are not yours to turn. If you find one false, say at which input.
  Laid BY PROGRAM, IN A SANDBOX (cutbox-rows.mjs): the forced cells as the released guide's own fill.sh prints them over the translation f8232b6a2246fedb… (all of the seat's roots in one cut). By AI agents, Wed Nov 11 2026. No macro, syntax, notation, axiom, sorry.
-/
import Derived.Test.YtanfamfgdgcjpaaChecked
import GoSem.Claim
import GoSem.ClaimJoined
import GoSem.ClaimMapViews
import Derived.JoinedTies
import Derived.KernelRfl
namespace Go.Proofs.Ytanfamfgdgcjpaa
/- THE CELL 'sum', in the pinned program and in every row, IS THE sha256 OF THE DUMP (.gsa) THAT YtanfamfgdgcjpaaProg.lean LOADS. Nothing in Lean hashes anything: it is a label: what it is worth is what the hold of that sum in a sandbox is worth. -/
noncomputable def Try.pinned : Pinned := { name := "ytanfamfgdgcjpaa", sum := "f8232b6a2246fedbbc0f9931692856664e191f54c37b5d6cd2684a478ff03228", checked := Try.checked }
namespace Rows
def none {H : Type} : Left H := { results := [], args := [] }

/-- 'laws.FnExactEvenPlaces': WHATEVER THE INPUT: true; the input reads as it did. -/
def fnExactEvenPlacesSpec : ChangeSpec := { name := "fnExactEvenPlaces", fn := fun _ => fun
  | [d1, d2] => { results := [.lit (.bool true)], args := [d1, d2] }
  | _ => none }
def fnExactEvenPlacesRow : OpenClaim := { program := "ytanfamfgdgcjpaa", sum := "f8232b6a2246fedbbc0f9931692856664e191f54c37b5d6cd2684a478ff03228", func := "loop.example/g01148/laws.FnExactEvenPlaces", spec := "fnExactEvenPlaces", plainKeys := false, apart := false }
def FnExactEvenPlacesSaid : Prop := fnExactEvenPlacesRow.holds Try.pinned (OpenSpec.ofChange fnExactEvenPlacesSpec)

/-- ITS FALSE NEIGHBOUR: 'it returns false'. Refute it at one input. -/
def fnExactEvenPlacesWrong : ChangeSpec := { name := "fnExactEvenPlaces", fn := fun _ => fun
  | [d1, d2] => { results := [.lit (.bool false)], args := [d1, d2] }
  | _ => none }
def FnExactEvenPlacesWrongFalsely : Prop := fnExactEvenPlacesRow.holds Try.pinned (OpenSpec.ofChange fnExactEvenPlacesWrong)

/-- 'laws.FnExactCanGuard': WHATEVER THE INPUT: true; the input reads as it did. -/
def fnExactCanGuardSpec : ChangeSpec := { name := "fnExactCanGuard", fn := fun _ => fun
  | [d1, d2, d3] => { results := [.lit (.bool true)], args := [d1, d2, d3] }
  | _ => none }
def fnExactCanGuardRow : OpenClaim := { program := "ytanfamfgdgcjpaa", sum := "f8232b6a2246fedbbc0f9931692856664e191f54c37b5d6cd2684a478ff03228", func := "loop.example/g01148/laws.FnExactCanGuard", spec := "fnExactCanGuard", plainKeys := false, apart := false }
def FnExactCanGuardSaid : Prop := fnExactCanGuardRow.holds Try.pinned (OpenSpec.ofChange fnExactCanGuardSpec)

/-- ITS FALSE NEIGHBOUR: 'it returns false'. Refute it at one input. -/
def fnExactCanGuardWrong : ChangeSpec := { name := "fnExactCanGuard", fn := fun _ => fun
  | [d1, d2, d3] => { results := [.lit (.bool false)], args := [d1, d2, d3] }
  | _ => none }
def FnExactCanGuardWrongFalsely : Prop := fnExactCanGuardRow.holds Try.pinned (OpenSpec.ofChange fnExactCanGuardWrong)

/-- 'laws.FnExactLeastMove': WHATEVER THE INPUT: true; the input reads as it did. -/
def fnExactLeastMoveSpec : ChangeSpec := { name := "fnExactLeastMove", fn := fun _ => fun
  | [d1, d2] => { results := [.lit (.bool true)], args := [d1, d2] }
  | _ => none }
def fnExactLeastMoveRow : OpenClaim := { program := "ytanfamfgdgcjpaa", sum := "f8232b6a2246fedbbc0f9931692856664e191f54c37b5d6cd2684a478ff03228", func := "loop.example/g01148/laws.FnExactLeastMove", spec := "fnExactLeastMove", plainKeys := false, apart := false }
def FnExactLeastMoveSaid : Prop := fnExactLeastMoveRow.holds Try.pinned (OpenSpec.ofChange fnExactLeastMoveSpec)

/-- ITS FALSE NEIGHBOUR: 'it returns false'. Refute it at one input. -/
def fnExactLeastMoveWrong : ChangeSpec := { name := "fnExactLeastMove", fn := fun _ => fun
  | [d1, d2] => { results := [.lit (.bool false)], args := [d1, d2] }
  | _ => none }
def FnExactLeastMoveWrongFalsely : Prop := fnExactLeastMoveRow.holds Try.pinned (OpenSpec.ofChange fnExactLeastMoveWrong)

/-- 'laws.FnExactMoveSensors': WHATEVER THE INPUT: true; the input reads as it did. -/
def fnExactMoveSensorsSpec : ChangeSpec := { name := "fnExactMoveSensors", fn := fun _ => fun
  | [d1, d2, d3] => { results := [.lit (.bool true)], args := [d1, d2, d3] }
  | _ => none }
def fnExactMoveSensorsRow : OpenClaim := { program := "ytanfamfgdgcjpaa", sum := "f8232b6a2246fedbbc0f9931692856664e191f54c37b5d6cd2684a478ff03228", func := "loop.example/g01148/laws.FnExactMoveSensors", spec := "fnExactMoveSensors", plainKeys := false, apart := false }
def FnExactMoveSensorsSaid : Prop := fnExactMoveSensorsRow.holds Try.pinned (OpenSpec.ofChange fnExactMoveSensorsSpec)

/-- ITS FALSE NEIGHBOUR: 'it returns false'. Refute it at one input. -/
def fnExactMoveSensorsWrong : ChangeSpec := { name := "fnExactMoveSensors", fn := fun _ => fun
  | [d1, d2, d3] => { results := [.lit (.bool false)], args := [d1, d2, d3] }
  | _ => none }
def FnExactMoveSensorsWrongFalsely : Prop := fnExactMoveSensorsRow.holds Try.pinned (OpenSpec.ofChange fnExactMoveSensorsWrong)

/-- 'laws.FnExactLeastSum': WHATEVER THE INPUT: true; the input reads as it did. -/
def fnExactLeastSumSpec : ChangeSpec := { name := "fnExactLeastSum", fn := fun _ => fun
  | [d1, d2] => { results := [.lit (.bool true)], args := [d1, d2] }
  | _ => none }
def fnExactLeastSumRow : OpenClaim := { program := "ytanfamfgdgcjpaa", sum := "f8232b6a2246fedbbc0f9931692856664e191f54c37b5d6cd2684a478ff03228", func := "loop.example/g01148/laws.FnExactLeastSum", spec := "fnExactLeastSum", plainKeys := false, apart := false }
def FnExactLeastSumSaid : Prop := fnExactLeastSumRow.holds Try.pinned (OpenSpec.ofChange fnExactLeastSumSpec)

/-- ITS FALSE NEIGHBOUR: 'it returns false'. Refute it at one input. -/
def fnExactLeastSumWrong : ChangeSpec := { name := "fnExactLeastSum", fn := fun _ => fun
  | [d1, d2] => { results := [.lit (.bool false)], args := [d1, d2] }
  | _ => none }
def FnExactLeastSumWrongFalsely : Prop := fnExactLeastSumRow.holds Try.pinned (OpenSpec.ofChange fnExactLeastSumWrong)

/-- 'laws.FnExactCanInOrder': WHATEVER THE INPUT: true; the input reads as it did. -/
def fnExactCanInOrderSpec : ChangeSpec := { name := "fnExactCanInOrder", fn := fun _ => fun
  | [d1, d2, d3] => { results := [.lit (.bool true)], args := [d1, d2, d3] }
  | _ => none }
def fnExactCanInOrderRow : OpenClaim := { program := "ytanfamfgdgcjpaa", sum := "f8232b6a2246fedbbc0f9931692856664e191f54c37b5d6cd2684a478ff03228", func := "loop.example/g01148/laws.FnExactCanInOrder", spec := "fnExactCanInOrder", unfollowed := true, recurses := true, plainKeys := false, apart := false }
def FnExactCanInOrderSaid : Prop := fnExactCanInOrderRow.holds Try.pinned (OpenSpec.ofChange fnExactCanInOrderSpec)

/-- ITS FALSE NEIGHBOUR: 'it returns false'. Refute it at one input. -/
def fnExactCanInOrderWrong : ChangeSpec := { name := "fnExactCanInOrder", fn := fun _ => fun
  | [d1, d2, d3] => { results := [.lit (.bool false)], args := [d1, d2, d3] }
  | _ => none }
def FnExactCanInOrderWrongFalsely : Prop := fnExactCanInOrderRow.holds Try.pinned (OpenSpec.ofChange fnExactCanInOrderWrong)

/-- 'laws.FnMoves': WHATEVER THE INPUT: true; the input reads as it did. -/
def fnMovesSpec : ChangeSpec := { name := "fnMoves", fn := fun _ => fun
  | [d] => { results := [.lit (.bool true)], args := [d] }
  | _ => none }
def fnMovesRow : OpenClaim := { program := "ytanfamfgdgcjpaa", sum := "f8232b6a2246fedbbc0f9931692856664e191f54c37b5d6cd2684a478ff03228", func := "loop.example/g01148/laws.FnMoves", spec := "fnMoves", unfollowed := true, recurses := true, plainKeys := false, apart := false }
def FnMovesSaid : Prop := fnMovesRow.holds Try.pinned (OpenSpec.ofChange fnMovesSpec)

/-- ITS FALSE NEIGHBOUR: 'it returns false'. Refute it at one input. -/
def fnMovesWrong : ChangeSpec := { name := "fnMoves", fn := fun _ => fun
  | [d] => { results := [.lit (.bool false)], args := [d] }
  | _ => none }
def FnMovesWrongFalsely : Prop := fnMovesRow.holds Try.pinned (OpenSpec.ofChange fnMovesWrong)

/- THE SECOND FORM. 'bulk': how many values and letters a reading holds, each counted each time it is reached (what is shared counts as often as it is met; a slice's spare places count too). A statement '..UptoSaid' is the law's where the arguments, and the package variables that the reading takes, are together of bulk at most 1048576: NARROWER than '..Said'. Prove '..Said' where nothing that the law and all that it calls make is longer than what came in: it says more and counts as full. Else prove '..UptoSaid'. A law counts once. -/
mutual
def uptoBulk {H : Type} : DataW H → Nat
  | .lit (.string bytes) => bytes.length + 1
  | .lit _ => 1
  | .nil => 1
  | .ptr d => uptoBulk d + 1
  | .slice elems spare => uptoBulkAll elems + uptoBulkAll spare + 1
  | .agg parts => uptoBulkAll parts + 1
  | .iface _ d => uptoBulk d + 1
  | .map entries => uptoBulkEntries entries + 1
  | .held _ => 1
def uptoBulkAll {H : Type} : List (DataW H) → Nat
  | [] => 0
  | d :: r => uptoBulk d + uptoBulkAll r
def uptoBulkEntries {H : Type} : List (Lit × DataW H) → Nat
  | [] => 0
  | x :: r => uptoBulkEntry x + uptoBulkEntries r
def uptoBulkEntry {H : Type} : Lit × DataW H → Nat
  | (.string bytes, d) => bytes.length + uptoBulk d + 1
  | (_, d) => uptoBulk d + 1
 end
def uptoSmall : (H : Type) → List (DataW H) → Bool := fun _ ds => decide (uptoBulkAll ds ≤ 1048576)
def OpenSpec.upto (s : _root_.Go.ChangeSpec) : _root_.Go.OpenSpec := { _root_.Go.OpenSpec.ofChange s with cond := some uptoSmall }

/-- 'laws.FnExactEvenPlaces', WHERE WHAT IT READS IS OF BULK AT MOST 1048576: true; the input reads as it did. -/
def fnExactEvenPlacesUptoRow : OpenClaim := { program := "ytanfamfgdgcjpaa", sum := "f8232b6a2246fedbbc0f9931692856664e191f54c37b5d6cd2684a478ff03228", func := "loop.example/g01148/laws.FnExactEvenPlaces", spec := "fnExactEvenPlaces", plainKeys := false, apart := false, narrowed := true }
def FnExactEvenPlacesUptoSaid : Prop := fnExactEvenPlacesUptoRow.holds Try.pinned (OpenSpec.upto fnExactEvenPlacesSpec)

/-- 'laws.FnExactCanGuard', WHERE WHAT IT READS IS OF BULK AT MOST 1048576: true; the input reads as it did. -/
def fnExactCanGuardUptoRow : OpenClaim := { program := "ytanfamfgdgcjpaa", sum := "f8232b6a2246fedbbc0f9931692856664e191f54c37b5d6cd2684a478ff03228", func := "loop.example/g01148/laws.FnExactCanGuard", spec := "fnExactCanGuard", plainKeys := false, apart := false, narrowed := true }
def FnExactCanGuardUptoSaid : Prop := fnExactCanGuardUptoRow.holds Try.pinned (OpenSpec.upto fnExactCanGuardSpec)

/-- 'laws.FnExactLeastMove', WHERE WHAT IT READS IS OF BULK AT MOST 1048576: true; the input reads as it did. -/
def fnExactLeastMoveUptoRow : OpenClaim := { program := "ytanfamfgdgcjpaa", sum := "f8232b6a2246fedbbc0f9931692856664e191f54c37b5d6cd2684a478ff03228", func := "loop.example/g01148/laws.FnExactLeastMove", spec := "fnExactLeastMove", plainKeys := false, apart := false, narrowed := true }
def FnExactLeastMoveUptoSaid : Prop := fnExactLeastMoveUptoRow.holds Try.pinned (OpenSpec.upto fnExactLeastMoveSpec)

/-- 'laws.FnExactMoveSensors', WHERE WHAT IT READS IS OF BULK AT MOST 1048576: true; the input reads as it did. -/
def fnExactMoveSensorsUptoRow : OpenClaim := { program := "ytanfamfgdgcjpaa", sum := "f8232b6a2246fedbbc0f9931692856664e191f54c37b5d6cd2684a478ff03228", func := "loop.example/g01148/laws.FnExactMoveSensors", spec := "fnExactMoveSensors", plainKeys := false, apart := false, narrowed := true }
def FnExactMoveSensorsUptoSaid : Prop := fnExactMoveSensorsUptoRow.holds Try.pinned (OpenSpec.upto fnExactMoveSensorsSpec)

/-- 'laws.FnExactLeastSum', WHERE WHAT IT READS IS OF BULK AT MOST 1048576: true; the input reads as it did. -/
def fnExactLeastSumUptoRow : OpenClaim := { program := "ytanfamfgdgcjpaa", sum := "f8232b6a2246fedbbc0f9931692856664e191f54c37b5d6cd2684a478ff03228", func := "loop.example/g01148/laws.FnExactLeastSum", spec := "fnExactLeastSum", plainKeys := false, apart := false, narrowed := true }
def FnExactLeastSumUptoSaid : Prop := fnExactLeastSumUptoRow.holds Try.pinned (OpenSpec.upto fnExactLeastSumSpec)

/-- 'laws.FnExactCanInOrder', WHERE WHAT IT READS IS OF BULK AT MOST 1048576: true; the input reads as it did. -/
def fnExactCanInOrderUptoRow : OpenClaim := { program := "ytanfamfgdgcjpaa", sum := "f8232b6a2246fedbbc0f9931692856664e191f54c37b5d6cd2684a478ff03228", func := "loop.example/g01148/laws.FnExactCanInOrder", spec := "fnExactCanInOrder", unfollowed := true, recurses := true, plainKeys := false, apart := false, narrowed := true }
def FnExactCanInOrderUptoSaid : Prop := fnExactCanInOrderUptoRow.holds Try.pinned (OpenSpec.upto fnExactCanInOrderSpec)

/-- 'laws.FnMoves', WHERE WHAT IT READS IS OF BULK AT MOST 1048576: true; the input reads as it did. -/
def fnMovesUptoRow : OpenClaim := { program := "ytanfamfgdgcjpaa", sum := "f8232b6a2246fedbbc0f9931692856664e191f54c37b5d6cd2684a478ff03228", func := "loop.example/g01148/laws.FnMoves", spec := "fnMoves", unfollowed := true, recurses := true, plainKeys := false, apart := false, narrowed := true }
def FnMovesUptoSaid : Prop := fnMovesUptoRow.holds Try.pinned (OpenSpec.upto fnMovesSpec)

end Rows
end Go.Proofs.Ytanfamfgdgcjpaa
