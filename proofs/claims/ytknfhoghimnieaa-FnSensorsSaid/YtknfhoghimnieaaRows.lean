/-
  No cell of these rows narrows 'for every input' (looked for: loops, veiled, ifaces, maps, wideKeys, modest, calm, conditions, laid).
  DERIVED. THE GIVEN ROWS OF THIS SEAT. 7 by the template 'for every input the law returns true; each argument reads behind the call as it read before'; 0 by the template 'total and deterministic' (their statements: YtknfhoghimnieaaTotals.lean).
  GIVEN WITH THE SEED: the statements are not yours to turn. If you find one false, say at which input.
  Laid BY PROGRAM, IN A SANDBOX (cutbox-rows.mjs): the forced cells as the released guide's own fill.sh prints them over the translation b44dadcbf52e0aee… (all of the seat's roots in one cut). By AI agents, Wed Nov 11 2026. No macro, syntax, notation, axiom, sorry.
-/
import Derived.Test.YtknfhoghimnieaaChecked
import GoSem.Claim
import GoSem.ClaimJoined
import GoSem.ClaimMapViews
import Derived.JoinedTies
import Derived.KernelRfl
namespace Go.Proofs.Ytknfhoghimnieaa
/- THE CELL 'sum', in the pinned program and in every row, IS THE sha256 OF THE DUMP (.gsa) THAT YtknfhoghimnieaaProg.lean LOADS. Nothing in Lean hashes anything: it is a label: what it is worth is what the hold of that sum in a sandbox is worth. -/
noncomputable def Try.pinned : Pinned := { name := "ytknfhoghimnieaa", sum := "b44dadcbf52e0aeede9843d0c699fc9c834ec0aa9b38312e4faa5df23b022f6f", checked := Try.checked }
namespace Rows
def none {H : Type} : Left H := { results := [], args := [] }

/-- 'laws.FnExactAreSensors': WHATEVER THE INPUT: true; the input reads as it did. -/
def fnExactAreSensorsSpec : ChangeSpec := { name := "fnExactAreSensors", fn := fun _ => fun
  | [d1, d2] => { results := [.lit (.bool true)], args := [d1, d2] }
  | _ => none }
def fnExactAreSensorsRow : OpenClaim := { program := "ytknfhoghimnieaa", sum := "b44dadcbf52e0aeede9843d0c699fc9c834ec0aa9b38312e4faa5df23b022f6f", func := "loop.example/g01148/laws.FnExactAreSensors", spec := "fnExactAreSensors", apart := false }
def FnExactAreSensorsSaid : Prop := fnExactAreSensorsRow.holds Try.pinned (OpenSpec.ofChange fnExactAreSensorsSpec)

/-- ITS FALSE NEIGHBOUR: 'it returns false'. Refute it at one input. -/
def fnExactAreSensorsWrong : ChangeSpec := { name := "fnExactAreSensors", fn := fun _ => fun
  | [d1, d2] => { results := [.lit (.bool false)], args := [d1, d2] }
  | _ => none }
def FnExactAreSensorsWrongFalsely : Prop := fnExactAreSensorsRow.holds Try.pinned (OpenSpec.ofChange fnExactAreSensorsWrong)

/-- 'laws.FnExactMirrorSensors': WHATEVER THE INPUT: true; the input reads as it did. -/
def fnExactMirrorSensorsSpec : ChangeSpec := { name := "fnExactMirrorSensors", fn := fun _ => fun
  | [d1, d2] => { results := [.lit (.bool true)], args := [d1, d2] }
  | _ => none }
def fnExactMirrorSensorsRow : OpenClaim := { program := "ytknfhoghimnieaa", sum := "b44dadcbf52e0aeede9843d0c699fc9c834ec0aa9b38312e4faa5df23b022f6f", func := "loop.example/g01148/laws.FnExactMirrorSensors", spec := "fnExactMirrorSensors", apart := false }
def FnExactMirrorSensorsSaid : Prop := fnExactMirrorSensorsRow.holds Try.pinned (OpenSpec.ofChange fnExactMirrorSensorsSpec)

/-- ITS FALSE NEIGHBOUR: 'it returns false'. Refute it at one input. -/
def fnExactMirrorSensorsWrong : ChangeSpec := { name := "fnExactMirrorSensors", fn := fun _ => fun
  | [d1, d2] => { results := [.lit (.bool false)], args := [d1, d2] }
  | _ => none }
def FnExactMirrorSensorsWrongFalsely : Prop := fnExactMirrorSensorsRow.holds Try.pinned (OpenSpec.ofChange fnExactMirrorSensorsWrong)

/-- 'laws.FnExactStrengthOf': WHATEVER THE INPUT: true; the input reads as it did. -/
def fnExactStrengthOfSpec : ChangeSpec := { name := "fnExactStrengthOf", fn := fun _ => fun
  | [d1, d2] => { results := [.lit (.bool true)], args := [d1, d2] }
  | _ => none }
def fnExactStrengthOfRow : OpenClaim := { program := "ytknfhoghimnieaa", sum := "b44dadcbf52e0aeede9843d0c699fc9c834ec0aa9b38312e4faa5df23b022f6f", func := "loop.example/g01148/laws.FnExactStrengthOf", spec := "fnExactStrengthOf", apart := false }
def FnExactStrengthOfSaid : Prop := fnExactStrengthOfRow.holds Try.pinned (OpenSpec.ofChange fnExactStrengthOfSpec)

/-- ITS FALSE NEIGHBOUR: 'it returns false'. Refute it at one input. -/
def fnExactStrengthOfWrong : ChangeSpec := { name := "fnExactStrengthOf", fn := fun _ => fun
  | [d1, d2] => { results := [.lit (.bool false)], args := [d1, d2] }
  | _ => none }
def FnExactStrengthOfWrongFalsely : Prop := fnExactStrengthOfRow.holds Try.pinned (OpenSpec.ofChange fnExactStrengthOfWrong)

/-- 'laws.FnExactSeenBy': WHATEVER THE INPUT: true; the input reads as it did. -/
def fnExactSeenBySpec : ChangeSpec := { name := "fnExactSeenBy", fn := fun _ => fun
  | [d1, d2] => { results := [.lit (.bool true)], args := [d1, d2] }
  | _ => none }
def fnExactSeenByRow : OpenClaim := { program := "ytknfhoghimnieaa", sum := "b44dadcbf52e0aeede9843d0c699fc9c834ec0aa9b38312e4faa5df23b022f6f", func := "loop.example/g01148/laws.FnExactSeenBy", spec := "fnExactSeenBy", apart := false }
def FnExactSeenBySaid : Prop := fnExactSeenByRow.holds Try.pinned (OpenSpec.ofChange fnExactSeenBySpec)

/-- ITS FALSE NEIGHBOUR: 'it returns false'. Refute it at one input. -/
def fnExactSeenByWrong : ChangeSpec := { name := "fnExactSeenBy", fn := fun _ => fun
  | [d1, d2] => { results := [.lit (.bool false)], args := [d1, d2] }
  | _ => none }
def FnExactSeenByWrongFalsely : Prop := fnExactSeenByRow.holds Try.pinned (OpenSpec.ofChange fnExactSeenByWrong)

/-- 'laws.FnExactUnseenRuns': WHATEVER THE INPUT: true; the input reads as it did. -/
def fnExactUnseenRunsSpec : ChangeSpec := { name := "fnExactUnseenRuns", fn := fun _ => fun
  | [d1, d2] => { results := [.lit (.bool true)], args := [d1, d2] }
  | _ => none }
def fnExactUnseenRunsRow : OpenClaim := { program := "ytknfhoghimnieaa", sum := "b44dadcbf52e0aeede9843d0c699fc9c834ec0aa9b38312e4faa5df23b022f6f", func := "loop.example/g01148/laws.FnExactUnseenRuns", spec := "fnExactUnseenRuns", apart := false }
def FnExactUnseenRunsSaid : Prop := fnExactUnseenRunsRow.holds Try.pinned (OpenSpec.ofChange fnExactUnseenRunsSpec)

/-- ITS FALSE NEIGHBOUR: 'it returns false'. Refute it at one input. -/
def fnExactUnseenRunsWrong : ChangeSpec := { name := "fnExactUnseenRuns", fn := fun _ => fun
  | [d1, d2] => { results := [.lit (.bool false)], args := [d1, d2] }
  | _ => none }
def FnExactUnseenRunsWrongFalsely : Prop := fnExactUnseenRunsRow.holds Try.pinned (OpenSpec.ofChange fnExactUnseenRunsWrong)

/-- 'laws.FnExactSpareSensors': WHATEVER THE INPUT: true; the input reads as it did. -/
def fnExactSpareSensorsSpec : ChangeSpec := { name := "fnExactSpareSensors", fn := fun _ => fun
  | [d1, d2] => { results := [.lit (.bool true)], args := [d1, d2] }
  | _ => none }
def fnExactSpareSensorsRow : OpenClaim := { program := "ytknfhoghimnieaa", sum := "b44dadcbf52e0aeede9843d0c699fc9c834ec0aa9b38312e4faa5df23b022f6f", func := "loop.example/g01148/laws.FnExactSpareSensors", spec := "fnExactSpareSensors", apart := false }
def FnExactSpareSensorsSaid : Prop := fnExactSpareSensorsRow.holds Try.pinned (OpenSpec.ofChange fnExactSpareSensorsSpec)

/-- ITS FALSE NEIGHBOUR: 'it returns false'. Refute it at one input. -/
def fnExactSpareSensorsWrong : ChangeSpec := { name := "fnExactSpareSensors", fn := fun _ => fun
  | [d1, d2] => { results := [.lit (.bool false)], args := [d1, d2] }
  | _ => none }
def FnExactSpareSensorsWrongFalsely : Prop := fnExactSpareSensorsRow.holds Try.pinned (OpenSpec.ofChange fnExactSpareSensorsWrong)

/-- 'laws.FnSensors': WHATEVER THE INPUT: true; the input reads as it did. -/
def fnSensorsSpec : ChangeSpec := { name := "fnSensors", fn := fun _ => fun
  | [d] => { results := [.lit (.bool true)], args := [d] }
  | _ => none }
def fnSensorsRow : OpenClaim := { program := "ytknfhoghimnieaa", sum := "b44dadcbf52e0aeede9843d0c699fc9c834ec0aa9b38312e4faa5df23b022f6f", func := "loop.example/g01148/laws.FnSensors", spec := "fnSensors", apart := false }
def FnSensorsSaid : Prop := fnSensorsRow.holds Try.pinned (OpenSpec.ofChange fnSensorsSpec)

/-- ITS FALSE NEIGHBOUR: 'it returns false'. Refute it at one input. -/
def fnSensorsWrong : ChangeSpec := { name := "fnSensors", fn := fun _ => fun
  | [d] => { results := [.lit (.bool false)], args := [d] }
  | _ => none }
def FnSensorsWrongFalsely : Prop := fnSensorsRow.holds Try.pinned (OpenSpec.ofChange fnSensorsWrong)

/- THE SECOND FORM. 'bulk': how many values and letters a reading holds, each counted each time it is reached (what is shared counts as often as it is met; a slice's spare places count too). A statement '..UptoSaid' is the law's where the arguments, and the package variables that the reading takes, are together of bulk at most 1048576: NARROWER than '..Said'. Prove '..Said' where nothing that the law and all that it calls make is longer than what came in: it says more and counts as full. Else prove '..UptoSaid'. A law counts once. -/
mutual
def uptoBulk {H : Type} : DataW H → Nat
  | .lit (.string bytes) => bytes.length + 1
  | .lit _ => 1
  | .nil => 1
  | .ptr d => uptoBulk d + 1
  | .slice elems spare => uptoBulkAll elems + uptoBulkAll spare + 1
  | .agg parts => uptoBulkAll parts + 1
  | .iface _ d => uptoBulk d + 1
  | .map entries => uptoBulkEntries entries + 1
  | .held _ => 1
def uptoBulkAll {H : Type} : List (DataW H) → Nat
  | [] => 0
  | d :: r => uptoBulk d + uptoBulkAll r
def uptoBulkEntries {H : Type} : List (Lit × DataW H) → Nat
  | [] => 0
  | x :: r => uptoBulkEntry x + uptoBulkEntries r
def uptoBulkEntry {H : Type} : Lit × DataW H → Nat
  | (.string bytes, d) => bytes.length + uptoBulk d + 1
  | (_, d) => uptoBulk d + 1
 end
def uptoSmall : (H : Type) → List (DataW H) → Bool := fun _ ds => decide (uptoBulkAll ds ≤ 1048576)
def OpenSpec.upto (s : _root_.Go.ChangeSpec) : _root_.Go.OpenSpec := { _root_.Go.OpenSpec.ofChange s with cond := some uptoSmall }

/-- 'laws.FnExactAreSensors', WHERE WHAT IT READS IS OF BULK AT MOST 1048576: true; the input reads as it did. -/
def fnExactAreSensorsUptoRow : OpenClaim := { program := "ytknfhoghimnieaa", sum := "b44dadcbf52e0aeede9843d0c699fc9c834ec0aa9b38312e4faa5df23b022f6f", func := "loop.example/g01148/laws.FnExactAreSensors", spec := "fnExactAreSensors", apart := false, narrowed := true }
def FnExactAreSensorsUptoSaid : Prop := fnExactAreSensorsUptoRow.holds Try.pinned (OpenSpec.upto fnExactAreSensorsSpec)

/-- 'laws.FnExactMirrorSensors', WHERE WHAT IT READS IS OF BULK AT MOST 1048576: true; the input reads as it did. -/
def fnExactMirrorSensorsUptoRow : OpenClaim := { program := "ytknfhoghimnieaa", sum := "b44dadcbf52e0aeede9843d0c699fc9c834ec0aa9b38312e4faa5df23b022f6f", func := "loop.example/g01148/laws.FnExactMirrorSensors", spec := "fnExactMirrorSensors", apart := false, narrowed := true }
def FnExactMirrorSensorsUptoSaid : Prop := fnExactMirrorSensorsUptoRow.holds Try.pinned (OpenSpec.upto fnExactMirrorSensorsSpec)

/-- 'laws.FnExactStrengthOf', WHERE WHAT IT READS IS OF BULK AT MOST 1048576: true; the input reads as it did. -/
def fnExactStrengthOfUptoRow : OpenClaim := { program := "ytknfhoghimnieaa", sum := "b44dadcbf52e0aeede9843d0c699fc9c834ec0aa9b38312e4faa5df23b022f6f", func := "loop.example/g01148/laws.FnExactStrengthOf", spec := "fnExactStrengthOf", apart := false, narrowed := true }
def FnExactStrengthOfUptoSaid : Prop := fnExactStrengthOfUptoRow.holds Try.pinned (OpenSpec.upto fnExactStrengthOfSpec)

/-- 'laws.FnExactSeenBy', WHERE WHAT IT READS IS OF BULK AT MOST 1048576: true; the input reads as it did. -/
def fnExactSeenByUptoRow : OpenClaim := { program := "ytknfhoghimnieaa", sum := "b44dadcbf52e0aeede9843d0c699fc9c834ec0aa9b38312e4faa5df23b022f6f", func := "loop.example/g01148/laws.FnExactSeenBy", spec := "fnExactSeenBy", apart := false, narrowed := true }
def FnExactSeenByUptoSaid : Prop := fnExactSeenByUptoRow.holds Try.pinned (OpenSpec.upto fnExactSeenBySpec)

/-- 'laws.FnExactUnseenRuns', WHERE WHAT IT READS IS OF BULK AT MOST 1048576: true; the input reads as it did. -/
def fnExactUnseenRunsUptoRow : OpenClaim := { program := "ytknfhoghimnieaa", sum := "b44dadcbf52e0aeede9843d0c699fc9c834ec0aa9b38312e4faa5df23b022f6f", func := "loop.example/g01148/laws.FnExactUnseenRuns", spec := "fnExactUnseenRuns", apart := false, narrowed := true }
def FnExactUnseenRunsUptoSaid : Prop := fnExactUnseenRunsUptoRow.holds Try.pinned (OpenSpec.upto fnExactUnseenRunsSpec)

/-- 'laws.FnExactSpareSensors', WHERE WHAT IT READS IS OF BULK AT MOST 1048576: true; the input reads as it did. -/
def fnExactSpareSensorsUptoRow : OpenClaim := { program := "ytknfhoghimnieaa", sum := "b44dadcbf52e0aeede9843d0c699fc9c834ec0aa9b38312e4faa5df23b022f6f", func := "loop.example/g01148/laws.FnExactSpareSensors", spec := "fnExactSpareSensors", apart := false, narrowed := true }
def FnExactSpareSensorsUptoSaid : Prop := fnExactSpareSensorsUptoRow.holds Try.pinned (OpenSpec.upto fnExactSpareSensorsSpec)

/-- 'laws.FnSensors', WHERE WHAT IT READS IS OF BULK AT MOST 1048576: true; the input reads as it did. -/
def fnSensorsUptoRow : OpenClaim := { program := "ytknfhoghimnieaa", sum := "b44dadcbf52e0aeede9843d0c699fc9c834ec0aa9b38312e4faa5df23b022f6f", func := "loop.example/g01148/laws.FnSensors", spec := "fnSensors", apart := false, narrowed := true }
def FnSensorsUptoSaid : Prop := fnSensorsUptoRow.holds Try.pinned (OpenSpec.upto fnSensorsSpec)

end Rows
end Go.Proofs.Ytknfhoghimnieaa
