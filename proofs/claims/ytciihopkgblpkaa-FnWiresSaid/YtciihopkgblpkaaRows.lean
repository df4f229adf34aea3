/-
  No cell of these rows narrows 'for every input' (looked for: loops, veiled, ifaces, maps, wideKeys, modest, calm, conditions, laid).
  DERIVED. THE GIVEN ROWS OF THIS SEAT. 8 by the template 'for every input the law returns true; each argument reads behind the call as it read before'; 0 by the template 'total and deterministic' (their statements: YtciihopkgblpkaaTotals.lean).
  GIVEN WITH THE SEED: the statements are not yours to turn. If you find one false, say at which input.
  Laid BY PROGRAM, IN A SANDBOX (cutbox-rows.mjs): the forced cells as the released guide's own fill.sh prints them over the translation d7a28fbd914abc4b… (all of the seat's roots in one cut). By AI agents, Wed Nov 11 2026. No macro, syntax, notation, axiom, sorry.
-/
import Derived.Test.YtciihopkgblpkaaChecked
import GoSem.Claim
import GoSem.ClaimJoined
import GoSem.ClaimMapViews
import Derived.JoinedTies
import Derived.KernelRfl
namespace Go.Proofs.Ytciihopkgblpkaa
/- THE CELL 'sum', in the pinned program and in every row, IS THE sha256 OF THE DUMP (.gsa) THAT YtciihopkgblpkaaProg.lean LOADS. Nothing in Lean hashes anything: it is a label: what it is worth is what the hold of that sum in a sandbox is worth. -/
noncomputable def Try.pinned : Pinned := { name := "ytciihopkgblpkaa", sum := "d7a28fbd914abc4b8d19934c8565729a2fb7b84ebf64bdfe278f5f97209c3008", checked := Try.checked }
namespace Rows
def none {H : Type} : Left H := { results := [], args := [] }

/-- 'laws.FnExactIsWire': WHATEVER THE INPUT: true; the input reads as it did. -/
def fnExactIsWireSpec : ChangeSpec := { name := "fnExactIsWire", fn := fun _ => fun
  | [d] => { results := [.lit (.bool true)], args := [d] }
  | _ => none }
def fnExactIsWireRow : OpenClaim := { program := "ytciihopkgblpkaa", sum := "d7a28fbd914abc4b8d19934c8565729a2fb7b84ebf64bdfe278f5f97209c3008", func := "loop.example/g01148/laws.FnExactIsWire", spec := "fnExactIsWire", apart := false }
def FnExactIsWireSaid : Prop := fnExactIsWireRow.holds Try.pinned (OpenSpec.ofChange fnExactIsWireSpec)

/-- ITS FALSE NEIGHBOUR: 'it returns false'. Refute it at one input. -/
def fnExactIsWireWrong : ChangeSpec := { name := "fnExactIsWire", fn := fun _ => fun
  | [d] => { results := [.lit (.bool false)], args := [d] }
  | _ => none }
def FnExactIsWireWrongFalsely : Prop := fnExactIsWireRow.holds Try.pinned (OpenSpec.ofChange fnExactIsWireWrong)

/-- 'laws.FnExactCountMeets': WHATEVER THE INPUT: true; the input reads as it did. -/
def fnExactCountMeetsSpec : ChangeSpec := { name := "fnExactCountMeets", fn := fun _ => fun
  | [d] => { results := [.lit (.bool true)], args := [d] }
  | _ => none }
def fnExactCountMeetsRow : OpenClaim := { program := "ytciihopkgblpkaa", sum := "d7a28fbd914abc4b8d19934c8565729a2fb7b84ebf64bdfe278f5f97209c3008", func := "loop.example/g01148/laws.FnExactCountMeets", spec := "fnExactCountMeets", apart := false }
def FnExactCountMeetsSaid : Prop := fnExactCountMeetsRow.holds Try.pinned (OpenSpec.ofChange fnExactCountMeetsSpec)

/-- ITS FALSE NEIGHBOUR: 'it returns false'. Refute it at one input. -/
def fnExactCountMeetsWrong : ChangeSpec := { name := "fnExactCountMeets", fn := fun _ => fun
  | [d] => { results := [.lit (.bool false)], args := [d] }
  | _ => none }
def FnExactCountMeetsWrongFalsely : Prop := fnExactCountMeetsRow.holds Try.pinned (OpenSpec.ofChange fnExactCountMeetsWrong)

/-- 'laws.FnExactLastFall': WHATEVER THE INPUT: true; the input reads as it did. -/
def fnExactLastFallSpec : ChangeSpec := { name := "fnExactLastFall", fn := fun _ => fun
  | [d] => { results := [.lit (.bool true)], args := [d] }
  | _ => none }
def fnExactLastFallRow : OpenClaim := { program := "ytciihopkgblpkaa", sum := "d7a28fbd914abc4b8d19934c8565729a2fb7b84ebf64bdfe278f5f97209c3008", func := "loop.example/g01148/laws.FnExactLastFall", spec := "fnExactLastFall", apart := false }
def FnExactLastFallSaid : Prop := fnExactLastFallRow.holds Try.pinned (OpenSpec.ofChange fnExactLastFallSpec)

/-- ITS FALSE NEIGHBOUR: 'it returns false'. Refute it at one input. -/
def fnExactLastFallWrong : ChangeSpec := { name := "fnExactLastFall", fn := fun _ => fun
  | [d] => { results := [.lit (.bool false)], args := [d] }
  | _ => none }
def FnExactLastFallWrongFalsely : Prop := fnExactLastFallRow.holds Try.pinned (OpenSpec.ofChange fnExactLastFallWrong)

/-- 'laws.FnExactShadeTimes': WHATEVER THE INPUT: true; the input reads as it did. -/
def fnExactShadeTimesSpec : ChangeSpec := { name := "fnExactShadeTimes", fn := fun _ => fun
  | [d] => { results := [.lit (.bool true)], args := [d] }
  | _ => none }
def fnExactShadeTimesRow : OpenClaim := { program := "ytciihopkgblpkaa", sum := "d7a28fbd914abc4b8d19934c8565729a2fb7b84ebf64bdfe278f5f97209c3008", func := "loop.example/g01148/laws.FnExactShadeTimes", spec := "fnExactShadeTimes", apart := false }
def FnExactShadeTimesSaid : Prop := fnExactShadeTimesRow.holds Try.pinned (OpenSpec.ofChange fnExactShadeTimesSpec)

/-- ITS FALSE NEIGHBOUR: 'it returns false'. Refute it at one input. -/
def fnExactShadeTimesWrong : ChangeSpec := { name := "fnExactShadeTimes", fn := fun _ => fun
  | [d] => { results := [.lit (.bool false)], args := [d] }
  | _ => none }
def FnExactShadeTimesWrongFalsely : Prop := fnExactShadeTimesRow.holds Try.pinned (OpenSpec.ofChange fnExactShadeTimesWrong)

/-- 'laws.FnExactMirrorWire': WHATEVER THE INPUT: true; the input reads as it did. -/
def fnExactMirrorWireSpec : ChangeSpec := { name := "fnExactMirrorWire", fn := fun _ => fun
  | [d] => { results := [.lit (.bool true)], args := [d] }
  | _ => none }
def fnExactMirrorWireRow : OpenClaim := { program := "ytciihopkgblpkaa", sum := "d7a28fbd914abc4b8d19934c8565729a2fb7b84ebf64bdfe278f5f97209c3008", func := "loop.example/g01148/laws.FnExactMirrorWire", spec := "fnExactMirrorWire", unfollowed := true, recurses := true, apart := false }
def FnExactMirrorWireSaid : Prop := fnExactMirrorWireRow.holds Try.pinned (OpenSpec.ofChange fnExactMirrorWireSpec)

/-- ITS FALSE NEIGHBOUR: 'it returns false'. Refute it at one input. -/
def fnExactMirrorWireWrong : ChangeSpec := { name := "fnExactMirrorWire", fn := fun _ => fun
  | [d] => { results := [.lit (.bool false)], args := [d] }
  | _ => none }
def FnExactMirrorWireWrongFalsely : Prop := fnExactMirrorWireRow.holds Try.pinned (OpenSpec.ofChange fnExactMirrorWireWrong)

/-- 'laws.FnExactFallsOf': WHATEVER THE INPUT: true; the input reads as it did. -/
def fnExactFallsOfSpec : ChangeSpec := { name := "fnExactFallsOf", fn := fun _ => fun
  | [d] => { results := [.lit (.bool true)], args := [d] }
  | _ => none }
def fnExactFallsOfRow : OpenClaim := { program := "ytciihopkgblpkaa", sum := "d7a28fbd914abc4b8d19934c8565729a2fb7b84ebf64bdfe278f5f97209c3008", func := "loop.example/g01148/laws.FnExactFallsOf", spec := "fnExactFallsOf", recurses := true, apart := false }
def FnExactFallsOfSaid : Prop := fnExactFallsOfRow.holds Try.pinned (OpenSpec.ofChange fnExactFallsOfSpec)

/-- ITS FALSE NEIGHBOUR: 'it returns false'. Refute it at one input. -/
def fnExactFallsOfWrong : ChangeSpec := { name := "fnExactFallsOf", fn := fun _ => fun
  | [d] => { results := [.lit (.bool false)], args := [d] }
  | _ => none }
def FnExactFallsOfWrongFalsely : Prop := fnExactFallsOfRow.holds Try.pinned (OpenSpec.ofChange fnExactFallsOfWrong)

/-- 'laws.FnExactBeadsAt': WHATEVER THE INPUT: true; the input reads as it did. -/
def fnExactBeadsAtSpec : ChangeSpec := { name := "fnExactBeadsAt", fn := fun _ => fun
  | [d1, d2] => { results := [.lit (.bool true)], args := [d1, d2] }
  | _ => none }
def fnExactBeadsAtRow : OpenClaim := { program := "ytciihopkgblpkaa", sum := "d7a28fbd914abc4b8d19934c8565729a2fb7b84ebf64bdfe278f5f97209c3008", func := "loop.example/g01148/laws.FnExactBeadsAt", spec := "fnExactBeadsAt", recurses := true, apart := false }
def FnExactBeadsAtSaid : Prop := fnExactBeadsAtRow.holds Try.pinned (OpenSpec.ofChange fnExactBeadsAtSpec)

/-- ITS FALSE NEIGHBOUR: 'it returns false'. Refute it at one input. -/
def fnExactBeadsAtWrong : ChangeSpec := { name := "fnExactBeadsAt", fn := fun _ => fun
  | [d1, d2] => { results := [.lit (.bool false)], args := [d1, d2] }
  | _ => none }
def FnExactBeadsAtWrongFalsely : Prop := fnExactBeadsAtRow.holds Try.pinned (OpenSpec.ofChange fnExactBeadsAtWrong)

/-- 'laws.FnWires': WHATEVER THE INPUT: true; the input reads as it did. -/
def fnWiresSpec : ChangeSpec := { name := "fnWires", fn := fun _ => fun
  | [d] => { results := [.lit (.bool true)], args := [d] }
  | _ => none }
def fnWiresRow : OpenClaim := { program := "ytciihopkgblpkaa", sum := "d7a28fbd914abc4b8d19934c8565729a2fb7b84ebf64bdfe278f5f97209c3008", func := "loop.example/g01148/laws.FnWires", spec := "fnWires", unfollowed := true, recurses := true, apart := false }
def FnWiresSaid : Prop := fnWiresRow.holds Try.pinned (OpenSpec.ofChange fnWiresSpec)

/-- ITS FALSE NEIGHBOUR: 'it returns false'. Refute it at one input. -/
def fnWiresWrong : ChangeSpec := { name := "fnWires", fn := fun _ => fun
  | [d] => { results := [.lit (.bool false)], args := [d] }
  | _ => none }
def FnWiresWrongFalsely : Prop := fnWiresRow.holds Try.pinned (OpenSpec.ofChange fnWiresWrong)

/- THE SECOND FORM. 'bulk': how many values and letters a reading holds, each counted each time it is reached (what is shared counts as often as it is met; a slice's spare places count too). A statement '..UptoSaid' is the law's where the arguments, and the package variables that the reading takes, are together of bulk at most 1048576: NARROWER than '..Said'. Prove '..Said' where nothing that the law and all that it calls make is longer than what came in: it says more and counts as full. Else prove '..UptoSaid'. A law counts once. -/
mutual
def uptoBulk {H : Type} : DataW H → Nat
  | .lit (.string bytes) => bytes.length + 1
  | .lit _ => 1
  | .nil => 1
  | .ptr d => uptoBulk d + 1
  | .slice elems spare => uptoBulkAll elems + uptoBulkAll spare + 1
  | .agg parts => uptoBulkAll parts + 1
  | .iface _ d => uptoBulk d + 1
  | .map entries => uptoBulkEntries entries + 1
  | .held _ => 1
def uptoBulkAll {H : Type} : List (DataW H) → Nat
  | [] => 0
  | d :: r => uptoBulk d + uptoBulkAll r
def uptoBulkEntries {H : Type} : List (Lit × DataW H) → Nat
  | [] => 0
  | x :: r => uptoBulkEntry x + uptoBulkEntries r
def uptoBulkEntry {H : Type} : Lit × DataW H → Nat
  | (.string bytes, d) => bytes.length + uptoBulk d + 1
  | (_, d) => uptoBulk d + 1
 end
def uptoSmall : (H : Type) → List (DataW H) → Bool := fun _ ds => decide (uptoBulkAll ds ≤ 1048576)
def OpenSpec.upto (s : _root_.Go.ChangeSpec) : _root_.Go.OpenSpec := { _root_.Go.OpenSpec.ofChange s with cond := some uptoSmall }

/-- 'laws.FnExactIsWire', WHERE WHAT IT READS IS OF BULK AT MOST 1048576: true; the input reads as it did. -/
def fnExactIsWireUptoRow : OpenClaim := { program := "ytciihopkgblpkaa", sum := "d7a28fbd914abc4b8d19934c8565729a2fb7b84ebf64bdfe278f5f97209c3008", func := "loop.example/g01148/laws.FnExactIsWire", spec := "fnExactIsWire", apart := false, narrowed := true }
def FnExactIsWireUptoSaid : Prop := fnExactIsWireUptoRow.holds Try.pinned (OpenSpec.upto fnExactIsWireSpec)

/-- 'laws.FnExactCountMeets', WHERE WHAT IT READS IS OF BULK AT MOST 1048576: true; the input reads as it did. -/
def fnExactCountMeetsUptoRow : OpenClaim := { program := "ytciihopkgblpkaa", sum := "d7a28fbd914abc4b8d19934c8565729a2fb7b84ebf64bdfe278f5f97209c3008", func := "loop.example/g01148/laws.FnExactCountMeets", spec := "fnExactCountMeets", apart := false, narrowed := true }
def FnExactCountMeetsUptoSaid : Prop := fnExactCountMeetsUptoRow.holds Try.pinned (OpenSpec.upto fnExactCountMeetsSpec)

/-- 'laws.FnExactLastFall', WHERE WHAT IT READS IS OF BULK AT MOST 1048576: true; the input reads as it did. -/
def fnExactLastFallUptoRow : OpenClaim := { program := "ytciihopkgblpkaa", sum := "d7a28fbd914abc4b8d19934c8565729a2fb7b84ebf64bdfe278f5f97209c3008", func := "loop.example/g01148/laws.FnExactLastFall", spec := "fnExactLastFall", apart := false, narrowed := true }
def FnExactLastFallUptoSaid : Prop := fnExactLastFallUptoRow.holds Try.pinned (OpenSpec.upto fnExactLastFallSpec)

/-- 'laws.FnExactShadeTimes', WHERE WHAT IT READS IS OF BULK AT MOST 1048576: true; the input reads as it did. -/
def fnExactShadeTimesUptoRow : OpenClaim := { program := "ytciihopkgblpkaa", sum := "d7a28fbd914abc4b8d19934c8565729a2fb7b84ebf64bdfe278f5f97209c3008", func := "loop.example/g01148/laws.FnExactShadeTimes", spec := "fnExactShadeTimes", apart := false, narrowed := true }
def FnExactShadeTimesUptoSaid : Prop := fnExactShadeTimesUptoRow.holds Try.pinned (OpenSpec.upto fnExactShadeTimesSpec)

/-- 'laws.FnExactMirrorWire', WHERE WHAT IT READS IS OF BULK AT MOST 1048576: true; the input reads as it did. -/
def fnExactMirrorWireUptoRow : OpenClaim := { program := "ytciihopkgblpkaa", sum := "d7a28fbd914abc4b8d19934c8565729a2fb7b84ebf64bdfe278f5f97209c3008", func := "loop.example/g01148/laws.FnExactMirrorWire", spec := "fnExactMirrorWire", unfollowed := true, recurses := true, apart := false, narrowed := true }
def FnExactMirrorWireUptoSaid : Prop := fnExactMirrorWireUptoRow.holds Try.pinned (OpenSpec.upto fnExactMirrorWireSpec)

/-- 'laws.FnExactFallsOf', WHERE WHAT IT READS IS OF BULK AT MOST 1048576: true; the input reads as it did. -/
def fnExactFallsOfUptoRow : OpenClaim := { program := "ytciihopkgblpkaa", sum := "d7a28fbd914abc4b8d19934c8565729a2fb7b84ebf64bdfe278f5f97209c3008", func := "loop.example/g01148/laws.FnExactFallsOf", spec := "fnExactFallsOf", recurses := true, apart := false, narrowed := true }
def FnExactFallsOfUptoSaid : Prop := fnExactFallsOfUptoRow.holds Try.pinned (OpenSpec.upto fnExactFallsOfSpec)

/-- 'laws.FnExactBeadsAt', WHERE WHAT IT READS IS OF BULK AT MOST 1048576: true; the input reads as it did. -/
def fnExactBeadsAtUptoRow : OpenClaim := { program := "ytciihopkgblpkaa", sum := "d7a28fbd914abc4b8d19934c8565729a2fb7b84ebf64bdfe278f5f97209c3008", func := "loop.example/g01148/laws.FnExactBeadsAt", spec := "fnExactBeadsAt", recurses := true, apart := false, narrowed := true }
def FnExactBeadsAtUptoSaid : Prop := fnExactBeadsAtUptoRow.holds Try.pinned (OpenSpec.upto fnExactBeadsAtSpec)

/-- 'laws.FnWires', WHERE WHAT IT READS IS OF BULK AT MOST 1048576: true; the input reads as it did. -/
def fnWiresUptoRow : OpenClaim := { program := "ytciihopkgblpkaa", sum := "d7a28fbd914abc4b8d19934c8565729a2fb7b84ebf64bdfe278f5f97209c3008", func := "loop.example/g01148/laws.FnWires", spec := "fnWires", unfollowed := true, recurses := true, apart := false, narrowed := true }
def FnWiresUptoSaid : Prop := fnWiresUptoRow.holds Try.pinned (OpenSpec.upto fnWiresSpec)

end Rows
end Go.Proofs.Ytciihopkgblpkaa
