/-
  No cell of these rows narrows 'for every input' (looked for: loops, veiled, ifaces, maps, wideKeys, modest, calm, conditions, laid).
  DERIVED. THE GIVEN ROWS OF THIS SEAT. 7 by the template 'for every input the law returns true; each argument reads behind the call as it read before'; 0 by the template 'total and deterministic' (their statements: YthagkpoinjpmfaaTotals.lean).
  GIVEN WITH THE SEED: the statements are not yours to turn. If you find one false, say at which input.
  Laid BY PROGRAM, IN A SANDBOX (cutbox-rows.mjs): the forced cells as the released guide's own fill.sh prints them over the translation 23982a95cdc8a119… (all of the seat's roots in one cut). By AI agents, Wed Nov 11 2026. No macro, syntax, notation, axiom, sorry.
-/
import Derived.Test.YthagkpoinjpmfaaChecked
import GoSem.Claim
import GoSem.ClaimJoined
import GoSem.ClaimMapViews
import Derived.JoinedTies
import Derived.KernelRfl
namespace Go.Proofs.Ythagkpoinjpmfaa
/- THE CELL 'sum', in the pinned program and in every row, IS THE sha256 OF THE DUMP (.gsa) THAT YthagkpoinjpmfaaProg.lean LOADS. Nothing in Lean hashes anything: it is a label: what it is worth is what the hold of that sum in a sandbox is worth. -/
noncomputable def Try.pinned : Pinned := { name := "ythagkpoinjpmfaa", sum := "23982a95cdc8a119bb2a3e9692e537d3a292ef4b9213fea7b41ee6ee76047fe9", checked := Try.checked }
namespace Rows
def none {H : Type} : Left H := { results := [], args := [] }

/-- 'laws.FnExactFewestCarriers': WHATEVER THE INPUT: true; the input reads as it did. -/
def fnExactFewestCarriersSpec : ChangeSpec := { name := "fnExactFewestCarriers", fn := fun _ => fun
  | [d1, d2, d3, d4] => { results := [.lit (.bool true)], args := [d1, d2, d3, d4] }
  | _ => none }
def fnExactFewestCarriersRow : OpenClaim := { program := "ythagkpoinjpmfaa", sum := "23982a95cdc8a119bb2a3e9692e537d3a292ef4b9213fea7b41ee6ee76047fe9", func := "loop.example/g01148/laws.FnExactFewestCarriers", spec := "fnExactFewestCarriers", plainKeys := false, apart := false }
def FnExactFewestCarriersSaid : Prop := fnExactFewestCarriersRow.holds Try.pinned (OpenSpec.ofChange fnExactFewestCarriersSpec)

/-- ITS FALSE NEIGHBOUR: 'it returns false'. Refute it at one input. -/
def fnExactFewestCarriersWrong : ChangeSpec := { name := "fnExactFewestCarriers", fn := fun _ => fun
  | [d1, d2, d3, d4] => { results := [.lit (.bool false)], args := [d1, d2, d3, d4] }
  | _ => none }
def FnExactFewestCarriersWrongFalsely : Prop := fnExactFewestCarriersRow.holds Try.pinned (OpenSpec.ofChange fnExactFewestCarriersWrong)

/-- 'laws.FnExactRelayPrice': WHATEVER THE INPUT: true; the input reads as it did. -/
def fnExactRelayPriceSpec : ChangeSpec := { name := "fnExactRelayPrice", fn := fun _ => fun
  | [d1, d2, d3, d4, d5] => { results := [.lit (.bool true)], args := [d1, d2, d3, d4, d5] }
  | _ => none }
def fnExactRelayPriceRow : OpenClaim := { program := "ythagkpoinjpmfaa", sum := "23982a95cdc8a119bb2a3e9692e537d3a292ef4b9213fea7b41ee6ee76047fe9", func := "loop.example/g01148/laws.FnExactRelayPrice", spec := "fnExactRelayPrice", plainKeys := false, apart := false }
def FnExactRelayPriceSaid : Prop := fnExactRelayPriceRow.holds Try.pinned (OpenSpec.ofChange fnExactRelayPriceSpec)

/-- ITS FALSE NEIGHBOUR: 'it returns false'. Refute it at one input. -/
def fnExactRelayPriceWrong : ChangeSpec := { name := "fnExactRelayPrice", fn := fun _ => fun
  | [d1, d2, d3, d4, d5] => { results := [.lit (.bool false)], args := [d1, d2, d3, d4, d5] }
  | _ => none }
def FnExactRelayPriceWrongFalsely : Prop := fnExactRelayPriceRow.holds Try.pinned (OpenSpec.ofChange fnExactRelayPriceWrong)

/-- 'laws.FnExactExtraRange': WHATEVER THE INPUT: true; the input reads as it did. -/
def fnExactExtraRangeSpec : ChangeSpec := { name := "fnExactExtraRange", fn := fun _ => fun
  | [d1, d2, d3, d4] => { results := [.lit (.bool true)], args := [d1, d2, d3, d4] }
  | _ => none }
def fnExactExtraRangeRow : OpenClaim := { program := "ythagkpoinjpmfaa", sum := "23982a95cdc8a119bb2a3e9692e537d3a292ef4b9213fea7b41ee6ee76047fe9", func := "loop.example/g01148/laws.FnExactExtraRange", spec := "fnExactExtraRange", plainKeys := false, apart := false }
def FnExactExtraRangeSaid : Prop := fnExactExtraRangeRow.holds Try.pinned (OpenSpec.ofChange fnExactExtraRangeSpec)

/-- ITS FALSE NEIGHBOUR: 'it returns false'. Refute it at one input. -/
def fnExactExtraRangeWrong : ChangeSpec := { name := "fnExactExtraRange", fn := fun _ => fun
  | [d1, d2, d3, d4] => { results := [.lit (.bool false)], args := [d1, d2, d3, d4] }
  | _ => none }
def FnExactExtraRangeWrongFalsely : Prop := fnExactExtraRangeRow.holds Try.pinned (OpenSpec.ofChange fnExactExtraRangeWrong)

/-- 'laws.FnExactRelayArrival': WHATEVER THE INPUT: true; the input reads as it did. -/
def fnExactRelayArrivalSpec : ChangeSpec := { name := "fnExactRelayArrival", fn := fun _ => fun
  | [d1, d2, d3, d4, d5] => { results := [.lit (.bool true)], args := [d1, d2, d3, d4, d5] }
  | _ => none }
def fnExactRelayArrivalRow : OpenClaim := { program := "ythagkpoinjpmfaa", sum := "23982a95cdc8a119bb2a3e9692e537d3a292ef4b9213fea7b41ee6ee76047fe9", func := "loop.example/g01148/laws.FnExactRelayArrival", spec := "fnExactRelayArrival", plainKeys := false, apart := false }
def FnExactRelayArrivalSaid : Prop := fnExactRelayArrivalRow.holds Try.pinned (OpenSpec.ofChange fnExactRelayArrivalSpec)

/-- ITS FALSE NEIGHBOUR: 'it returns false'. Refute it at one input. -/
def fnExactRelayArrivalWrong : ChangeSpec := { name := "fnExactRelayArrival", fn := fun _ => fun
  | [d1, d2, d3, d4, d5] => { results := [.lit (.bool false)], args := [d1, d2, d3, d4, d5] }
  | _ => none }
def FnExactRelayArrivalWrongFalsely : Prop := fnExactRelayArrivalRow.holds Try.pinned (OpenSpec.ofChange fnExactRelayArrivalWrong)

/-- 'laws.FnExactReachOrder': WHATEVER THE INPUT: true; the input reads as it did. -/
def fnExactReachOrderSpec : ChangeSpec := { name := "fnExactReachOrder", fn := fun _ => fun
  | [d1, d2, d3, d4] => { results := [.lit (.bool true)], args := [d1, d2, d3, d4] }
  | _ => none }
def fnExactReachOrderRow : OpenClaim := { program := "ythagkpoinjpmfaa", sum := "23982a95cdc8a119bb2a3e9692e537d3a292ef4b9213fea7b41ee6ee76047fe9", func := "loop.example/g01148/laws.FnExactReachOrder", spec := "fnExactReachOrder", plainKeys := false, apart := false }
def FnExactReachOrderSaid : Prop := fnExactReachOrderRow.holds Try.pinned (OpenSpec.ofChange fnExactReachOrderSpec)

/-- ITS FALSE NEIGHBOUR: 'it returns false'. Refute it at one input. -/
def fnExactReachOrderWrong : ChangeSpec := { name := "fnExactReachOrder", fn := fun _ => fun
  | [d1, d2, d3, d4] => { results := [.lit (.bool false)], args := [d1, d2, d3, d4] }
  | _ => none }
def FnExactReachOrderWrongFalsely : Prop := fnExactReachOrderRow.holds Try.pinned (OpenSpec.ofChange fnExactReachOrderWrong)

/-- 'laws.FnReaches': WHATEVER THE INPUT: true; the input reads as it did. -/
def fnReachesSpec : ChangeSpec := { name := "fnReaches", fn := fun _ => fun
  | [d] => { results := [.lit (.bool true)], args := [d] }
  | _ => none }
def fnReachesRow : OpenClaim := { program := "ythagkpoinjpmfaa", sum := "23982a95cdc8a119bb2a3e9692e537d3a292ef4b9213fea7b41ee6ee76047fe9", func := "loop.example/g01148/laws.FnReaches", spec := "fnReaches", unfollowed := true, recurses := true, plainKeys := false, apart := false }
def FnReachesSaid : Prop := fnReachesRow.holds Try.pinned (OpenSpec.ofChange fnReachesSpec)

/-- ITS FALSE NEIGHBOUR: 'it returns false'. Refute it at one input. -/
def fnReachesWrong : ChangeSpec := { name := "fnReaches", fn := fun _ => fun
  | [d] => { results := [.lit (.bool false)], args := [d] }
  | _ => none }
def FnReachesWrongFalsely : Prop := fnReachesRow.holds Try.pinned (OpenSpec.ofChange fnReachesWrong)

/-- 'laws.FnRelays': WHATEVER THE INPUT: true; the input reads as it did. -/
def fnRelaysSpec : ChangeSpec := { name := "fnRelays", fn := fun _ => fun
  | [d] => { results := [.lit (.bool true)], args := [d] }
  | _ => none }
def fnRelaysRow : OpenClaim := { program := "ythagkpoinjpmfaa", sum := "23982a95cdc8a119bb2a3e9692e537d3a292ef4b9213fea7b41ee6ee76047fe9", func := "loop.example/g01148/laws.FnRelays", spec := "fnRelays", unfollowed := true, recurses := true, plainKeys := false, apart := false }
def FnRelaysSaid : Prop := fnRelaysRow.holds Try.pinned (OpenSpec.ofChange fnRelaysSpec)

/-- ITS FALSE NEIGHBOUR: 'it returns false'. Refute it at one input. -/
def fnRelaysWrong : ChangeSpec := { name := "fnRelays", fn := fun _ => fun
  | [d] => { results := [.lit (.bool false)], args := [d] }
  | _ => none }
def FnRelaysWrongFalsely : Prop := fnRelaysRow.holds Try.pinned (OpenSpec.ofChange fnRelaysWrong)

/- THE SECOND FORM. 'bulk': how many values and letters a reading holds, each counted each time it is reached (what is shared counts as often as it is met; a slice's spare places count too). A statement '..UptoSaid' is the law's where the arguments, and the package variables that the reading takes, are together of bulk at most 1048576: NARROWER than '..Said'. Prove '..Said' where nothing that the law and all that it calls make is longer than what came in: it says more and counts as full. Else prove '..UptoSaid'. A law counts once. -/
mutual
def uptoBulk {H : Type} : DataW H → Nat
  | .lit (.string bytes) => bytes.length + 1
  | .lit _ => 1
  | .nil => 1
  | .ptr d => uptoBulk d + 1
  | .slice elems spare => uptoBulkAll elems + uptoBulkAll spare + 1
  | .agg parts => uptoBulkAll parts + 1
  | .iface _ d => uptoBulk d + 1
  | .map entries => uptoBulkEntries entries + 1
  | .held _ => 1
def uptoBulkAll {H : Type} : List (DataW H) → Nat
  | [] => 0
  | d :: r => uptoBulk d + uptoBulkAll r
def uptoBulkEntries {H : Type} : List (Lit × DataW H) → Nat
  | [] => 0
  | x :: r => uptoBulkEntry x + uptoBulkEntries r
def uptoBulkEntry {H : Type} : Lit × DataW H → Nat
  | (.string bytes, d) => bytes.length + uptoBulk d + 1
  | (_, d) => uptoBulk d + 1
 end
def uptoSmall : (H : Type) → List (DataW H) → Bool := fun _ ds => decide (uptoBulkAll ds ≤ 1048576)
def OpenSpec.upto (s : _root_.Go.ChangeSpec) : _root_.Go.OpenSpec := { _root_.Go.OpenSpec.ofChange s with cond := some uptoSmall }

/-- 'laws.FnExactFewestCarriers', WHERE WHAT IT READS IS OF BULK AT MOST 1048576: true; the input reads as it did. -/
def fnExactFewestCarriersUptoRow : OpenClaim := { program := "ythagkpoinjpmfaa", sum := "23982a95cdc8a119bb2a3e9692e537d3a292ef4b9213fea7b41ee6ee76047fe9", func := "loop.example/g01148/laws.FnExactFewestCarriers", spec := "fnExactFewestCarriers", plainKeys := false, apart := false, narrowed := true }
def FnExactFewestCarriersUptoSaid : Prop := fnExactFewestCarriersUptoRow.holds Try.pinned (OpenSpec.upto fnExactFewestCarriersSpec)

/-- 'laws.FnExactRelayPrice', WHERE WHAT IT READS IS OF BULK AT MOST 1048576: true; the input reads as it did. -/
def fnExactRelayPriceUptoRow : OpenClaim := { program := "ythagkpoinjpmfaa", sum := "23982a95cdc8a119bb2a3e9692e537d3a292ef4b9213fea7b41ee6ee76047fe9", func := "loop.example/g01148/laws.FnExactRelayPrice", spec := "fnExactRelayPrice", plainKeys := false, apart := false, narrowed := true }
def FnExactRelayPriceUptoSaid : Prop := fnExactRelayPriceUptoRow.holds Try.pinned (OpenSpec.upto fnExactRelayPriceSpec)

/-- 'laws.FnExactExtraRange', WHERE WHAT IT READS IS OF BULK AT MOST 1048576: true; the input reads as it did. -/
def fnExactExtraRangeUptoRow : OpenClaim := { program := "ythagkpoinjpmfaa", sum := "23982a95cdc8a119bb2a3e9692e537d3a292ef4b9213fea7b41ee6ee76047fe9", func := "loop.example/g01148/laws.FnExactExtraRange", spec := "fnExactExtraRange", plainKeys := false, apart := false, narrowed := true }
def FnExactExtraRangeUptoSaid : Prop := fnExactExtraRangeUptoRow.holds Try.pinned (OpenSpec.upto fnExactExtraRangeSpec)

/-- 'laws.FnExactRelayArrival', WHERE WHAT IT READS IS OF BULK AT MOST 1048576: true; the input reads as it did. -/
def fnExactRelayArrivalUptoRow : OpenClaim := { program := "ythagkpoinjpmfaa", sum := "23982a95cdc8a119bb2a3e9692e537d3a292ef4b9213fea7b41ee6ee76047fe9", func := "loop.example/g01148/laws.FnExactRelayArrival", spec := "fnExactRelayArrival", plainKeys := false, apart := false, narrowed := true }
def FnExactRelayArrivalUptoSaid : Prop := fnExactRelayArrivalUptoRow.holds Try.pinned (OpenSpec.upto fnExactRelayArrivalSpec)

/-- 'laws.FnExactReachOrder', WHERE WHAT IT READS IS OF BULK AT MOST 1048576: true; the input reads as it did. -/
def fnExactReachOrderUptoRow : OpenClaim := { program := "ythagkpoinjpmfaa", sum := "23982a95cdc8a119bb2a3e9692e537d3a292ef4b9213fea7b41ee6ee76047fe9", func := "loop.example/g01148/laws.FnExactReachOrder", spec := "fnExactReachOrder", plainKeys := false, apart := false, narrowed := true }
def FnExactReachOrderUptoSaid : Prop := fnExactReachOrderUptoRow.holds Try.pinned (OpenSpec.upto fnExactReachOrderSpec)

/-- 'laws.FnReaches', WHERE WHAT IT READS IS OF BULK AT MOST 1048576: true; the input reads as it did. -/
def fnReachesUptoRow : OpenClaim := { program := "ythagkpoinjpmfaa", sum := "23982a95cdc8a119bb2a3e9692e537d3a292ef4b9213fea7b41ee6ee76047fe9", func := "loop.example/g01148/laws.FnReaches", spec := "fnReaches", unfollowed := true, recurses := true, plainKeys := false, apart := false, narrowed := true }
def FnReachesUptoSaid : Prop := fnReachesUptoRow.holds Try.pinned (OpenSpec.upto fnReachesSpec)

/-- 'laws.FnRelays', WHERE WHAT IT READS IS OF BULK AT MOST 1048576: true; the input reads as it did. -/
def fnRelaysUptoRow : OpenClaim := { program := "ythagkpoinjpmfaa", sum := "23982a95cdc8a119bb2a3e9692e537d3a292ef4b9213fea7b41ee6ee76047fe9", func := "loop.example/g01148/laws.FnRelays", spec := "fnRelays", unfollowed := true, recurses := true, plainKeys := false, apart := false, narrowed := true }
def FnRelaysUptoSaid : Prop := fnRelaysUptoRow.holds Try.pinned (OpenSpec.upto fnRelaysSpec)

end Rows
end Go.Proofs.Ythagkpoinjpmfaa
