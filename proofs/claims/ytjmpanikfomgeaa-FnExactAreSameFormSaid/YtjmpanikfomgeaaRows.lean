/-
  No cell of these rows narrows 'for every input' (looked for: loops, veiled, ifaces, maps, wideKeys, modest, calm, conditions, laid).
  DERIVED. THE GIVEN ROWS OF THIS SEAT. 11 by the template 'for every input the law returns true; each argument reads behind the call as it read before'; 0 by the template 'total and deterministic' (their statements: YtjmpanikfomgeaaTotals.lean).
  GIVEN WITH THE SEED: the statements are not yours to turn. If you find one false, say at which input.
  Laid BY PROGRAM, IN A SANDBOX (cutbox-rows.mjs): the forced cells as the released guide's own fill.sh prints them over the translation 2ae35a4a6cead369… (all of the seat's roots in one cut). By AI agents, Wed Nov 11 2026. No macro, syntax, notation, axiom, sorry.
-/
import Derived.Test.YtjmpanikfomgeaaChecked
import GoSem.Claim
import GoSem.ClaimJoined
import GoSem.ClaimMapViews
import Derived.JoinedTies
import Derived.KernelRfl
namespace Go.Proofs.Ytjmpanikfomgeaa
/- THE CELL 'sum', in the pinned program and in every row, IS THE sha256 OF THE DUMP (.gsa) THAT YtjmpanikfomgeaaProg.lean LOADS. Nothing in Lean hashes anything: it is a label: what it is worth is what the hold of that sum in a sandbox is worth. -/
noncomputable def Try.pinned : Pinned := { name := "ytjmpanikfomgeaa", sum := "2ae35a4a6cead369c5150f61f9f4e72b79e9579136b24f1b5ede688e9b7817bf", checked := Try.checked }
namespace Rows
def none {H : Type} : Left H := { results := [], args := [] }

/-- 'laws.FnExactIsRobotRule': WHATEVER THE INPUT: true; the input reads as it did. -/
def fnExactIsRobotRuleSpec : ChangeSpec := { name := "fnExactIsRobotRule", fn := fun _ => fun
  | [d] => { results := [.lit (.bool true)], args := [d] }
  | _ => none }
def fnExactIsRobotRuleRow : OpenClaim := { program := "ytjmpanikfomgeaa", sum := "2ae35a4a6cead369c5150f61f9f4e72b79e9579136b24f1b5ede688e9b7817bf", func := "loop.example/g01148/laws.FnExactIsRobotRule", spec := "fnExactIsRobotRule", apart := false }
def FnExactIsRobotRuleSaid : Prop := fnExactIsRobotRuleRow.holds Try.pinned (OpenSpec.ofChange fnExactIsRobotRuleSpec)

/-- ITS FALSE NEIGHBOUR: 'it returns false'. Refute it at one input. -/
def fnExactIsRobotRuleWrong : ChangeSpec := { name := "fnExactIsRobotRule", fn := fun _ => fun
  | [d] => { results := [.lit (.bool false)], args := [d] }
  | _ => none }
def FnExactIsRobotRuleWrongFalsely : Prop := fnExactIsRobotRuleRow.holds Try.pinned (OpenSpec.ofChange fnExactIsRobotRuleWrong)

/-- 'laws.FnExactIsCrowd': WHATEVER THE INPUT: true; the input reads as it did. -/
def fnExactIsCrowdSpec : ChangeSpec := { name := "fnExactIsCrowd", fn := fun _ => fun
  | [d] => { results := [.lit (.bool true)], args := [d] }
  | _ => none }
def fnExactIsCrowdRow : OpenClaim := { program := "ytjmpanikfomgeaa", sum := "2ae35a4a6cead369c5150f61f9f4e72b79e9579136b24f1b5ede688e9b7817bf", func := "loop.example/g01148/laws.FnExactIsCrowd", spec := "fnExactIsCrowd", apart := false }
def FnExactIsCrowdSaid : Prop := fnExactIsCrowdRow.holds Try.pinned (OpenSpec.ofChange fnExactIsCrowdSpec)

/-- ITS FALSE NEIGHBOUR: 'it returns false'. Refute it at one input. -/
def fnExactIsCrowdWrong : ChangeSpec := { name := "fnExactIsCrowd", fn := fun _ => fun
  | [d] => { results := [.lit (.bool false)], args := [d] }
  | _ => none }
def FnExactIsCrowdWrongFalsely : Prop := fnExactIsCrowdRow.holds Try.pinned (OpenSpec.ofChange fnExactIsCrowdWrong)

/-- 'laws.FnExactGapsOf': WHATEVER THE INPUT: true; the input reads as it did. -/
def fnExactGapsOfSpec : ChangeSpec := { name := "fnExactGapsOf", fn := fun _ => fun
  | [d1, d2] => { results := [.lit (.bool true)], args := [d1, d2] }
  | _ => none }
def fnExactGapsOfRow : OpenClaim := { program := "ytjmpanikfomgeaa", sum := "2ae35a4a6cead369c5150f61f9f4e72b79e9579136b24f1b5ede688e9b7817bf", func := "loop.example/g01148/laws.FnExactGapsOf", spec := "fnExactGapsOf", apart := false }
def FnExactGapsOfSaid : Prop := fnExactGapsOfRow.holds Try.pinned (OpenSpec.ofChange fnExactGapsOfSpec)

/-- ITS FALSE NEIGHBOUR: 'it returns false'. Refute it at one input. -/
def fnExactGapsOfWrong : ChangeSpec := { name := "fnExactGapsOf", fn := fun _ => fun
  | [d1, d2] => { results := [.lit (.bool false)], args := [d1, d2] }
  | _ => none }
def FnExactGapsOfWrongFalsely : Prop := fnExactGapsOfRow.holds Try.pinned (OpenSpec.ofChange fnExactGapsOfWrong)

/-- 'laws.FnExactViewOf': WHATEVER THE INPUT: true; the input reads as it did. -/
def fnExactViewOfSpec : ChangeSpec := { name := "fnExactViewOf", fn := fun _ => fun
  | [d1, d2] => { results := [.lit (.bool true)], args := [d1, d2] }
  | _ => none }
def fnExactViewOfRow : OpenClaim := { program := "ytjmpanikfomgeaa", sum := "2ae35a4a6cead369c5150f61f9f4e72b79e9579136b24f1b5ede688e9b7817bf", func := "loop.example/g01148/laws.FnExactViewOf", spec := "fnExactViewOf", apart := false }
def FnExactViewOfSaid : Prop := fnExactViewOfRow.holds Try.pinned (OpenSpec.ofChange fnExactViewOfSpec)

/-- ITS FALSE NEIGHBOUR: 'it returns false'. Refute it at one input. -/
def fnExactViewOfWrong : ChangeSpec := { name := "fnExactViewOf", fn := fun _ => fun
  | [d1, d2] => { results := [.lit (.bool false)], args := [d1, d2] }
  | _ => none }
def FnExactViewOfWrongFalsely : Prop := fnExactViewOfRow.holds Try.pinned (OpenSpec.ofChange fnExactViewOfWrong)

/-- 'laws.FnExactMirrorCrowd': WHATEVER THE INPUT: true; the input reads as it did. -/
def fnExactMirrorCrowdSpec : ChangeSpec := { name := "fnExactMirrorCrowd", fn := fun _ => fun
  | [d] => { results := [.lit (.bool true)], args := [d] }
  | _ => none }
def fnExactMirrorCrowdRow : OpenClaim := { program := "ytjmpanikfomgeaa", sum := "2ae35a4a6cead369c5150f61f9f4e72b79e9579136b24f1b5ede688e9b7817bf", func := "loop.example/g01148/laws.FnExactMirrorCrowd", spec := "fnExactMirrorCrowd", unfollowed := true, recurses := true, apart := false }
def FnExactMirrorCrowdSaid : Prop := fnExactMirrorCrowdRow.holds Try.pinned (OpenSpec.ofChange fnExactMirrorCrowdSpec)

/-- ITS FALSE NEIGHBOUR: 'it returns false'. Refute it at one input. -/
def fnExactMirrorCrowdWrong : ChangeSpec := { name := "fnExactMirrorCrowd", fn := fun _ => fun
  | [d] => { results := [.lit (.bool false)], args := [d] }
  | _ => none }
def FnExactMirrorCrowdWrongFalsely : Prop := fnExactMirrorCrowdRow.holds Try.pinned (OpenSpec.ofChange fnExactMirrorCrowdWrong)

/-- 'laws.FnExactTurnCrowd': WHATEVER THE INPUT: true; the input reads as it did. -/
def fnExactTurnCrowdSpec : ChangeSpec := { name := "fnExactTurnCrowd", fn := fun _ => fun
  | [d1, d2] => { results := [.lit (.bool true)], args := [d1, d2] }
  | _ => none }
def fnExactTurnCrowdRow : OpenClaim := { program := "ytjmpanikfomgeaa", sum := "2ae35a4a6cead369c5150f61f9f4e72b79e9579136b24f1b5ede688e9b7817bf", func := "loop.example/g01148/laws.FnExactTurnCrowd", spec := "fnExactTurnCrowd", unfollowed := true, recurses := true, apart := false }
def FnExactTurnCrowdSaid : Prop := fnExactTurnCrowdRow.holds Try.pinned (OpenSpec.ofChange fnExactTurnCrowdSpec)

/-- ITS FALSE NEIGHBOUR: 'it returns false'. Refute it at one input. -/
def fnExactTurnCrowdWrong : ChangeSpec := { name := "fnExactTurnCrowd", fn := fun _ => fun
  | [d1, d2] => { results := [.lit (.bool false)], args := [d1, d2] }
  | _ => none }
def FnExactTurnCrowdWrongFalsely : Prop := fnExactTurnCrowdRow.holds Try.pinned (OpenSpec.ofChange fnExactTurnCrowdWrong)

/-- 'laws.FnExactPeriodOf': WHATEVER THE INPUT: true; the input reads as it did. -/
def fnExactPeriodOfSpec : ChangeSpec := { name := "fnExactPeriodOf", fn := fun _ => fun
  | [d] => { results := [.lit (.bool true)], args := [d] }
  | _ => none }
def fnExactPeriodOfRow : OpenClaim := { program := "ytjmpanikfomgeaa", sum := "2ae35a4a6cead369c5150f61f9f4e72b79e9579136b24f1b5ede688e9b7817bf", func := "loop.example/g01148/laws.FnExactPeriodOf", spec := "fnExactPeriodOf", unfollowed := true, recurses := true, apart := false }
def FnExactPeriodOfSaid : Prop := fnExactPeriodOfRow.holds Try.pinned (OpenSpec.ofChange fnExactPeriodOfSpec)

/-- ITS FALSE NEIGHBOUR: 'it returns false'. Refute it at one input. -/
def fnExactPeriodOfWrong : ChangeSpec := { name := "fnExactPeriodOf", fn := fun _ => fun
  | [d] => { results := [.lit (.bool false)], args := [d] }
  | _ => none }
def FnExactPeriodOfWrongFalsely : Prop := fnExactPeriodOfRow.holds Try.pinned (OpenSpec.ofChange fnExactPeriodOfWrong)

/-- 'laws.FnExactAxesOf': WHATEVER THE INPUT: true; the input reads as it did. -/
def fnExactAxesOfSpec : ChangeSpec := { name := "fnExactAxesOf", fn := fun _ => fun
  | [d] => { results := [.lit (.bool true)], args := [d] }
  | _ => none }
def fnExactAxesOfRow : OpenClaim := { program := "ytjmpanikfomgeaa", sum := "2ae35a4a6cead369c5150f61f9f4e72b79e9579136b24f1b5ede688e9b7817bf", func := "loop.example/g01148/laws.FnExactAxesOf", spec := "fnExactAxesOf", unfollowed := true, recurses := true, apart := false }
def FnExactAxesOfSaid : Prop := fnExactAxesOfRow.holds Try.pinned (OpenSpec.ofChange fnExactAxesOfSpec)

/-- ITS FALSE NEIGHBOUR: 'it returns false'. Refute it at one input. -/
def fnExactAxesOfWrong : ChangeSpec := { name := "fnExactAxesOf", fn := fun _ => fun
  | [d] => { results := [.lit (.bool false)], args := [d] }
  | _ => none }
def FnExactAxesOfWrongFalsely : Prop := fnExactAxesOfRow.holds Try.pinned (OpenSpec.ofChange fnExactAxesOfWrong)

/-- 'laws.FnExactIsRigid': WHATEVER THE INPUT: true; the input reads as it did. -/
def fnExactIsRigidSpec : ChangeSpec := { name := "fnExactIsRigid", fn := fun _ => fun
  | [d] => { results := [.lit (.bool true)], args := [d] }
  | _ => none }
def fnExactIsRigidRow : OpenClaim := { program := "ytjmpanikfomgeaa", sum := "2ae35a4a6cead369c5150f61f9f4e72b79e9579136b24f1b5ede688e9b7817bf", func := "loop.example/g01148/laws.FnExactIsRigid", spec := "fnExactIsRigid", unfollowed := true, recurses := true, apart := false }
def FnExactIsRigidSaid : Prop := fnExactIsRigidRow.holds Try.pinned (OpenSpec.ofChange fnExactIsRigidSpec)

/-- ITS FALSE NEIGHBOUR: 'it returns false'. Refute it at one input. -/
def fnExactIsRigidWrong : ChangeSpec := { name := "fnExactIsRigid", fn := fun _ => fun
  | [d] => { results := [.lit (.bool false)], args := [d] }
  | _ => none }
def FnExactIsRigidWrongFalsely : Prop := fnExactIsRigidRow.holds Try.pinned (OpenSpec.ofChange fnExactIsRigidWrong)

/-- 'laws.FnExactCountForms': WHATEVER THE INPUT: true; the input reads as it did. -/
def fnExactCountFormsSpec : ChangeSpec := { name := "fnExactCountForms", fn := fun _ => fun
  | [d1, d2] => { results := [.lit (.bool true)], args := [d1, d2] }
  | _ => none }
def fnExactCountFormsRow : OpenClaim := { program := "ytjmpanikfomgeaa", sum := "2ae35a4a6cead369c5150f61f9f4e72b79e9579136b24f1b5ede688e9b7817bf", func := "loop.example/g01148/laws.FnExactCountForms", spec := "fnExactCountForms", unfollowed := true, recurses := true, apart := false }
def FnExactCountFormsSaid : Prop := fnExactCountFormsRow.holds Try.pinned (OpenSpec.ofChange fnExactCountFormsSpec)

/-- ITS FALSE NEIGHBOUR: 'it returns false'. Refute it at one input. -/
def fnExactCountFormsWrong : ChangeSpec := { name := "fnExactCountForms", fn := fun _ => fun
  | [d1, d2] => { results := [.lit (.bool false)], args := [d1, d2] }
  | _ => none }
def FnExactCountFormsWrongFalsely : Prop := fnExactCountFormsRow.holds Try.pinned (OpenSpec.ofChange fnExactCountFormsWrong)

/-- 'laws.FnExactAreSameForm': WHATEVER THE INPUT: true; the input reads as it did. -/
def fnExactAreSameFormSpec : ChangeSpec := { name := "fnExactAreSameForm", fn := fun _ => fun
  | [d1, d2] => { results := [.lit (.bool true)], args := [d1, d2] }
  | _ => none }
def fnExactAreSameFormRow : OpenClaim := { program := "ytjmpanikfomgeaa", sum := "2ae35a4a6cead369c5150f61f9f4e72b79e9579136b24f1b5ede688e9b7817bf", func := "loop.example/g01148/laws.FnExactAreSameForm", spec := "fnExactAreSameForm", unfollowed := true, recurses := true, apart := false }
def FnExactAreSameFormSaid : Prop := fnExactAreSameFormRow.holds Try.pinned (OpenSpec.ofChange fnExactAreSameFormSpec)

/-- ITS FALSE NEIGHBOUR: 'it returns false'. Refute it at one input. -/
def fnExactAreSameFormWrong : ChangeSpec := { name := "fnExactAreSameForm", fn := fun _ => fun
  | [d1, d2] => { results := [.lit (.bool false)], args := [d1, d2] }
  | _ => none }
def FnExactAreSameFormWrongFalsely : Prop := fnExactAreSameFormRow.holds Try.pinned (OpenSpec.ofChange fnExactAreSameFormWrong)

/- THE SECOND FORM. 'bulk': how many values and letters a reading holds, each counted each time it is reached (what is shared counts as often as it is met; a slice's spare places count too). A statement '..UptoSaid' is the law's where the arguments, and the package variables that the reading takes, are together of bulk at most 1048576: NARROWER than '..Said'. Prove '..Said' where nothing that the law and all that it calls make is longer than what came in: it says more and counts as full. Else prove '..UptoSaid'. A law counts once. -/
mutual
def uptoBulk {H : Type} : DataW H → Nat
  | .lit (.string bytes) => bytes.length + 1
  | .lit _ => 1
  | .nil => 1
  | .ptr d => uptoBulk d + 1
  | .slice elems spare => uptoBulkAll elems + uptoBulkAll spare + 1
  | .agg parts => uptoBulkAll parts + 1
  | .iface _ d => uptoBulk d + 1
  | .map entries => uptoBulkEntries entries + 1
  | .held _ => 1
def uptoBulkAll {H : Type} : List (DataW H) → Nat
  | [] => 0
  | d :: r => uptoBulk d + uptoBulkAll r
def uptoBulkEntries {H : Type} : List (Lit × DataW H) → Nat
  | [] => 0
  | x :: r => uptoBulkEntry x + uptoBulkEntries r
def uptoBulkEntry {H : Type} : Lit × DataW H → Nat
  | (.string bytes, d) => bytes.length + uptoBulk d + 1
  | (_, d) => uptoBulk d + 1
 end
def uptoSmall : (H : Type) → List (DataW H) → Bool := fun _ ds => decide (uptoBulkAll ds ≤ 1048576)
def OpenSpec.upto (s : _root_.Go.ChangeSpec) : _root_.Go.OpenSpec := { _root_.Go.OpenSpec.ofChange s with cond := some uptoSmall }

/-- 'laws.FnExactIsRobotRule', WHERE WHAT IT READS IS OF BULK AT MOST 1048576: true; the input reads as it did. -/
def fnExactIsRobotRuleUptoRow : OpenClaim := { program := "ytjmpanikfomgeaa", sum := "2ae35a4a6cead369c5150f61f9f4e72b79e9579136b24f1b5ede688e9b7817bf", func := "loop.example/g01148/laws.FnExactIsRobotRule", spec := "fnExactIsRobotRule", apart := false, narrowed := true }
def FnExactIsRobotRuleUptoSaid : Prop := fnExactIsRobotRuleUptoRow.holds Try.pinned (OpenSpec.upto fnExactIsRobotRuleSpec)

/-- 'laws.FnExactIsCrowd', WHERE WHAT IT READS IS OF BULK AT MOST 1048576: true; the input reads as it did. -/
def fnExactIsCrowdUptoRow : OpenClaim := { program := "ytjmpanikfomgeaa", sum := "2ae35a4a6cead369c5150f61f9f4e72b79e9579136b24f1b5ede688e9b7817bf", func := "loop.example/g01148/laws.FnExactIsCrowd", spec := "fnExactIsCrowd", apart := false, narrowed := true }
def FnExactIsCrowdUptoSaid : Prop := fnExactIsCrowdUptoRow.holds Try.pinned (OpenSpec.upto fnExactIsCrowdSpec)

/-- 'laws.FnExactGapsOf', WHERE WHAT IT READS IS OF BULK AT MOST 1048576: true; the input reads as it did. -/
def fnExactGapsOfUptoRow : OpenClaim := { program := "ytjmpanikfomgeaa", sum := "2ae35a4a6cead369c5150f61f9f4e72b79e9579136b24f1b5ede688e9b7817bf", func := "loop.example/g01148/laws.FnExactGapsOf", spec := "fnExactGapsOf", apart := false, narrowed := true }
def FnExactGapsOfUptoSaid : Prop := fnExactGapsOfUptoRow.holds Try.pinned (OpenSpec.upto fnExactGapsOfSpec)

/-- 'laws.FnExactViewOf', WHERE WHAT IT READS IS OF BULK AT MOST 1048576: true; the input reads as it did. -/
def fnExactViewOfUptoRow : OpenClaim := { program := "ytjmpanikfomgeaa", sum := "2ae35a4a6cead369c5150f61f9f4e72b79e9579136b24f1b5ede688e9b7817bf", func := "loop.example/g01148/laws.FnExactViewOf", spec := "fnExactViewOf", apart := false, narrowed := true }
def FnExactViewOfUptoSaid : Prop := fnExactViewOfUptoRow.holds Try.pinned (OpenSpec.upto fnExactViewOfSpec)

/-- 'laws.FnExactMirrorCrowd', WHERE WHAT IT READS IS OF BULK AT MOST 1048576: true; the input reads as it did. -/
def fnExactMirrorCrowdUptoRow : OpenClaim := { program := "ytjmpanikfomgeaa", sum := "2ae35a4a6cead369c5150f61f9f4e72b79e9579136b24f1b5ede688e9b7817bf", func := "loop.example/g01148/laws.FnExactMirrorCrowd", spec := "fnExactMirrorCrowd", unfollowed := true, recurses := true, apart := false, narrowed := true }
def FnExactMirrorCrowdUptoSaid : Prop := fnExactMirrorCrowdUptoRow.holds Try.pinned (OpenSpec.upto fnExactMirrorCrowdSpec)

/-- 'laws.FnExactTurnCrowd', WHERE WHAT IT READS IS OF BULK AT MOST 1048576: true; the input reads as it did. -/
def fnExactTurnCrowdUptoRow : OpenClaim := { program := "ytjmpanikfomgeaa", sum := "2ae35a4a6cead369c5150f61f9f4e72b79e9579136b24f1b5ede688e9b7817bf", func := "loop.example/g01148/laws.FnExactTurnCrowd", spec := "fnExactTurnCrowd", unfollowed := true, recurses := true, apart := false, narrowed := true }
def FnExactTurnCrowdUptoSaid : Prop := fnExactTurnCrowdUptoRow.holds Try.pinned (OpenSpec.upto fnExactTurnCrowdSpec)

/-- 'laws.FnExactPeriodOf', WHERE WHAT IT READS IS OF BULK AT MOST 1048576: true; the input reads as it did. -/
def fnExactPeriodOfUptoRow : OpenClaim := { program := "ytjmpanikfomgeaa", sum := "2ae35a4a6cead369c5150f61f9f4e72b79e9579136b24f1b5ede688e9b7817bf", func := "loop.example/g01148/laws.FnExactPeriodOf", spec := "fnExactPeriodOf", unfollowed := true, recurses := true, apart := false, narrowed := true }
def FnExactPeriodOfUptoSaid : Prop := fnExactPeriodOfUptoRow.holds Try.pinned (OpenSpec.upto fnExactPeriodOfSpec)

/-- 'laws.FnExactAxesOf', WHERE WHAT IT READS IS OF BULK AT MOST 1048576: true; the input reads as it did. -/
def fnExactAxesOfUptoRow : OpenClaim := { program := "ytjmpanikfomgeaa", sum := "2ae35a4a6cead369c5150f61f9f4e72b79e9579136b24f1b5ede688e9b7817bf", func := "loop.example/g01148/laws.FnExactAxesOf", spec := "fnExactAxesOf", unfollowed := true, recurses := true, apart := false, narrowed := true }
def FnExactAxesOfUptoSaid : Prop := fnExactAxesOfUptoRow.holds Try.pinned (OpenSpec.upto fnExactAxesOfSpec)

/-- 'laws.FnExactIsRigid', WHERE WHAT IT READS IS OF BULK AT MOST 1048576: true; the input reads as it did. -/
def fnExactIsRigidUptoRow : OpenClaim := { program := "ytjmpanikfomgeaa", sum := "2ae35a4a6cead369c5150f61f9f4e72b79e9579136b24f1b5ede688e9b7817bf", func := "loop.example/g01148/laws.FnExactIsRigid", spec := "fnExactIsRigid", unfollowed := true, recurses := true, apart := false, narrowed := true }
def FnExactIsRigidUptoSaid : Prop := fnExactIsRigidUptoRow.holds Try.pinned (OpenSpec.upto fnExactIsRigidSpec)

/-- 'laws.FnExactCountForms', WHERE WHAT IT READS IS OF BULK AT MOST 1048576: true; the input reads as it did. -/
def fnExactCountFormsUptoRow : OpenClaim := { program := "ytjmpanikfomgeaa", sum := "2ae35a4a6cead369c5150f61f9f4e72b79e9579136b24f1b5ede688e9b7817bf", func := "loop.example/g01148/laws.FnExactCountForms", spec := "fnExactCountForms", unfollowed := true, recurses := true, apart := false, narrowed := true }
def FnExactCountFormsUptoSaid : Prop := fnExactCountFormsUptoRow.holds Try.pinned (OpenSpec.upto fnExactCountFormsSpec)

/-- 'laws.FnExactAreSameForm', WHERE WHAT IT READS IS OF BULK AT MOST 1048576: true; the input reads as it did. -/
def fnExactAreSameFormUptoRow : OpenClaim := { program := "ytjmpanikfomgeaa", sum := "2ae35a4a6cead369c5150f61f9f4e72b79e9579136b24f1b5ede688e9b7817bf", func := "loop.example/g01148/laws.FnExactAreSameForm", spec := "fnExactAreSameForm", unfollowed := true, recurses := true, apart := false, narrowed := true }
def FnExactAreSameFormUptoSaid : Prop := fnExactAreSameFormUptoRow.holds Try.pinned (OpenSpec.upto fnExactAreSameFormSpec)

end Rows
end Go.Proofs.Ytjmpanikfomgeaa
