/- Functions that the law FnLanes comes to, as Lean functions, with the proof that the Go code does what they say: written by a program of this session over the kit's print. No condition but those named. -/
import Derived.Test.YthkbjcihelmaeaaProg
import Derived.Below
import Derived.Deep.Draws
import Derived.Deep.AppendLies
import Derived.Maps.AppendAt
import Derived.OwnWalk
import Derived.Laws.BytesArg
import Derived.Laws.MakeOwn
import Derived.Laws.OwnMore
import Derived.Deep.OwnRows
import Derived.Tactics
import Derived.Lib.ConvBytes
import Derived.Laws.Slices
import Derived.WalkKit
import Derived.KernelRfl
import Derived.RowKit3
import Derived.Deep.LoopGhost
import Derived.Deep.QuietTactic
import Derived.BigQuiet
import Derived.WideLaws
import Derived.Deep.DeepCutAuto
import Derived.Deep.CutBlock
import Derived.Deep.RegionHeld3
import Derived.Laws.Rows
import Derived.Lib.AppendStr
import Derived.ArgAppend
import Derived.Laws.IdiomCopy
import Derived.OrdersHeld
import Derived.Laws.BitsLemmas
import Derived.RowKit
import Derived.Test.YthkbjcihelmaeaaShort
import Derived.Test.YthkbjcihelmaeaaMapped
import Derived.Test.YthkbjcihelmaeaaWWords
import Derived.Test.YthkbjcihelmaeaaWLast
import Derived.Test.YthkbjcihelmaeaaWTab
import Derived.Test.YthkbjcihelmaeaaWFour
import Derived.Test.YthkbjcihelmaeaaWQPut
import Derived.Test.YthkbjcihelmaeaaWApart
import Derived.Test.YthkbjcihelmaeaaWArr
import Derived.Test.YthkbjcihelmaeaaWZeros
import Derived.Test.YthkbjcihelmaeaaWFoot
import Derived.Test.YthkbjcihelmaeaaWKept
import Derived.Test.YthkbjcihelmaeaaWShare
import Derived.Test.YthkbjcihelmaeaaWN
import Derived.Test.YthkbjcihelmaeaaWFootNe
import Derived.Test.YthkbjcihelmaeaaWAt
import Derived.Test.YthkbjcihelmaeaaWNEv
import Derived.Test.YthkbjcihelmaeaaWMore
namespace Go.Proofs.Ythkbjcihelmaeaa.QFnLanes
open Go.RowKit Go.Proofs.YthkbjcihelmaeaaW.PrintWords Go.Proofs.YthkbjcihelmaeaaW.PrintLast Go.Proofs.YthkbjcihelmaeaaW.PrintMore Go.Proofs.Ythkbjcihelmaeaa.Short
attribute [local go_sem] max2_int min2_int max_two min_two max_three min_three max_four min_four   -- for this text's walks alone
set_option linter.unusedVariables false
set_option linter.unusedSimpArgs false



def errW : Option Int → Value
  | none => .nilIface
  | some c => .iface 0 (.int .i64 c)
theorem errW_none : errW none = .nilIface := rfl
theorem errW_some (c : Int) : errW (some c) = .iface 0 (.int .i64 c) := rfl

theorem info3 : (Try.prog.info? 3).map (fun i => (i.zero, i.size, i.bytes)) = some (some (.int .i64 0), 1, 8) := by kernel_rfl
-- the values' own types

end Go.Proofs.Ythkbjcihelmaeaa.QFnLanes
