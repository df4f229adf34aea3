/- Functions that the law FnExactBeadsAt comes to, as Lean functions, with the proof that the Go code does what they say: written by a program of this session over the kit's print. No condition but those named. -/
import Derived.Test.YtciihopkgblpkaaProg
import Derived.Below
import Derived.Deep.Draws
import Derived.Deep.AppendLies
import Derived.Maps.AppendAt
import Derived.OwnWalk
import Derived.Laws.BytesArg
import Derived.Laws.MakeOwn
import Derived.Laws.OwnMore
import Derived.Deep.OwnRows
import Derived.Tactics
import Derived.Lib.ConvBytes
import Derived.Laws.Slices
import Derived.WalkKit
import Derived.KernelRfl
import Derived.RowKit3
import Derived.Deep.LoopGhost
import Derived.Deep.QuietTactic
import Derived.BigQuiet
import Derived.WideLaws
import Derived.Deep.DeepCutAuto
import Derived.Deep.CutBlock
import Derived.Deep.RegionHeld3
import Derived.Laws.Rows
import Derived.Lib.AppendStr
import Derived.ArgAppend
import Derived.Laws.IdiomCopy
import Derived.OrdersHeld
import Derived.Laws.BitsLemmas
import Derived.RowKit
import Derived.Test.YtciihopkgblpkaaShort
import Derived.Test.YtciihopkgblpkaaMapped
import Derived.Test.YtciihopkgblpkaaRepeat
import Derived.Test.YtciihopkgblpkaaWWords
import Derived.Test.YtciihopkgblpkaaWLast
import Derived.Test.YtciihopkgblpkaaWTab
import Derived.Test.YtciihopkgblpkaaWFour
import Derived.Test.YtciihopkgblpkaaWQPut
import Derived.Test.YtciihopkgblpkaaWApart
import Derived.Test.YtciihopkgblpkaaWArr
import Derived.Test.YtciihopkgblpkaaWZeros
import Derived.Test.YtciihopkgblpkaaWFoot
import Derived.Test.YtciihopkgblpkaaWKept
import Derived.Test.YtciihopkgblpkaaWShare
import Derived.Test.YtciihopkgblpkaaWN
import Derived.Test.YtciihopkgblpkaaWFootNe
import Derived.Test.YtciihopkgblpkaaWAt
import Derived.Test.YtciihopkgblpkaaWNEv
import Derived.Test.YtciihopkgblpkaaWMore
namespace Go.Proofs.Ytciihopkgblpkaa.QFnExactBeadsAt
open Go.RowKit Go.Proofs.YtciihopkgblpkaaW.PrintWords Go.Proofs.YtciihopkgblpkaaW.PrintLast Go.Proofs.YtciihopkgblpkaaW.PrintMore Go.Proofs.Ytciihopkgblpkaa.Short
attribute [local go_sem] max2_int min2_int max_two min_two max_three min_three max_four min_four   -- for this text's walks alone
set_option linter.unusedVariables false
set_option linter.unusedSimpArgs false



def errW : Option Int → Value
  | none => .nilIface
  | some c => .iface 0 (.int .i64 c)
theorem errW_none : errW none = .nilIface := rfl
theorem errW_some (c : Int) : errW (some c) = .iface 0 (.int .i64 c) := rfl

theorem info3 : (Try.prog.info? 3).map (fun i => (i.zero, i.size, i.bytes)) = some (some (.int .i64 0), 1, 8) := by kernel_rfl
-- the values' own types

end Go.Proofs.Ytciihopkgblpkaa.QFnExactBeadsAt
