/- The end of a part of a law's walk: its pieces put together. No condition but those named. -/
import Derived.Test.YtanfamfgdgcjpaaQFnMovesx27
import Derived.Test.YtanfamfgdgcjpaaQFnMovesx27a
import Derived.Test.YtanfamfgdgcjpaaQFnMovesx27b
import Derived.Test.YtanfamfgdgcjpaaQFnMovesx27c
namespace Go.Proofs.Ytanfamfgdgcjpaa.QFnMoves
open Go.RowKit Go.Proofs.YtanfamfgdgcjpaaW.PrintWords Go.Proofs.YtanfamfgdgcjpaaW.PrintLast Go.Proofs.YtanfamfgdgcjpaaW.PrintMore Go.Proofs.Ytanfamfgdgcjpaa.Short
attribute [local go_sem] max2_int min2_int max_two min_two max_three min_three max_four min_four
set_option linter.unusedVariables false
set_option linter.unusedSimpArgs false
section
open Kd
set_option maxHeartbeats 40000000 in
set_option maxRecDepth 1000000 in
theorem laws_FnMoves.rest3:laws_FnMoves.rest3_T:=by
 apply laws_FnMoves.rest3_g.2
 apply laws_FnMoves.rest3_g2.2
 ·exact @laws_FnMoves.rest3_g1
 ·exact @laws_FnMoves.rest3_g0
end
end Go.Proofs.Ytanfamfgdgcjpaa.QFnMoves
