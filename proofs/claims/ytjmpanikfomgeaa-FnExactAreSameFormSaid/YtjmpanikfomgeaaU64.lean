/- A number of 64 bits without a sign, where it is small. No condition. -/
import Derived.Test.YtjmpanikfomgeaaWMore
import Derived.IntWalk
namespace Go.Proofs.Ytjmpanikfomgeaa.Base
open Go.RowKit Go.Proofs.YtjmpanikfomgeaaW.PrintWords Go.Proofs.YtjmpanikfomgeaaW.PrintLast
theorem u64w {n : Int} (h : 0 ≤ n) (h' : n ≤ 9223372036854775807) : IntKind.u64.wrap n = n := Go.IntWalk.u64_in n ⟨h, by omega⟩
end Go.Proofs.Ytjmpanikfomgeaa.Base
