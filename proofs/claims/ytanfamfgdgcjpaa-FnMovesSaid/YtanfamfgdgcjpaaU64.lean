/- A number of 64 bits without a sign, where it is small. No condition. -/
import Derived.Test.YtanfamfgdgcjpaaV
import Derived.IntWalk
namespace Go.Proofs.Ytanfamfgdgcjpaa.Base
open Go.RowKit Go.Proofs.YtanfamfgdgcjpaaW.PrintWords Go.Proofs.YtanfamfgdgcjpaaW.PrintLast
theorem u64w {n:Int} (h:0≤n) (h':n≤9223372036854775807):IntKind.u64.wrap n=n:=Go.IntWalk.u64_in n ⟨h,by omega⟩
end Go.Proofs.Ytanfamfgdgcjpaa.Base
