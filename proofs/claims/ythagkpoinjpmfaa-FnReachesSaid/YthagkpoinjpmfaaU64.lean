/- A number of 64 bits without a sign, where it is small. No condition. -/
import Derived.Test.YthagkpoinjpmfaaV
import Derived.IntWalk
namespace Go.Proofs.Ythagkpoinjpmfaa.Base
open Go.RowKit Go.Proofs.YthagkpoinjpmfaaW.PrintWords Go.Proofs.YthagkpoinjpmfaaW.PrintLast
theorem u64w {n:Int} (h:0≤n) (h':n≤9223372036854775807):IntKind.u64.wrap n=n:=Go.IntWalk.u64_in n ⟨h,by omega⟩
end Go.Proofs.Ythagkpoinjpmfaa.Base
