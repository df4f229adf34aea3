/- What a draw's next number may be: a byte. No condition. -/
import Derived.Test.YthagkpoinjpmfaaBase
import Derived.Laws.BitsLemmas
namespace Go.Proofs.Ythagkpoinjpmfaa.Base
theorem and255 (x:Int):0≤Go.bits .and .u64 (IntKind.u64.wrap x/ 1099511627776) 255∧Go.bits .and .u64 (IntKind.u64.wrap x/ 1099511627776) 255≤255:=by
  have e:IntKind.u64.wrap x=x % 18446744073709551616:=by rw[IntKind.wrap_u64]
  have w:∀ n:Int,0≤n→n<2^24→IntKind.u64.wrap n=n:=fun n h0 h1=>by rw[IntKind.wrap_u64];omega
  have h0:0≤IntKind.u64.wrap x/ 1099511627776:=by rw[e];omega
  have h1:IntKind.u64.wrap x/ 1099511627776<2^24:=by rw[e];omega
  have h:=bits_mask .u64 24 (by decide) w 8 (by decide) _ h0 h1
  have e2: (2:Int)^8-1=255:=by decide
  rw[e2]at h
  rw[h]
  omega
end Go.Proofs.Ythagkpoinjpmfaa.Base
