/- A bit set in a set's number. No condition beyond the bounds named. -/
import Derived.Test.YthagkpoinjpmfaaBits
namespace Go.Proofs.Ythagkpoinjpmfaa.Base
open Go.RowKit Go.Proofs.YthagkpoinjpmfaaW.PrintWords Go.Proofs.YthagkpoinjpmfaaW.PrintLast
theorem bit_on {c n:Nat} (h:n<6) (hc:c<64) (hb:bitA c n=0):Go.bits .or .i64 (c:Int) (shl .i64 1 (n:Int))=((c+2^n:Nat):Int):=by
  have:∀ c:Nat,c<64→∀ n:Nat,n<6→bitA c n=0→Go.bits .or .i64 (c:Int) (shl .i64 1 (n:Int))=((c+2^n:Nat):Int):=by decide+kernel
  exact this c hc n h hb
theorem bitA_on {c n:Nat} (h:n<6) (hc:c<64) (hb:bitA c n=0):c+2^n<64∧∀ m,m<6→(bitA (c+2^n) m=1↔m=n∨bitA c m=1):=by
  have h1:∀ c:Nat,c<64→∀ n:Nat,n<6→bitA c n=0→c+2^n<64:=by decide+kernel
  have h2:∀ n:Nat,n<6→∀ c:Nat,c<64→bitA c n=0→(List.range 6).all (fun m=>(bitA (c+2^n) m==1)==(m==n||bitA c m==1))=true:=by decide+kernel
  refine⟨h1 c hc n h hb,fun m hm=>?_⟩
  have h3:=List.all_eq_true.1 (h2 n h c hc hb) m (List.mem_range.2 hm)
  have h4:=eq_of_beq h3
  constructor
  · intro e
    rw[e]at h4
    simpa using h4.symm
  · intro e
    have: (m==n||bitA c m==1)=true:=by simpa using e
    rw[this]at h4
    simpa using h4
end Go.Proofs.Ythagkpoinjpmfaa.Base
