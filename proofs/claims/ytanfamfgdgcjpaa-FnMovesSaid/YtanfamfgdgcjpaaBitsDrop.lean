/- A bit taken out of a set's number, and all bits. No condition beyond the bounds named. -/
import Derived.Test.YtanfamfgdgcjpaaBitsOn
namespace Go.Proofs.Ytanfamfgdgcjpaa.Base
open Go.RowKit Go.Proofs.YtanfamfgdgcjpaaW.PrintWords Go.Proofs.YtanfamfgdgcjpaaW.PrintLast
theorem bit_drop {c i j:Nat} (hi:i<6) (hj:j<6) (hc:c<64) (hb:bitA c i=1):bitA (c-2^i) j=1↔j≠i∧bitA c j=1:=by
  have h2:∀ n:Nat,n<6→∀ c:Nat,c<64→bitA c n=1→(List.range 6).all (fun m=>(bitA (c-2^n) m==1)==(!(m==n)&&bitA c m==1))=true:=by decide+kernel
  have h3:=List.all_eq_true.1 (h2 i hi c hc hb) j (List.mem_range.2 hj)
  have h4:=eq_of_beq h3
  constructor
  · intro e
    rw[e]at h4
    simpa using h4.symm
  · intro e
    have: (!(j==i)&&bitA c j==1)=true:=by simpa using e
    rw[this]at h4
    simpa using h4
theorem bit_full {n j:Nat} (hn:n≤6) (hj:j<n):bitA (2^n-1) j=1:=by
  have h:∀ n:Nat,n<7→∀ j:Nat,j<6→j<n→bitA (2^n-1) j=1:=by decide+kernel
  exact h n (by omega) j (by omega) hj
theorem bit_fit {n c i:Nat} (hn:n≤6) (hi:i<n) (hc:c<2^n) (hb:bitA c i=0):c+2^i<2^n:=by
  have h:∀ n:Nat,n<7→∀ i:Nat,i<n→∀ c:Nat,c<2^n→bitA c i=0→c+2^i<2^n:=by decide+kernel
  exact h n (by omega) i hi c hc hb
theorem bit_none (j:Nat):bitA 0 j=0:=by unfold bitA;simp
end Go.Proofs.Ytanfamfgdgcjpaa.Base
