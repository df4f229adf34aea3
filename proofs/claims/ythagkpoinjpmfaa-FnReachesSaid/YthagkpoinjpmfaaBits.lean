/- Bits of a set's number: what shifts, and, and-not say of small numbers. No condition beyond the bounds named. -/
import Derived.Test.YthagkpoinjpmfaaBase
import Derived.Laws.BitsLemmas
namespace Go.Proofs.Ythagkpoinjpmfaa.Base
open Go.RowKit Go.Proofs.YthagkpoinjpmfaaW.PrintWords Go.Proofs.YthagkpoinjpmfaaW.PrintLast
set_option linter.unusedVariables false
set_option linter.unusedSimpArgs false
theorem shl_one {n:Nat} (h:n≤12):shl .i64 1 (n:Int)=((2^n:Nat):Int):=by
  have:∀ n:Nat,n<13→shl .i64 1 (n:Int)=((2^n:Nat):Int):=by decide+kernel
  exact this n (by omega)
theorem shr_nat {c n:Nat} (h:n≤12):shr .i64 (c:Int) (n:Int)=((c/ 2^n:Nat):Int):=by
  unfold shr
  have:min ((n:Int)).toNat IntKind.i64.bits=n:=by
    rw[Int.toNat_natCast]
    exact Nat.min_eq_left (Nat.le_trans h (by decide))
  rw[this]
  simp
theorem and_one {c:Nat} (h:c<4096):Go.bits .and .i64 (c:Int) 1=((c % 2:Nat):Int):=by
  have w:∀ n:Int,0≤n→n<2^12→IntKind.i64.wrap n=n:=fun n h0 h1=>by rw[IntKind.wrap_i64];omega
  have:=(bits_nat .i64 12 (by decide) w c 1 h (by decide)).1
  have e:c&&&1=c % 2:=Nat.and_one_is_mod c
  rw[←e]
  exact this
def bitA (c n:Nat):Nat:=c/ 2^n % 2
theorem bit_read {c n:Nat} (h:n≤12) (hc:c<4096):Go.bits .and .i64 (shr .i64 (c:Int) (n:Int)) 1=((bitA c n:Nat):Int):=by
  rw[shr_nat h,and_one (Nat.lt_of_le_of_lt (Nat.div_le_self _ _) hc)]
  rfl
theorem bit_off {c n:Nat} (h:n<6) (hc:c<64) (hb:bitA c n=1):Go.bits .andNot .i64 (c:Int) (shl .i64 1 (n:Int))=((c-2^n:Nat):Int):=by
  have:∀ c:Nat,c<64→∀ n:Nat,n<6→bitA c n=1→Go.bits .andNot .i64 (c:Int) (shl .i64 1 (n:Int))=((c-2^n:Nat):Int):=by decide+kernel
  exact this c hc n h hb
theorem bit_cases (c n:Nat):bitA c n=0∨bitA c n=1:=by unfold bitA;omega
theorem bit_le {c n:Nat} (hb:bitA c n=1):2^n≤c:=by
  unfold bitA at hb
  have hp:=Nat.two_pow_pos n
  rcases Nat.lt_or_ge c (2^n)with h|h
  · rw[Nat.div_eq_of_lt h]at hb;simp at hb
  · exact h
end Go.Proofs.Ythagkpoinjpmfaa.Base
