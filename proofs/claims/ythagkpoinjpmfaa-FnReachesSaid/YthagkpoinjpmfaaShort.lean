/- Short words for long texts: a list of yes and no told as a number, the frame's steps as one rule, what stays over blocks and draws as an instance. No condition. -/
import Derived.Test.YthagkpoinjpmfaaV
namespace Go.Proofs.Ythagkpoinjpmfaa.Short
open Go.RowKit Go.Proofs.YthagkpoinjpmfaaW.PrintWords Go.Proofs.YthagkpoinjpmfaaW.PrintLast
set_option linter.unusedVariables false
def lb (n m:Nat):Array Bool:=((List.range n).map fun i=>m.testBit i).toArray
theorem ap: (∀ (t:List Value) (d) (i:Nat) (v:Value),Act.put ⟨t.toArray,d⟩ (some i) v=⟨(t.set i v).toArray,d⟩)∧(∀ (t:List Value) (d) (v:Value),Act.put ⟨t.toArray,d⟩ none v=⟨t.toArray,d⟩)∧(∀ (a b:Value) (l:List Value),(a::l).set 0 b=b::l)∧(∀ (a b:Value) (l:List Value) (i:Nat),(a::l).set (i+1) b=a::l.set i b)∧(∀ n:Int,IntKind.i64.wrap n=wrap64 n)∧(∀ n:Int,IntKind.i32.wrap n=wrap32 n):=
  ⟨fun _ _ _ _=>by simp[Act.put],fun _ _ _=>by simp[Act.put],fun _ _ _=>rfl,fun _ _ _ _=>rfl,i64_w,i32_w⟩
theorem od {p:Prop} [Decidable p] (h:decide p=true:=by first|(with_reducible assumption)|assumption):p:=of_decide_eq_true h
class Mov (W W':World):Prop where
  out:Below W.heap.size W W'
instance {W:World}:Mov W W:=⟨Below.refl _ _⟩
instance {W W':World} [h:Mov W W'] (o:Obj):Mov W (W'.alloc o):=⟨below_alloc h.out o⟩
instance {W W':World} [h:Mov W W']:Mov W W'.drew:=⟨h.out.drew⟩
instance {W W':World} [h:Mov W W'] (n:Nat):Mov W (W'.drewN n):=⟨pw_below_drewN h.out n⟩
section
variable {α:Type} {d:Kd α} {e base n g:Nat} {ok:Nat→Prop} {w W W':World} {v:Value} {xs:List α} {A:Option Addr} {o:Obj}
theorem rm (h:d.R e W base ok v xs) [m:Mov W W']:d.R e W' base ok v xs:=Kd.R_below h m.out
theorem vm (h:d.V e W base ok v xs) [m:Mov W W']:d.V e W' base ok v xs:=Kd.V_below h m.out
theorem nm (h:d.N e W base ok v xs) [m:Mov W W']:d.N e W' base ok v xs:=Kd.N_below h m.out
theorem sm (h:d.S e W base ok v xs) [m:Mov W W']:d.S e W' base ok v xs:=Kd.S_below h m.out
theorem qm (h:d.Q e W base ok v xs) [m:Mov W W']:d.Q e W' base ok v xs:=Kd.Q_below h m.out
theorem cm (h:d.C W A n xs) [m:Mov W W']:d.C W' A n xs:=Kd.C_below h m.out
theorem bm (h:W.heap[g]? =some o) [m:Mov W W']:W'.heap[g]? =some o:=blk_below h m.out
theorem hm (h:Below w.heap.size w W) [m:Mov W W']:Below w.heap.size w W':=below_step h m.out
end
class Msv (w:World) (gs:List Nat) (W W':World):Prop where
  out: (∀ g∈gs,w.heap.size≤g)→Below w.heap.size w W→Below w.heap.size w W'
class Inn (g:Nat) (gs:List Nat):Prop where
  out:g∈gs
instance {g:Nat} {gs:List Nat}:Inn g (g::gs):=⟨List.mem_cons_self⟩
instance {g a:Nat} {gs:List Nat} [h:Inn g gs]:Inn g (a::gs):=⟨List.mem_cons_of_mem _ h.out⟩
section
variable {w W W':World} {gs:List Nat} {g g1 g2 g3:Nat}
instance:Msv w gs W W:=⟨fun _ h=>h⟩
instance [h:Msv w gs W W'] (o:Obj):Msv w gs W (W'.alloc o):=⟨fun a b=>below_alloc (h.out a b) o⟩
instance [h:Msv w gs W W']:Msv w gs W W'.drew:=⟨fun a b=>(h.out a b).drew⟩
instance [h:Msv w gs W W'] (n:Nat):Msv w gs W (W'.drewN n):=⟨fun a b=>pw_below_drewN (h.out a b) n⟩
instance [h:Msv w gs W W'] (j:Nat) (v:Value) [i:Inn g gs]:Msv w gs W (W'.setCell ⟨g,j,none⟩ v):=⟨fun a b=>below_set (h.out a b) (a g i.out)⟩
theorem h1 (h:Below w.heap.size w W) (k:w.heap.size≤g) [m:Msv w [g] W W']:Below w.heap.size w W':=m.out (fun x hx=>by rw[List.mem_singleton.1 hx];exact k) h
theorem h2 (h:Below w.heap.size w W) (k1:w.heap.size≤g1) (k2:w.heap.size≤g2) [m:Msv w [g1,g2] W W']:Below w.heap.size w W':=m.out (fun x hx=>by
  rcases List.mem_cons.1 hx with rfl|hx
  · exact k1
  · rw[List.mem_singleton.1 hx];exact k2) h
theorem h3 (h:Below w.heap.size w W) (k1:w.heap.size≤g1) (k2:w.heap.size≤g2) (k3:w.heap.size≤g3) [m:Msv w [g1,g2,g3] W W']:Below w.heap.size w W':=m.out (fun x hx=>by
  rcases List.mem_cons.1 hx with rfl|hx
  · exact k1
  rcases List.mem_cons.1 hx with rfl|hx
  · exact k2
  · rw[List.mem_singleton.1 hx];exact k3) h
end
section
variable {P:Program} {md:Region.Mode} {ops:Array Oper} {Q:Exit→Act→World→Prop} {S:World→Prop} {ds:List Nat} {T:Bool × List (List Nat × List Nat)} {B:List Nat}
theorem pu (i:Nat) {N:Option Tmp} {oi:Oper} {v:Value} {fuel:Nat} {l:Array Bool} {a:Act} {w:World} (l':Array Bool) (HT:Aside0 (rtab md ops=T)) (hc:anyT T l.toList l'.toList i=true) (hi:ops[i]? =some oi) (hN:oi.dst=N)
    (hw:Region.wanted oi (yielded ops a.tmps)=true) (hQ:∀ c a w,Q (.panic c) (a.put oi.dst v) w→Q (.panic c) a w) (hy:∀ w,(execOp a.eval oi).run P w= .ok (.value v) w) {a':Act} (ha:a.put N v=a')
    (h:wpAnyLast P md ops Q S ds fuel l' a' w):wpAnyLast P md ops Q S ds (fuel+1) l a w:=
  pure_ l' hi hN (any_of HT.out hc) hQ (Or.inl ⟨hw,hy⟩) ha h
end
end Go.Proofs.Ythagkpoinjpmfaa.Short
