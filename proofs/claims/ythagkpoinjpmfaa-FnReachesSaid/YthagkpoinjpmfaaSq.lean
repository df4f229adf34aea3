/- Short words for long texts, more of them: facts told anew in one step, a tactic that stands as a term. No condition. -/
import Derived.Test.YthagkpoinjpmfaaShort
namespace Go.Proofs.Ythagkpoinjpmfaa.Short
open Go.RowKit Go.Proofs.YthagkpoinjpmfaaW.PrintWords Go.Proofs.YthagkpoinjpmfaaW.PrintLast
set_option linter.unusedVariables false
theorem ak {p:Prop} (h:p):Aside0 p:=⟨h⟩
section
variable {α:Type} {d:Kd α} {e base n:Nat} {ok:Nat→Prop} {w W W' W'':World} {v:Value} {xs:List α}
theorem rb (h:Aside0 (d.R e W base ok v xs)) [m:Mov W W'] (hb:Below W'.heap.size W' W''):Aside0 (d.R e W'' base ok v xs):=⟨Kd.R_below (rm h.out) hb⟩
theorem vb (h:Aside0 (d.V e W base ok v xs)) [m:Mov W W'] (hb:Below W'.heap.size W' W''):Aside0 (d.V e W'' base ok v xs):=⟨Kd.V_below (vm h.out) hb⟩
theorem nb (h:Aside0 (d.N e W base ok v xs)) [m:Mov W W'] (hb:Below W'.heap.size W' W''):Aside0 (d.N e W'' base ok v xs):=⟨Kd.N_below (nm h.out) hb⟩
theorem sb (h:Aside0 (d.S e W base ok v xs)) [m:Mov W W'] (hb:Below W'.heap.size W' W''):Aside0 (d.S e W'' base ok v xs):=⟨Kd.S_below (sm h.out) hb⟩
theorem qb (h:Aside0 (d.Q e W base ok v xs)) [m:Mov W W'] (hb:Below W'.heap.size W' W''):Aside0 (d.Q e W'' base ok v xs):=⟨Kd.Q_below (qm h.out) hb⟩
theorem bs (h:Aside0 (Below w.heap.size w W)) [m:Mov W W'] (hb:Below W'.heap.size W' W''):Aside0 (Below w.heap.size w W''):=⟨below_step (hm h.out) hb⟩
end
abbrev ob (k:Nat) (v:Value):Prop:=some k≠v.ownBlock
theorem kn {w W W':World} {g:Nat} {row:Option Nat} (h:KeepBut w W g row) (k:KeepBut w W' g row:=by repeat(first|(with_reducible first|exact Aside0.out (by assumption)|apply KeepBut.set_|apply keep_drewN|apply keep_drew|apply keep_alloc|refine keep_far ?_ (Aside0.out (by assumption)) _)|exact Aside0.out (by assumption))):KeepBut w W' g row:=k
theorem far_cut {n m c g:Nat} {A:Option Addr} (hne:some g≠(Value.slice A n c).ownBlock):∀ ad,A=some ad→0<m→ad.block≠g:=by
  rintro ad rfl _ rfl
  exact hne (by simp[Value.ownBlock])
theorem kb {g:Nat} {o:Obj} {W W' W'':World} (h:Aside0 (W.heap[g]? =some o)) [m:Mov W W'] (hb:Below W'.heap.size W' W''):Aside0 (W''.heap[g]? =some o):=⟨blk_below (bm h.out) hb⟩
theorem gl {p:Prop} (h:p:=by(try simp only[List.map_toArray,List.map_cons,List.map_nil]);first|done|rfl|(simp only[List.length_drop,List.length_take];rfl)):p:=h
theorem fe {p:Prop} (h:p:=by first|rfl|(simp[errW_none,errW_some]<;>rfl)|(simp[*,errW_none,errW_some]<;>rfl)):p:=h
theorem fd {p:Prop} (h:p:=by first|rfl|(simp;done)|(simp[*];done)):p:=h
theorem gi {c:Prop} [Decidable c] {β:Type} {a:Option β} {r:β} (h: (if c then a else none)=some r):c∧a=some r:=by
  by_cases k:c
  · rw[if_pos k]at h;exact⟨k,h⟩
  · rw[if_neg k]at h;exact absurd h (by simp)
theorem bd {α β:Type} {o:Option α} {f:α→Option β} {r:β} (h:o.bind f=some r):∃ a,Aside0 (o=some a)∧f a=some r:=by
  obtain⟨a,h1,h2⟩:=Option.bind_eq_some_iff.mp h
  exact⟨a,⟨h1⟩,h2⟩
theorem bc {g:Nat} {W:World} {cs:Array Value} {t:TypeId} (h:Aside0 (W.heap[g]? =some (.cells cs t (0,0)))) (j:Nat) {v:Value} (e:cs[j]? =some v):W.cell? ⟨g,j,none⟩=some v:=(blk_cell h.out j).trans e
theorem bf {g:Nat} {W:World} {cs:Array Value} {t:TypeId} (h:Aside0 (W.heap[g]? =some (.cells cs t (0,0)))) (j:Nat):W.frozen? ⟨g,j,none⟩=false:=blk_frozen h.out j
theorem gw {w W W':World} {g:Nat} (h:Aside0 (Below w.heap.size w W)) [m:Mov W W'] (hg:g=W'.heap.size):Aside0 (w.heap.size≤g):=⟨by rw[hg];exact below_size (hm h.out)⟩
theorem nl {W W':World} {g g':Nat} {o:Obj} (h:Aside0 (W.heap[g]? =some o)) [m:Mov W W'] (hg:g'=W'.heap.size):Aside0 (g≠g'):=⟨by rw[hg];exact Nat.ne_of_lt (blk_lt (bm h.out))⟩
theorem ng {W W':World} {g g':Nat} {o:Obj} (h:Aside0 (W.heap[g]? =some o)) [m:Mov W W'] (hg:g'=W'.heap.size):Aside0 (g'≠g):=⟨by rw[hg];exact Nat.ne_of_gt (blk_lt (bm h.out))⟩
theorem kk {W W' W'':World} {g g':Nat} {o:Obj} (h:Aside0 (W.heap[g']? =some o)) [m:Mov W W'] (hk:KeepBut W' W'' g none) (n:Aside0 (g'≠g)):Aside0 (W''.heap[g']? =some o):=⟨KeepBut.blk hk (bm h.out) n.out (by simp)⟩
theorem hc {w W:World} (h:Aside0 (Below w.heap.size w W)) {p:Addr} {v:Value} (x:w.cell? p=some v):W.cell? p=some v:=(h.out.cell (World.block_lt_of_cell? w _ x)).trans x
section
variable {P:Program} {ops:Array Oper} {Q:Exit→Act→World→Prop} {rest:List Oper} {oi:Oper} {a:Act} {w:World}
theorem bx (N:Tmp) (cs:Array Value) (t:TypeId) (h:∀ g,g=w.heap.size→∀ w1,w1.heap[g]? =some (.cells cs t (0,0))→Below w.heap.size w w1→wpList P ops Q rest (a.put oi.dst (.pointer (some ⟨g,0,none⟩))) w1)
    (hd:oi.dst=some N:=by exact rfl) (hg:oi.guard=none:=by exact rfl) (hr: (execOp a.eval oi).run P w= .ok (.value (.pointer (some ⟨w.heap.size,0,none⟩))) (w.alloc (.cells cs t (0,0))):=by first|(go_simp;done)|(go_simp;rfl)):wpList P ops Q (oi::rest) a w:=box_event hg hd hr h
theorem gs (N:Tmp) {f:FuncId} {fn:Func} {as:Array Operand} {ts:Array TypeId} (hf:P.funcs[f]? =some fn) (args:Array Value) (h:Calls P f args w fun e w'=>∃ v,e= .returned v∧wpList P ops Q rest (a.put (some N) v) w')
    (hop:oi.op= .call {callee:= .value (.func f),args:=as,argTypes:=ts}:=by exact rfl) (hd:oi.dst=some N:=by exact rfl) (hg:oi.guard=none:=by exact rfl) (hname: (fn.name== "runtime.NumGoroutine")=false:=by kernel_rfl) (hb:fn.body.isSome=true:=by exact rfl)
    (hargs:as.map a.eval=args:=by(try simp only[List.map_toArray,List.map_cons,List.map_nil]);first|done|rfl|(simp only[List.length_drop,List.length_take];rfl)):wpList P ops Q (oi::rest) a w:=goesL_ (some N) hd hg hf hname hb args hop hargs h
end
section
variable {P:Program} {md:Region.Mode} {ops:Array Oper} {Q:Exit→Act→World→Prop} {S:World→Prop} {ds:List Nat} {T:Bool × List (List Nat × List Nat)} {B:List Nat}
theorem pq (i:Nat) {N:Option Tmp} {oi:Oper} {v:Value} {fuel:Nat} {l:Array Bool} {a:Act} {w:World} (l':Array Bool) (HT:Aside0 (rtab md ops=T)) {a':Act} (h:wpAnyLast P md ops Q S ds fuel l' a' w)
    (hc:anyT T l.toList l'.toList i=true:=by kernel_rfl) (hi:ops[i]? =some oi:=by exact rfl) (hN:oi.dst=N:=by exact rfl) (hw:Region.wanted oi (yielded ops a.tmps)=true:=by exact rfl)
    (hQ:∀ c a w,Q (.panic c) (a.put oi.dst v) w→Q (.panic c) a w:=by exact fun _ _ _ h=>h) (hy:∀ w,(execOp a.eval oi).run P w= .ok (.value v) w:=by intro w';go_simp;with_reducible rfl) (ha:a.put N v=a':=by simp only[ap];rfl):
    wpAnyLast P md ops Q S ds (fuel+1) l a w:=pu i l' HT hc hi hN hw hQ hy ha h
theorem pz (i:Nat) {N:Option Tmp} {oi:Oper} {fuel:Nat} {l:Array Bool} {a:Act} {w:World} (l':Array Bool) (HT:Aside0 (rtab md ops=T)) {a':Act} (h:wpAnyLast P md ops Q S ds fuel l' a' w)
    (hc:anyT T l.toList l'.toList i=true:=by kernel_rfl) (hi:ops[i]? =some oi:=by exact rfl) (hN:oi.dst=N:=by exact rfl) (hy:Yields P ops oi undef a:=by exact Or.inr ⟨by rfl,rfl⟩)
    (hQ:∀ c a w,Q (.panic c) (a.put oi.dst undef) w→Q (.panic c) a w:=by exact fun _ _ _ h=>h) (ha:a.put N undef=a':=by simp only[ap];rfl):
    wpAnyLast P md ops Q S ds (fuel+1) l a w:=pure_ l' hi hN (any_of HT.out hc) hQ hy ha h
theorem tq (i:Nat) {N:Option Tmp} {oi:Oper} {v:Value} {fuel:Nat} {l:Array Bool} {a:Act} {w:World} (l':Array Bool) (HT:Aside0 (rtab md ops=T)) (HW:Aside0 (waitsOk T.2 B=true)) (hS:S w) {a':Act} (h:wpAnyLast P md ops Q S ds fuel l' a' w)
    (hc:takeW T B ds l.toList l'.toList i=true:=by kernel_rfl) (hi:ops[i]? =some oi:=by exact rfl) (hN:oi.dst=N:=by exact rfl) (hw:Region.wanted oi (yielded ops a.tmps)=true:=by rfl)
    (hQ:∀ c a w,Q (.panic c) (a.put oi.dst v) w→Q (.panic c) a w:=by exact fun _ _ _ h=>h)
    (hy:∀ w,S w→(execOp a.eval oi).run P w= .ok (.value v) w:=by(first|rintro w' ⟨s0,s1,s2,s3,s4,s5⟩|rintro w' ⟨s0,s1,s2,s3,s4⟩|rintro w' ⟨s0,s1,s2,s3⟩|rintro w' ⟨s0,s1,s2⟩|rintro w' ⟨s0,s1⟩|intro w' s0);go_simp;with_reducible rfl) (ha:a.put N v=a':=by simp only[ap];rfl):
    wpAnyLast P md ops Q S ds (fuel+1) l a w:=take_ l' hi hN (take_ofW HT.out HW.out hc) hQ (Or.inl ⟨hw,hy⟩) hS ha h
end
end Go.Proofs.Ythagkpoinjpmfaa.Short
