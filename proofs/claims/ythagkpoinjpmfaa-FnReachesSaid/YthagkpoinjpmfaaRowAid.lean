/- What a row needs of its arguments: a struct's field, a slice, a slice of structs, each with what it reads. No condition. -/
import Derived.Test.YthagkpoinjpmfaaBase
import Derived.Lib.SmallJoins
import Derived.Deep.Slices
import Derived.ChangeArms
import Derived.OpenShut
import Derived.Carry
namespace Go.Proofs.Ythagkpoinjpmfaa.RowAid
open Go.RowKit Go.ChangeShapes Go.WideShapes Go.Deep Go.Joins Go.Proofs.YthagkpoinjpmfaaW.PrintWords
set_option linter.unusedVariables false
set_option linter.unusedSimpArgs false
section
variable {H:Type} {enc:TypeId × Value→H} {P:Program} {w:World} {base:Nat} {spare:Nat→Bool} {held:Bool}
theorem field_int {t:TypeId} {k:IntKind} {fuel:Nat} {v:Value} {x:DataW H × List MemPlace} (ht:P.underlying t=some (.int k)) (h:DataW.trod enc P w base spare held fuel t [v]=some x):∃ n,v= .int k n∧(Lit.int k n).wf=true:=by
  obtain⟨n,e,_,hw⟩:=DataW.trod_int ht h
  exact⟨n,by simpa using e,hw⟩
theorem field_bool {t:TypeId} {fuel:Nat} {v:Value} {x:DataW H × List MemPlace} (ht:P.underlying t=some .bool) (h:DataW.trod enc P w base spare held fuel t [v]=some x):∃ b,v= .bool b:=by
  obtain⟨b,e,_⟩:=DataW.trod_bool ht h
  exact⟨b,by simpa using e⟩
theorem pick_list {α:Type} {R:Nat→α→Prop}:∀ n,(∀ i,i<n→∃ x,R i x)→∃ l:List α,l.length=n∧∀ i x,l[i]? =some x→R i x:=by
  intro n
  induction n with
  | zero=>intro _;exact⟨[],rfl,fun i x h=>by simp at h⟩
  | succ n ih=>
    intro h
    obtain⟨l,hl,hr⟩:=ih (fun i hi=>h i (by omega))
    obtain⟨x,hx⟩:=h n (by omega)
    refine⟨l++[x],by simp[hl],fun i y hy=>?_⟩
    by_cases hi:i<n
    · rw[List.getElem?_append_left (by omega)]at hy
      exact hr i y hy
    · have hlt:=(List.getElem?_eq_some_iff.1 hy).1
      rw[List.length_append,hl]at hlt
      have e:i=n:=by simp at hlt;omega
      subst e
      rw[List.getElem?_append_right (by omega),hl]at hy
      simp at hy
      rw[←hy];exact hx
theorem field_rows {α:Type} (d:Kd α) (Q:α→Prop) {t e:TypeId} {fuel:Nat} {v:Value} {x:DataW H × List MemPlace} (ht:P.underlying t=some (.slice e)) (hsz:P.cellsOf e=d.sz)
    (hel:∀ n cs y,DataW.trod enc P w base spare held n e cs=some y→cs.length=P.cellsOf e→∃ p:α,d.K w p cs∧Q p) (h:DataW.trod enc P w base spare held fuel t [v]=some x):
    ∃ (A:Option Addr) (c:Nat) (l:List α),v= .slice A l.length c∧l.length≤c∧d.C w A l.length l∧l.length≤maxLen∧∀ p∈l,Q p:=by
  rcases open_slice ht h with⟨hcs,_⟩|⟨a,len,cap,m,n,D,Pl,hcs,_,hl,hm,hmm,_,hi⟩
  · refine⟨none,0,[],by simpa using hcs,Nat.le_refl _,⟨rfl,by simp,fun h0=>absurd h0 (by simp)⟩,Nat.zero_le _,fun p hp=>by simp at hp⟩
  · have hle:len≤m:=by rw[hmm];split<;>omega
    have hex:∀ i,i<len→∃ p:α,Q p∧∃ c,c.length=d.sz∧d.K w p c∧∀ j u,c[j]? =some u→w.cell? (a.add (i*d.sz+j))=some u:=by
      intro i hil
      obtain⟨cs',hc,ht'⟩:=hi i (by omega)
      obtain⟨_,hcl,hat⟩:=World.cells?_some hc
      obtain⟨p,hK,hQ⟩:=hel n cs' _ ht' hcl
      refine⟨p,hQ,cs',by rw[hcl,hsz],hK,fun j u hu=>?_⟩
      have hj:j<P.cellsOf e:=by have:=(List.getElem?_eq_some_iff.1 hu).1;omega
      rw[←Go.Deep.add_add,←hsz,hat j hj]
      exact hu
    obtain⟨l,hll,hr⟩:=pick_list len hex
    subst hll
    refine⟨some a,cap,l,by simpa using hcs,hl,⟨rfl,?_,fun _=>⟨a,rfl,fun j p hj=>(hr j p hj).2⟩⟩,Nat.le_trans hl hm,fun p hp=>?_⟩
    · have:l.length≤maxLen:=Nat.le_trans hl hm
      simpa [maxLen]using this
    · obtain⟨i,hi',he⟩:=List.getElem_of_mem hp
      exact(hr i p (by rw[List.getElem?_eq_getElem hi',he])).1
theorem field_ints {t e:TypeId} {k:IntKind} {fuel:Nat} {v:Value} {x:DataW H × List MemPlace} (ht:P.underlying t=some (.slice e)) (he:P.underlying e=some (.int k)) (hc:P.cellsOf e=1) (h:DataW.trod enc P w base spare held fuel t [v]=some x):
    ∃ (A:Option Addr) (c:Nat) (l:List Int),v= .slice A l.length c∧l.length≤c∧Kd.C (Kd.int k) w A l.length l∧l.length≤maxLen∧∀ n∈l,(Lit.int k n).wf=true:=
  field_rows (Kd.int k) (fun n=>(Lit.int k n).wf=true) ht hc (fun n cs y hy _=>by
    obtain⟨m,e,_,hw⟩:=DataW.trod_int he hy
    exact⟨m,e,hw⟩) h
theorem cells_two {e:TypeId} {f0 f1:Field} {k0 k1:IntKind} {n:Nat} {cs:List Value} {y:DataW H × List MemPlace} (hs:P.underlying e=some (.struct #[f0,f1])) (hone:oneCellFields P #[f0,f1]=true) (h0:P.underlying f0.type=some (.int k0)) (h1:P.underlying f1.type=some (.int k1))
    (h:DataW.trod enc P w base spare held n e cs=some y) (hl:cs.length=2):∃ a b,cs=[.int k0 a, .int k1 b]∧(Lit.int k0 a).wf=true∧(Lit.int k1 b).wf=true:=by
  obtain⟨xs,m,_,_,_,hlen,hf⟩:=DataW.trod_struct hs h
  obtain⟨o0,c0⟩:=hone_of hone 0 f0 rfl
  obtain⟨o1,c1⟩:=hone_of hone 1 f1 rfl
  match cs,hl,xs,hlen with
  | [v0,v1],_,[y0,y1],_=>
    have g0:=hf 0 f0 rfl
    have g1:=hf 1 f1 rfl
    rw[o0,c0]at g0
    rw[o1,c1]at g1
    obtain⟨a,rfl,wa⟩:=field_int h0 (v:=v0) (by simpa using g0)
    obtain⟨b,rfl,wb⟩:=field_int h1 (v:=v1) (by simpa using g1)
    exact⟨a,b,rfl,wa,wb⟩
theorem cells_three {e:TypeId} {f0 f1 f2:Field} {k0 k1 k2:IntKind} {n:Nat} {cs:List Value} {y:DataW H × List MemPlace} (hs:P.underlying e=some (.struct #[f0,f1,f2])) (hone:oneCellFields P #[f0,f1,f2]=true) (h0:P.underlying f0.type=some (.int k0)) (h1:P.underlying f1.type=some (.int k1)) (h2:P.underlying f2.type=some (.int k2))
    (h:DataW.trod enc P w base spare held n e cs=some y) (hl:cs.length=3):∃ a b c,cs=[.int k0 a, .int k1 b, .int k2 c]∧(Lit.int k0 a).wf=true∧(Lit.int k1 b).wf=true∧(Lit.int k2 c).wf=true:=by
  obtain⟨xs,m,_,_,_,hlen,hf⟩:=DataW.trod_struct hs h
  obtain⟨o0,c0⟩:=hone_of hone 0 f0 rfl
  obtain⟨o1,c1⟩:=hone_of hone 1 f1 rfl
  obtain⟨o2,c2⟩:=hone_of hone 2 f2 rfl
  match cs,hl,xs,hlen with
  | [v0,v1,v2],_,[y0,y1,y2],_=>
    have g0:=hf 0 f0 rfl
    have g1:=hf 1 f1 rfl
    have g2:=hf 2 f2 rfl
    rw[o0,c0]at g0
    rw[o1,c1]at g1
    rw[o2,c2]at g2
    obtain⟨a,rfl,wa⟩:=field_int h0 (v:=v0) (by simpa using g0)
    obtain⟨b,rfl,wb⟩:=field_int h1 (v:=v1) (by simpa using g1)
    obtain⟨c,rfl,wc⟩:=field_int h2 (v:=v2) (by simpa using g2)
    exact⟨a,b,c,rfl,wa,wb,wc⟩
end
end Go.Proofs.Ythagkpoinjpmfaa.RowAid
