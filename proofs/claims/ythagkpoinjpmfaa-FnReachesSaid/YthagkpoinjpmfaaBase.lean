/- General lemmas for the pure statements of this seat: rounds that come to an answer, loops over an index, lists as tables of a function. No condition. -/
import Derived.Test.YthagkpoinjpmfaaV
namespace Go.Proofs.Ythagkpoinjpmfaa.Base
open Go.RowKit Go.Proofs.YthagkpoinjpmfaaW.PrintWords Go.Proofs.YthagkpoinjpmfaaW.PrintLast
set_option linter.unusedVariables false
set_option linter.unusedSimpArgs false
theorem w64 {x:Int} (h: -9223372036854775808≤x) (h':x≤9223372036854775807):wrap64 x=x:=by
  unfold wrap64;omega
theorem w64s {i n:Nat} (h:i<n) (hn:n≤1152921504606846976):wrap64 ((i:Int)+1)=((i+1:Nat):Int):=by
  unfold wrap64;omega
theorem rd_nat (l:List Int) (i:Nat):rd l (i:Int)=l.getD i 0:=rfl
theorem down {P:Nat→Prop} {n:Nat} (hn:P n) (hs:∀ i,i<n→P (i+1)→P i):∀ i,i≤n→P i:=by
  intro i hi
  obtain⟨d,rfl⟩:∃ d,n=i+d:=⟨n-i,by omega⟩
  clear hi
  induction d generalizing i with
  | zero=>exact hn
  | succ d ih=>
    refine hs i (by omega) (ih (i+1) ?_ ?_)
    · rw[show i+1+d=i+(d+1)by omega];exact hn
    · intro j hj hp;exact hs j (by omega) hp
theorem ev_now {α:Type} {g:Nat→Option α} {r:α} (h:∀ k,g (k+1)=some r):Ev g r:=
  Ev.step h (Ev.now r)
theorem ev_const {α:Type} {r r':α} (h:r=r'):Ev (fun _=>some r) r':=h▸Ev.now r
theorem ev_some {α:Type} {o:Option α} {r:α} (h:o=some r):Ev (fun _=>o) r:=h▸Ev.now r
theorem ev_pos {α:Type} {c:Prop} [Decidable c] {a b:Nat→Option α} {r:α} (h:c) (k:Ev a r):Ev (fun n=>if c then a n else b n) r:=
  Ev.congr (fun n=>if_pos h) k
theorem ev_neg {α:Type} {c:Prop} [Decidable c] {a b:Nat→Option α} {r:α} (h:¬c) (k:Ev b r):Ev (fun n=>if c then a n else b n) r:=
  Ev.congr (fun n=>if_neg h) k
theorem ev_bind0 {α β:Type} {o:Option α} {f:Nat→α→Option β} {a:α} {r:β} (h:o=some a) (k:Ev (fun n=>f n a) r):Ev (fun n=>o.bind (f n)) r:=
  Ev.congr (fun n=>by rw[h,Option.bind_some]) k
def tab (n:Nat) (f:Nat→Int):List Int:=(List.range n).map f
theorem tab_len (n:Nat) (f:Nat→Int): (tab n f).length=n:=by simp[tab]
theorem tab_rd {n:Nat} {f:Nat→Int} {p:Nat} (h:p<n):rd (tab n f) (p:Int)=f p:=by
  simp[rd,tab,List.getD,h]
theorem tab_congr {n:Nat} {f g:Nat→Int} (h:∀ q,q<n→f q=g q):tab n f=tab n g:=by
  unfold tab;exact List.map_congr_left (fun q hq=>h q (List.mem_range.1 hq))
theorem tab_ext {l:List Int} {n:Nat} {f:Nat→Int} (hl:l.length=n) (h:∀ q,q<n→rd l (q:Int)=f q):l=tab n f:=by
  apply List.ext_getElem
  · rw[hl,tab_len]
  · intro i h1 h2
    have:=h i (by omega)
    rw[rd_nat]at this
    simp[tab]
    rw[←this]
    simp[List.getD,h1]
theorem tab_of (l:List Int):l=tab l.length (fun q=>rd l (q:Int)):=tab_ext rfl (fun _ _=>rfl)
theorem tab_set (n:Nat) (f:Nat→Int) (p:Nat) (v:Int): (tab n f).set p v=tab n (fun q=>if q=p then v else f q):=by
  apply List.ext_getElem
  · simp[tab]
  · intro i h1 h2
    simp only[tab,List.getElem_set,List.getElem_map,List.getElem_range]
    by_cases e:p=i
    · rw[if_pos e,if_pos e.symm]
    · rw[if_neg e,if_neg (fun h=>e h.symm)]
theorem tab_rep (n:Nat) (v:Int):List.replicate n v=tab n (fun _=>v):=by
  apply List.ext_getElem<;>simp[tab]
theorem tab_snoc (n:Nat) (f:Nat→Int):tab n f++[f n]=tab (n+1) f:=by
  simp[tab,List.range_succ]
theorem tab_zero (f:Nat→Int):tab 0 f=[]:=rfl
theorem mem_of_rd {l:List Int} {i:Nat} (h:i<l.length):rd l (i:Int)∈l:=by
  simp[rd,List.getD,h]
theorem rd_of_mem {l:List Int} {x:Int} (h:x∈l):∃ i:Nat,i<l.length∧rd l (i:Int)=x:=by
  obtain⟨i,hi,he⟩:=List.getElem_of_mem h
  exact⟨i,hi,by simp[rd,List.getD,hi,he]⟩
theorem all_of_rd {l:List Int} {P:Int→Prop} (h:∀ i:Nat,i<l.length→P (rd l (i:Int))):∀ x∈l,P x:=by
  intro x hx
  obtain⟨i,hi,rfl⟩:=rd_of_mem hx
  exact h i hi
theorem list_ext_rd {a b:List Int} (h:a.length=b.length) (he:∀ i:Nat,i<a.length→rd a (i:Int)=rd b (i:Int)):a=b:=by
  rw[tab_of a,tab_of b,h]
  exact tab_congr (fun q hq=>he q (by omega))
theorem drop_cons {l:List Int} {i:Nat} (h:i<l.length):l.drop i=rd l (i:Int)::l.drop (i+1):=by
  rw[List.drop_eq_getElem_cons h]
  congr 1
  simp[rd,List.getD,h]
theorem rd_set {l:List Int} {p q:Nat} {v:Int} (h:p<l.length):rd (l.set p v) (q:Int)=if q=p then v else rd l (q:Int):=by
  simp only[rd,Int.toNat_natCast,List.getD_eq_getElem?_getD,List.getElem?_set]
  by_cases e:p=q
  · subst e;simp[h]
  · rw[if_neg e,if_neg (fun h=>e h.symm)]
def inR (a b x:Int):Bool:=decide (a≤x∧x≤b)
def inAll (a b:Int) (l:List Int):Bool:=l.all (inR a b)
theorem inR_iff {a b x:Int}:inR a b x=true↔a≤x∧x≤b:=by simp[inR]
theorem inAll_cons (a b x:Int) (l:List Int):inAll a b (x::l)=(inR a b x&&inAll a b l):=by simp[inAll]
theorem inAll_nil (a b:Int):inAll a b []=true:=rfl
theorem inAll_iff {a b:Int} {l:List Int}:inAll a b l=true↔∀ x∈l,a≤x∧x≤b:=by simp[inAll,inR]
theorem rd_app_l {a b:List Int} {p:Nat} (h:p<a.length):rd (a++b) (p:Int)=rd a (p:Int):=by
  simp only[rd,Int.toNat_natCast,List.getD_eq_getElem?_getD,List.getElem?_append_left h]
theorem rd_snoc (a:List Int) (v:Int):rd (a++[v]) (a.length:Int)=v:=by
  simp[rd,List.getD]
def cnt (a:Int) (n:Nat):List Int:=tab n (fun q=>a+q)
theorem cnt_len (a:Int) (n:Nat): (cnt a n).length=n:=tab_len _ _
def sm (n:Nat) (f:Nat→Int):Int:=match n with
  | 0=>0
  | n+1=>sm n f+f n
theorem sm_zero (f:Nat→Int):sm 0 f=0:=rfl
theorem sm_succ (n:Nat) (f:Nat→Int):sm (n+1) f=sm n f+f n:=rfl
theorem sm_congr {n:Nat} {f g:Nat→Int} (h:∀ q,q<n→f q=g q):sm n f=sm n g:=by
  induction n with
  | zero=>rfl
  | succ n ih=>rw[sm_succ,sm_succ,ih (fun q hq=>h q (by omega)),h n (by omega)]
theorem sm_le {n:Nat} {f g:Nat→Int} (h:∀ q,q<n→f q≤g q):sm n f≤sm n g:=by
  induction n with
  | zero=>exact Int.le_refl _
  | succ n ih=>
    rw[sm_succ,sm_succ]
    have h1:=ih (fun q hq=>h q (by omega))
    have h2:=h n (by omega)
    omega
theorem sm_add (n:Nat) (f g:Nat→Int):sm n (fun q=>f q+g q)=sm n f+sm n g:=by
  induction n with
  | zero=>rfl
  | succ n ih=>rw[sm_succ,sm_succ,sm_succ,ih];omega
theorem sm_sub (n:Nat) (f g:Nat→Int):sm n (fun q=>f q-g q)=sm n f-sm n g:=by
  induction n with
  | zero=>rfl
  | succ n ih=>rw[sm_succ,sm_succ,sm_succ,ih];omega
theorem sm_const (n:Nat) (v:Int):sm n (fun _=>v)=(n:Int)*v:=by
  induction n with
  | zero=>simp[sm]
  | succ n ih=>rw[sm_succ,ih,Int.natCast_succ,Int.add_mul];omega
theorem sm_shift (n:Nat) (f:Nat→Int):sm n (fun p=>f (p+1))=sm n f+f n-f 0:=by
  induction n with
  | zero=>simp[sm]
  | succ n ih=>rw[sm_succ,ih,sm_succ];omega
theorem sm_bound {f:Nat→Int} (h:∀ q,0≤f q∧f q≤1) (n:Nat):0≤sm n f∧sm n f≤n:=by
  induction n with
  | zero=>exact⟨Int.le_refl _,Int.le_refl _⟩
  | succ n ih=>
    rw[sm_succ]
    have:=h n
    omega
def cy (l:List Int) (p:Int):Int:=rd l (p % (l.length:Int))
theorem cy_in {l:List Int} {p:Nat} (h:p<l.length):cy l (p:Int)=rd l (p:Int):=by
  unfold cy;rw[Int.emod_eq_of_lt (by omega) (by omega)]
theorem cy_mod (l:List Int) (p:Int):cy l (p % (l.length:Int))=cy l p:=by
  unfold cy;rw[Int.emod_emod_of_dvd _ (Int.dvd_refl _)]
theorem cy_modp (l:List Int) (p d:Int):cy l (p % (l.length:Int)+d)=cy l (p+d):=by
  unfold cy;rw[Int.emod_add_emod]
theorem cy_add (l:List Int) (p:Int) (k:Int):cy l (p+k*(l.length:Int))=cy l p:=by
  unfold cy;rw[Int.add_mul_emod_self_right]
theorem least_of {P:Nat→Prop}:∀ n,P n→∃ m,m≤n∧P m∧∀ j,j<m→¬P j:=by
  intro n
  induction n using Nat.strongRecOn with
  | _ n ih=>
    intro hn
    by_cases h:∃ j,j<n∧P j
    · obtain⟨j,hj,hp⟩:=h
      obtain⟨m,hm,h1,h2⟩:=ih j hj hp
      exact⟨m,by omega,h1,h2⟩
    · exact⟨n,Nat.le_refl _,hn,fun j hj hp=>h ⟨j,hj,hp⟩⟩
theorem tmod_pos {x n:Int} (h:0≤x):Int.tmod x n=x % n:=Int.tmod_eq_emod_of_nonneg h
theorem tmod_twice (x:Int) {n:Int} (h:0<n):Int.tmod (Int.tmod x n+n) n=x % n:=by
  by_cases hx:0≤x
  · have h1:=Int.emod_nonneg x (b:=n) (by omega)
    rw[tmod_pos hx,tmod_pos (by omega),Int.add_emod_right,Int.emod_emod_of_dvd _ (Int.dvd_refl _)]
  · have h1:=Int.emod_nonneg (-x) (b:=n) (by omega)
    have h2:=Int.emod_lt_of_pos (-x) h
    have e:Int.tmod x n=-((-x) % n):=by
      rw[show x=-(-x)by omega,Int.neg_tmod,tmod_pos (by omega),Int.neg_neg]
    have hd:=Int.mul_ediv_add_emod (-x) n
    rw[e,tmod_pos (by omega),Int.add_emod_right]
    have:x=-((-x) % n)+n*(-((-x)/ n)):=by rw[Int.mul_neg];omega
    conv=>rhs;rw[this,Int.add_mul_emod_self_left]
def risC (l:List Int) (lo hi:Int) (j:Nat):Prop:=lo≤rd l (j:Int)∧rd l (j:Int)≤hi∧(0<j→rd l ((j-1:Nat):Int)<rd l (j:Int))
instance (l:List Int) (lo hi:Int) (j:Nat):Decidable (risC l lo hi j):=by unfold risC;infer_instance
def ris (l:List Int) (lo hi:Int) (i:Nat):Bool:=decide (∀ j,j<l.length→i≤j→risC l lo hi j)
theorem ris_end (l:List Int) (lo hi:Int):ris l lo hi l.length=true:=by
  unfold ris;exact decide_eq_true (fun j h1 h2=>by omega)
theorem ris_step {l:List Int} {lo hi:Int} {i:Nat} (h:i<l.length):ris l lo hi i=(decide (risC l lo hi i)&&ris l lo hi (i+1)):=by
  unfold ris
  rw[Bool.eq_iff_iff,Bool.and_eq_true,decide_eq_true_iff,decide_eq_true_iff,decide_eq_true_iff]
  refine⟨fun a=>⟨a i h (Nat.le_refl _),fun j h1 h2=>a j h1 (by omega)⟩,fun a j h1 h2=>?_⟩
  by_cases e:j=i
  · subst e;exact a.1
  · exact a.2 j h1 (by omega)
theorem ris_of {l:List Int} {lo hi:Int} (h:ris l lo hi 0=true):∀ j,j<l.length→risC l lo hi j:=fun j hj=>of_decide_eq_true h j hj (Nat.zero_le _)
def tg {α:Type} (n:Nat) (f:Nat→α):List α:=(List.range n).map f
theorem tg_len {α:Type} (n:Nat) (f:Nat→α): (tg n f).length=n:=by simp[tg]
theorem tg_get {α:Type} {n:Nat} {f:Nat→α} {p:Nat} {d:α} (h:p<n): (tg n f).getD p d=f p:=by
  simp[tg,List.getD,h]
theorem tg_congr {α:Type} {n:Nat} {f g:Nat→α} (h:∀ q,q<n→f q=g q):tg n f=tg n g:=by
  unfold tg;exact List.map_congr_left (fun q hq=>h q (List.mem_range.1 hq))
theorem tg_ext {α:Type} {l:List α} {n:Nat} {f:Nat→α} {d:α} (hl:l.length=n) (h:∀ q,q<n→l.getD q d=f q):l=tg n f:=by
  apply List.ext_getElem
  · rw[hl,tg_len]
  · intro i h1 h2
    have:=h i (by omega)
    simp[tg]
    rw[←this]
    simp[List.getD,h1]
theorem tg_set {α:Type} (n:Nat) (f:Nat→α) (p:Nat) (v:α): (tg n f).set p v=tg n (fun q=>if q=p then v else f q):=by
  apply List.ext_getElem
  · simp[tg]
  · intro i h1 h2
    simp only[tg,List.getElem_set,List.getElem_map,List.getElem_range]
    by_cases e:p=i
    · rw[if_pos e,if_pos e.symm]
    · rw[if_neg e,if_neg (fun h=>e h.symm)]
theorem tg_rep {α:Type} (n:Nat) (v:α):List.replicate n v=tg n (fun _=>v):=by
  apply List.ext_getElem<;>simp[tg]
theorem tg_snoc {α:Type} (n:Nat) (f:Nat→α):tg n f++[f n]=tg (n+1) f:=by
  simp[tg,List.range_succ]
theorem drop_consG {α:Type} {l:List α} {i:Nat} (d:α) (h:i<l.length):l.drop i=l.getD i d::l.drop (i+1):=by
  rw[List.drop_eq_getElem_cons h]
  congr 1
  simp[List.getD,h]
theorem set_set_tg {α:Type} (n:Nat) (f:Nat→α) (p:Nat) (v w:α): ((tg n f).set p v).set p w=(tg n f).set p w:=by
  apply List.ext_getElem
  · simp[tg]
  · intro i h1 h2
    simp only[List.getElem_set]
    split<;>rfl
theorem mx_abs {a p s:Int} (h0:0≤a∧a≤1000000) (h1:0≤p∧p≤1000000):mx (wrap64 (a-p)) (wrap64 (p-a))=mx (a-p) (p-a):=by
  rw[w64 (by omega) (by omega),w64 (by omega) (by omega)]
def allF (n:Nat) (C:Nat→Prop) [DecidablePred C] (i:Nat):Bool:=decide (∀ j,j<n→i≤j→C j)
theorem allF_end (n:Nat) (C:Nat→Prop) [DecidablePred C]:allF n C n=true:=decide_eq_true (fun j h1 h2=>by omega)
theorem allF_step {n:Nat} {C:Nat→Prop} [DecidablePred C] {i:Nat} (h:i<n):allF n C i=(decide (C i)&&allF n C (i+1)):=by
  unfold allF
  rw[Bool.eq_iff_iff,Bool.and_eq_true,decide_eq_true_iff,decide_eq_true_iff,decide_eq_true_iff]
  refine⟨fun a=>⟨a i h (Nat.le_refl _),fun j h1 h2=>a j h1 (by omega)⟩,fun a j h1 h2=>?_⟩
  by_cases e:j=i
  · subst e;exact a.1
  · exact a.2 j h1 (by omega)
theorem allF_of {n:Nat} {C:Nat→Prop} [DecidablePred C] (h:allF n C 0=true):∀ j,j<n→C j:=fun j hj=>of_decide_eq_true h j hj (Nat.zero_le _)
theorem allF_iff {n:Nat} {C:Nat→Prop} [DecidablePred C]:allF n C 0=true↔∀ j,j<n→C j:=⟨allF_of,fun h=>decide_eq_true (fun j hj _=>h j hj)⟩
def rmax (a:Int) (f:Nat→Int):Nat→Int
  | 0=>a
  | n+1=>mx (rmax a f n) (f n)
theorem mx_ge (a b:Int):a≤mx a b∧b≤mx a b∧(mx a b=a∨mx a b=b):=by unfold mx;split<;>omega
theorem mn_le (a b:Int):mn a b≤a∧mn a b≤b∧(mn a b=a∨mn a b=b):=by unfold mn;split<;>omega
theorem rmax_ge (a:Int) (f:Nat→Int) (n:Nat):a≤rmax a f n∧∀ j,j<n→f j≤rmax a f n:=by
  induction n with
  | zero=>exact⟨Int.le_refl _,fun j hj=>by omega⟩
  | succ n ih=>
    have h:=mx_ge (rmax a f n) (f n)
    refine⟨Int.le_trans ih.1 h.1,fun j hj=>?_⟩
    by_cases e:j=n
    · subst e;exact h.2.1
    · exact Int.le_trans (ih.2 j (by omega)) h.1
theorem rmax_mem (a:Int) (f:Nat→Int) (n:Nat):rmax a f n=a∨∃ j,j<n∧rmax a f n=f j:=by
  induction n with
  | zero=>exact .inl rfl
  | succ n ih=>
    rcases(mx_ge (rmax a f n) (f n)).2.2 with h|h
    · rcases ih with e|⟨j,hj,e⟩
      · exact .inl (h.trans e)
      · exact .inr ⟨j,by omega,h.trans e⟩
    · exact .inr ⟨n,by omega,h⟩
def rmin (a:Int) (f:Nat→Int):Nat→Int
  | 0=>a
  | n+1=>mn (rmin a f n) (f n)
theorem wf64 {x:Int} (h: (Lit.int .i64 x).wf=true): -9223372036854775808≤x∧x≤9223372036854775807:=by
  simp[Lit.wf,IntKind.min,IntKind.max,IntKind.signed,IntKind.bits]at h
  omega
end Go.Proofs.Ythagkpoinjpmfaa.Base
abbrev Go.Proofs.Ythagkpoinjpmfaa.PrintWords.sized_ints:= @Go.Proofs.YthagkpoinjpmfaaW.PrintWords.sized_ints
