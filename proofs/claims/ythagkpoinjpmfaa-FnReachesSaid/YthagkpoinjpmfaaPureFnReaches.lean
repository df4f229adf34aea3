/- FnReaches: the left statement: for every code the law answers true. No condition. -/
import Derived.Test.YthagkpoinjpmfaaQFnReachesx18
import Derived.Test.YthagkpoinjpmfaaBase
import Derived.Test.YthagkpoinjpmfaaBits
import Derived.Test.YthagkpoinjpmfaaBitsOn
import Derived.Test.YthagkpoinjpmfaaU64
import Derived.Test.YthagkpoinjpmfaaDraw
namespace Go.Proofs.Ythagkpoinjpmfaa.Pure
open Go.RowKit Go.Proofs.Ythagkpoinjpmfaa.QFnReaches Go.Proofs.YthagkpoinjpmfaaW.PrintWords Go.Proofs.YthagkpoinjpmfaaW.PrintLast Go.Proofs.Ythagkpoinjpmfaa.Base
set_option linter.unusedVariables false
set_option linter.unusedSimpArgs false
def FnReachesLeft:Prop:=∀ (l0:List Int),l0.length≤maxLen→(∀ x∈l0,(Lit.int .u8 x).wf=true)→∃ k,laws_FnReaches.f k l0=some true
structure Legs where
 n:Nat
 a:Int
 b:Int
 E:Nat→Int→Int→Prop
 L:Nat→Int→Int→Int→Int
 Lm:∀ i v v' x y,v≤v'→L i v x y≤L i v' x y
 Lp:∀ i v x y,0≤v→x<y→i<n→E i x y→0≤L i v x y
inductive Way (G:Legs):Nat→Int→Int→Prop
 | start:Way G 0 G.a 0
 | leg {c:Nat} {x v:Int} {i:Nat} {y:Int}:Way G c x v→i<G.n→c/ 2^i % 2=0→x<y→y≤G.b→G.E i x y→Way G (c+2^i) y (G.L i v x y)
theorem Way.pos {G:Legs} {c:Nat} {y v:Int} (h:Way G c y v):0≤v:=by
 induction h with
 | start=>omega
 | leg h hi _ hxy _ he ih=>exact G.Lp _ _ _ _ ih hxy hi he
theorem Way.place {G:Legs} {c:Nat} {y v:Int} (hab:G.a≤G.b) (h:Way G c y v):G.a≤y∧y≤G.b:=by
 induction h with
 | start=>omega
 | leg _ _ _ hxy hy _ ih=>omega
theorem bit_lt {c i n:Nat} (hc:c<2^n) (hi:i<n) (hb:c/ 2^i % 2=0):c+2^i<2^n:=by
 obtain⟨m,rfl⟩:∃ m,n=i+m+1:=⟨n-i-1,by omega⟩
 have e:2^ (i+m+1)=2^i*(2^m*2):=by rw[Nat.pow_succ,Nat.pow_add,Nat.mul_assoc]
 have hp:0<2^i:=Nat.two_pow_pos i
 rw[e]at hc⊢
 have h1:c/ 2^i<2^m*2:=Nat.div_lt_of_lt_mul hc
 have h2:c/ 2^i+1<2^m*2:=by omega
 have h3: (c+2^i)/ 2^i=c/ 2^i+1:=Nat.add_div_right c hp
 have h4: (c+2^i)/ 2^i<2^m*2:=by omega
 exact(Nat.div_lt_iff_lt_mul hp).mp h4|>fun h=>by rw[Nat.mul_comm];exact h
theorem Way.set {G:Legs} {c:Nat} {y v:Int} (h:Way G c y v):c<2^G.n:=by
 induction h with
 | start=>exact Nat.two_pow_pos _
 | leg _ hi hb _ _ _ ih=>exact bit_lt ih hi hb
def IsLeast (G:Legs) (c:Nat) (y t:Int):Prop:=(t=-1∧∀ v,¬Way G c y v)∨(Way G c y t∧∀ v,Way G c y v→t≤v)
structure Filled (G:Legs) (D:Nat→Int→Prop) (T:Nat→Int→Int):Prop where
 told:∀ c y,T c y=-1∨Way G c y (T c y)
 zero:T 0 G.a=0
 on:∀ c x,D c x→0≤T c x→∀ i y,i<G.n→c/ 2^i % 2=0→x<y→y≤G.b→G.E i x y→0≤T (c+2^i) y∧T (c+2^i) y≤G.L i (T c x) x y
 least:∀ c x,D c x→IsLeast G c x (T c x)
theorem Filled.pos {G:Legs} {D:Nat→Int→Prop} {T:Nat→Int→Int} (h:Filled G D T) {c:Nat} {y:Int}:T c y=-1∨0≤T c y:=by
 rcases h.told c y with e|w
 ·exact Or.inl e
 ·exact Or.inr w.pos
theorem Filled.isLeast {G:Legs} {D:Nat→Int→Prop} {T:Nat→Int→Int} (h:Filled G D T) {c':Nat} {y:Int} (hp:∀ c i x v,Way G c x v→c'=c+2^i→i<G.n→c/ 2^i % 2=0→x<y→D c x):IsLeast G c' y (T c' y):=by
 have key:∀ v,Way G c' y v→0≤T c' y∧T c' y≤v:=by
  intro v hv
  cases hv with
  | start=>rw[h.zero];omega
  | @leg c x v0 i _ hw hi hb hxy hy he=>
   have hd:=hp c i x v0 hw rfl hi hb hxy
   rcases h.least c x hd with⟨_,hn⟩|⟨hw',hm⟩
   ·exact absurd hw (hn _)
   ·obtain⟨h1,h2⟩:=h.on c x hd hw'.pos i y hi hb hxy hy he
    exact⟨h1,Int.le_trans h2 (G.Lm i _ _ x y (hm _ hw))⟩
 rcases h.told c' y with e|w
 ·refine Or.inl ⟨e,fun v hv=>?_⟩
  have:=(key v hv).1
  omega
 ·exact Or.inr ⟨w,fun v hv=>(key v hv).2⟩
def IsBest (G:Legs) (t:Int):Prop:=(t=-1∧∀ c v,¬Way G c G.b v)∨(∃ c,Way G c G.b t)∧∀ c v,Way G c G.b v→t≤v
theorem IsBest.eq {G:Legs} {t t':Int} (h:IsBest G t) (h':IsBest G t'):t=t':=by
 rcases h with⟨e,hn⟩|⟨⟨c,hw⟩,hm⟩<;>rcases h' with⟨e',hn'⟩|⟨⟨c',hw'⟩,hm'⟩
 ·omega
 ·exact absurd hw' (hn _ _)
 ·exact absurd hw (hn' _ _)
 ·have:=hm _ _ hw'
  have:=hm' _ _ hw
  omega
def relax (T:Nat→Int→Int) (c:Nat) (y v:Int):Nat→Int→Int:=fun c' y'=>if c'=c∧y'=y then(if T c y<0∨v<T c y then v else T c y)else T c' y'
theorem relax_same (T:Nat→Int→Int) (c:Nat) (y v:Int):relax T c y v c y=if T c y<0∨v<T c y then v else T c y:=by simp[relax]
theorem relax_ne {T:Nat→Int→Int} {c:Nat} {y v:Int} {c':Nat} {y':Int} (h:¬(c'=c∧y'=y)):relax T c y v c' y'=T c' y':=by simp only[relax,if_neg h]
theorem relax_skip {T:Nat→Int→Int} {c:Nat} {y v:Int} (h:¬(T c y<0∨v<T c y)):relax T c y v=T:=by
 funext c' y'
 by_cases e:c'=c∧y'=y
 ·simp only[relax,if_pos e,if_neg h]
  rw[e.1,e.2]
 ·simp only[relax,if_neg e]
theorem relax_le {T:Nat→Int→Int} {c:Nat} {y v:Int} (hv:0≤v) {c':Nat} {y':Int} (h:0≤T c' y'):0≤relax T c y v c' y'∧relax T c y v c' y'≤T c' y':=by
 by_cases e:c'=c∧y'=y
 ·obtain⟨rfl,rfl⟩:=e
  rw[relax_same]
  split<;>omega
 ·rw[relax_ne e]
  omega
theorem relax_at {T:Nat→Int→Int} {c:Nat} {y v:Int} (hv:0≤v):0≤relax T c y v c y∧relax T c y v c y≤v:=by
 rw[relax_same]
 split<;>omega
theorem Filled.hand {G:Legs} {D:Nat→Int→Prop} {T:Nat→Int→Int} (h:Filled G D T) {c i:Nat} {x y:Int} (h0:0≤T c x) (hw:Way G c x (T c x)) (hi:i<G.n) (hb:c/ 2^i % 2=0) (hxy:x<y) (hy:y≤G.b) (he:G.E i x y)
  (hn:¬D (c+2^i) y):Filled G D (relax T (c+2^i) y (G.L i (T c x) x y)):=by
 have hp:0<2^i:=Nat.two_pow_pos i
 have hv:=G.Lp i (T c x) x y h0 hxy hi he
 have hD:∀ c' x',D c' x'→relax T (c+2^i) y (G.L i (T c x) x y) c' x'=T c' x':=by
  intro c' x' hd
  refine relax_ne fun e=>hn ?_
  rw[←e.1,←e.2]
  exact hd
 refine⟨fun c' y'=>?_,?_,fun c' x' hd h0' j y' hj hbj hxy' hy' he'=>?_,fun c' x' hd=>?_⟩
 ·by_cases e:c'=c+2^i∧y'=y
  ·obtain⟨rfl,rfl⟩:=e
   rw[relax_same]
   split
   ·exact Or.inr (Way.leg hw hi hb hxy hy he)
   ·exact h.told _ _
  ·rw[relax_ne e]
   exact h.told _ _
 ·rw[relax_ne (by omega)]
  exact h.zero
 ·rw[hD _ _ hd]at h0'⊢
  obtain⟨h1,h2⟩:=h.on c' x' hd h0' j y' hj hbj hxy' hy' he'
  obtain⟨h3,h4⟩:=relax_le (c:=c+2^i) (y:=y) hv h1
  exact⟨h3,Int.le_trans h4 h2⟩
 ·rw[hD _ _ hd]
  exact h.least _ _ hd
theorem Filled.add {G:Legs} {D D':Nat→Int→Prop} {T:Nat→Int→Int} (h:Filled G D T) {c:Nat} {x:Int} (hl:IsLeast G c x (T c x)) (hD:∀ c' x',D' c' x'→D c' x'∨(c'=c∧x'=x))
  (ho:0≤T c x→∀ i y,i<G.n→c/ 2^i % 2=0→x<y→y≤G.b→G.E i x y→0≤T (c+2^i) y∧T (c+2^i) y≤G.L i (T c x) x y):Filled G D' T:=by
 refine⟨h.told,h.zero,fun c' x' hd=>?_,fun c' x' hd=>?_⟩
 ·rcases hD _ _ hd with hd|⟨rfl,rfl⟩
  ·exact h.on _ _ hd
  ·exact ho
 ·rcases hD _ _ hd with hd|⟨rfl,rfl⟩
  ·exact h.least _ _ hd
  ·exact hl
theorem Way.far {G:Legs} (hL:∀ i v x y,v+(y-x)≤G.L i v x y) {c:Nat} {y v:Int} (h:Way G c y v):y-G.a≤v:=by
 induction h with
 | start=>omega
 | @leg c x v i y _ _ _ _ _ _ ih=>have:=hL i v x y;omega
theorem IsBest.far {G:Legs} {t:Int} (hL:∀ i v x y,v+(y-x)≤G.L i v x y) (h:IsBest G t) (h0:0≤t):G.b-G.a≤t:=by
 rcases h with⟨e,_⟩|⟨⟨c,hw⟩,_⟩
 ·omega
 ·exact hw.far hL
structure Handing (G:Legs) (D:Nat→Int→Prop) (T:Nat→Int→Int) (c:Nat) (x:Int) (H:Nat→Int→Prop):Prop where
 fill:Filled G D T
 way:Way G c x (T c x)
 least:IsLeast G c x (T c x)
 done:∀ i y,H i y→i<G.n→c/ 2^i % 2=0→x<y→y≤G.b→G.E i x y→0≤T (c+2^i) y∧T (c+2^i) y≤G.L i (T c x) x y
theorem Handing.pos {G:Legs} {D:Nat→Int→Prop} {T:Nat→Int→Int} {c:Nat} {x:Int} {H:Nat→Int→Prop} (h:Handing G D T c x H):0≤T c x:=h.way.pos
theorem Handing.same {G:Legs} {T:Nat→Int→Int} {c:Nat} {x:Int} {i:Nat} {y v:Int}:relax T (c+2^i) y v c x=T c x:=by
 have hp:0<2^i:=Nat.two_pow_pos i
 exact relax_ne (by omega)
theorem Handing.put {G:Legs} {D:Nat→Int→Prop} {T:Nat→Int→Int} {c:Nat} {x:Int} {H H':Nat→Int→Prop} (h:Handing G D T c x H) {i:Nat} {y:Int} (hi:i<G.n) (hb:c/ 2^i % 2=0) (hxy:x<y) (hy:y≤G.b) (he:G.E i x y)
  (hn:¬D (c+2^i) y) (hH:∀ j z,H' j z→H j z∨(j=i∧z=y)):Handing G D (relax T (c+2^i) y (G.L i (T c x) x y)) c x H':=by
 have hs:relax T (c+2^i) y (G.L i (T c x) x y) c x=T c x:=Handing.same (G:=G)
 have hv:=G.Lp i (T c x) x y h.pos hxy hi he
 refine⟨h.fill.hand h.pos h.way hi hb hxy hy he hn,by rw[hs];exact h.way,by rw[hs];exact h.least,fun j z hj hjn hjb hxz hz hez=>?_⟩
 rw[hs]
 rcases hH j z hj with hj|⟨rfl,rfl⟩
 ·obtain⟨h1,h2⟩:=h.done j z hj hjn hjb hxz hz hez
  obtain⟨h3,h4⟩:=relax_le (c:=c+2^i) (y:=y) hv h1
  exact⟨h3,Int.le_trans h4 h2⟩
 ·exact relax_at hv
theorem Handing.mono {G:Legs} {D:Nat→Int→Prop} {T:Nat→Int→Int} {c:Nat} {x:Int} {H H':Nat→Int→Prop} (h:Handing G D T c x H) (hH:∀ j z,H' j z→j<G.n→c/ 2^j % 2=0→x<z→z≤G.b→G.E j x z→H j z):Handing G D T c x H':=
 ⟨h.fill,h.way,h.least,fun j z a b d e f g=>h.done j z (hH j z a b d e f g) b d e f g⟩
theorem Handing.over {G:Legs} {D D':Nat→Int→Prop} {T:Nat→Int→Int} {c:Nat} {x:Int} {H:Nat→Int→Prop} (h:Handing G D T c x H) (hH:∀ j z,j<G.n→c/ 2^j % 2=0→x<z→z≤G.b→G.E j x z→H j z) (hD:∀ c' x',D' c' x'→D c' x'∨(c'=c∧x'=x)):Filled G D' T:=
 h.fill.add h.least hD (fun _ i y a b d e f=>h.done i y (hH i y a b d e f) a b d e f)
theorem Filled.skip {G:Legs} {D D':Nat→Int→Prop} {T:Nat→Int→Int} (h:Filled G D T) {c:Nat} {x:Int} (hl:IsLeast G c x (T c x)) (h0:T c x<0) (hD:∀ c' x',D' c' x'→D c' x'∨(c'=c∧x'=x)):Filled G D' T:=
 h.add hl hD (fun h1=>by omega)
theorem Filled.begin {G:Legs} {D:Nat→Int→Prop} {T:Nat→Int→Int} (h:Filled G D T) {c:Nat} {x:Int} (hl:IsLeast G c x (T c x)) (h0:0≤T c x):Handing G D T c x (fun _ _=>False):=by
 rcases h.told c x with e|w
 ·omega
 ·exact⟨h,w,hl,fun _ _ hf=>hf.elim⟩
def BestOn (G:Legs) (D:Nat→Int→Prop) (t:Int):Prop:=(t=-1∧∀ c v,D c G.b→¬Way G c G.b v)∨(∃ c,Way G c G.b t)∧∀ c v,D c G.b→Way G c G.b v→t≤v
def nb (t v:Int):Int:=if t<0∨v<t then v else t
theorem BestOn.other {G:Legs} {D D':Nat→Int→Prop} {t:Int} (h:BestOn G D t) {c:Nat} {x:Int} (hx:x≠G.b) (hD:∀ c' x',D' c' x'→D c' x'∨(c'=c∧x'=x)):BestOn G D' t:=by
 have hk:∀ c',D' c' G.b→D c' G.b:=fun c' hd=>(hD _ _ hd).elim id (fun e=>absurd e.2.symm hx)
 rcases h with⟨e,h⟩|⟨hw,h⟩
 ·exact Or.inl ⟨e,fun c' v hd=>h c' v (hk _ hd)⟩
 ·exact Or.inr ⟨hw,fun c' v hd=>h c' v (hk _ hd)⟩
theorem BestOn.none {G:Legs} {D D':Nat→Int→Prop} {t:Int} (h:BestOn G D t) {c:Nat} {x v:Int} (hl:IsLeast G c x v) (h0:v<0) (hD:∀ c' x',D' c' x'→D c' x'∨(c'=c∧x'=x)):BestOn G D' t:=by
 by_cases hx:x=G.b
 ·subst hx
  have hn:∀ u,¬Way G c G.b u:=by
   rcases hl with⟨_,hn⟩|⟨hw,_⟩
   ·exact hn
   ·have:=hw.pos;omega
  rcases h with⟨e,h⟩|⟨hw,h⟩
  ·exact Or.inl ⟨e,fun c' u hd=>(hD _ _ hd).elim (h c' u) (fun e=>e.1▸hn u)⟩
  ·exact Or.inr ⟨hw,fun c' u hd hu=>(hD _ _ hd).elim (fun d=>h c' u d hu) (fun e=>absurd (e.1▸hu) (hn u))⟩
 ·exact h.other hx hD
theorem BestOn.take {G:Legs} {D D':Nat→Int→Prop} {t:Int} (h:BestOn G D t) {c:Nat} {v:Int} (hl:IsLeast G c G.b v) (h0:0≤v) (hD:∀ c' x',D' c' x'→D c' x'∨(c'=c∧x'=G.b)):BestOn G D' (nb t v):=by
 have hw:Way G c G.b v∧∀ u,Way G c G.b u→v≤u:=by
  rcases hl with⟨e,_⟩|h
  ·omega
  ·exact h
 unfold nb
 rcases h with⟨e,h⟩|⟨⟨c0,hw0⟩,h⟩
 ·rw[if_pos (by omega)]
  exact Or.inr ⟨⟨c,hw.1⟩,fun c' u hd hu=>(hD _ _ hd).elim (fun d=>absurd hu (h c' u d)) (fun e=>hw.2 u (e.1▸hu))⟩
 ·have:=hw0.pos
  by_cases q:v<t
  ·rw[if_pos (Or.inr q)]
   exact Or.inr ⟨⟨c,hw.1⟩,fun c' u hd hu=>(hD _ _ hd).elim (fun d=>by have:=h c' u d hu;omega) (fun e=>hw.2 u (e.1▸hu))⟩
  ·rw[if_neg (by omega)]
   exact Or.inr ⟨⟨c0,hw0⟩,fun c' u hd hu=>(hD _ _ hd).elim (fun d=>h c' u d hu) (fun e=>by have:=hw.2 u (e.1▸hu);omega)⟩
theorem BestOn.all {G:Legs} {D:Nat→Int→Prop} {t:Int} (hD:∀ c,c<2^G.n→D c G.b) (h:BestOn G D t):IsBest G t:=by
 rcases h with⟨e,h⟩|⟨hw,h⟩
 ·exact Or.inl ⟨e,fun c v hv=>h c v (hD c hv.set) hv⟩
 ·exact Or.inr ⟨hw,fun c v hv=>h c v (hD c hv.set) hv⟩
theorem BestOn.zero {G:Legs} {D:Nat→Int→Prop} (hD:∀ c x,¬D c x):BestOn G D (-1):=Or.inl ⟨rfl,fun c _ hd=>absurd hd (hD c _)⟩
def tab0 (G:Legs):Nat→Int→Int:=fun c y=>if c=0∧y=G.a then 0 else-1
theorem Filled.start {G:Legs} {D:Nat→Int→Prop} (hD:∀ c x,¬D c x):Filled G D (tab0 G):=by
 refine⟨fun c y=>?_,by simp[tab0],fun c x hd=>absurd hd (hD c x),fun c x hd=>absurd hd (hD c x)⟩
 unfold tab0
 by_cases e:c=0∧y=G.a
 ·rw[if_pos e,e.1,e.2];exact Or.inr Way.start
 ·rw[if_neg e];exact Or.inl rfl
def DS (G:Legs) (c:Nat) (x:Int):Nat→Int→Prop:=fun c' x'=>c'<2^G.n∧G.a≤x'∧x'≤G.b∧(c'<c∨c'=c∧x'<x)
def DP (G:Legs) (c:Nat) (x:Int):Nat→Int→Prop:=fun c' x'=>c'<2^G.n∧G.a≤x'∧x'≤G.b∧(x'<x∨x'=x∧c'<c)
theorem DS_next {G:Legs} {c:Nat} {x:Int}:∀ c' x',DS G c (x+1) c' x'→DS G c x c' x'∨(c'=c∧x'=x):=by
 intro c' x' h
 unfold DS at*
 by_cases e:c'=c∧x'=x
 ·exact Or.inr e
 ·exact Or.inl ⟨h.1,h.2.1,h.2.2.1,by omega⟩
theorem DP_next {G:Legs} {c:Nat} {x:Int}:∀ c' x',DP G (c+1) x c' x'→DP G c x c' x'∨(c'=c∧x'=x):=by
 intro c' x' h
 unfold DP at*
 by_cases e:c'=c∧x'=x
 ·exact Or.inr e
 ·exact Or.inl ⟨h.1,h.2.1,h.2.2.1,by omega⟩
theorem DS_row {G:Legs} {c:Nat}:∀ c' x',DS G (c+1) G.a c' x'→DS G c (G.b+1) c' x':=by
 intro c' x' h
 unfold DS at*
 exact⟨h.1,h.2.1,h.2.2.1,by omega⟩
theorem DP_row {G:Legs} {x:Int}:∀ c' x',DP G 0 (x+1) c' x'→DP G (2^G.n) x c' x':=by
 intro c' x' h
 unfold DP at*
 exact⟨h.1,h.2.1,h.2.2.1,by omega⟩
theorem Filled.sub {G:Legs} {D D':Nat→Int→Prop} {T:Nat→Int→Int} (h:Filled G D T) (hD:∀ c x,D' c x→D c x):Filled G D' T:=
 ⟨h.told,h.zero,fun c x hd=>h.on c x (hD c x hd),fun c x hd=>h.least c x (hD c x hd)⟩
theorem BestOn.sub {G:Legs} {D D':Nat→Int→Prop} {t:Int} (h:BestOn G D t) (hD:∀ c x,D' c x→D c x):BestOn G D' t:=by
 rcases h with⟨e,h⟩|⟨hw,h⟩
 ·exact Or.inl ⟨e,fun c v hd=>h c v (hD _ _ hd)⟩
 ·exact Or.inr ⟨hw,fun c v hd=>h c v (hD _ _ hd)⟩
theorem DS_least {G:Legs} {T:Nat→Int→Int} {c:Nat} {x:Int} (hab:G.a≤G.b) (h:Filled G (DS G c x) T):IsLeast G c x (T c x):=by
 refine h.isLeast fun c0 i x0 v hw hc hi hb hx=>?_
 have hp:0<2^i:=Nat.two_pow_pos i
 have:=hw.place hab
 exact⟨hw.set,this.1,this.2,by omega⟩
theorem DP_least {G:Legs} {T:Nat→Int→Int} {c:Nat} {x:Int} (hab:G.a≤G.b) (h:Filled G (DP G c x) T):IsLeast G c x (T c x):=by
 refine h.isLeast fun c0 i x0 v hw hc hi hb hx=>?_
 have:=hw.place hab
 exact⟨hw.set,this.1,this.2,by omega⟩
theorem DS_not {G:Legs} {c:Nat} {x:Int} {i:Nat} {y:Int}:¬DS G c x (c+2^i) y:=by
 have hp:0<2^i:=Nat.two_pow_pos i
 unfold DS
 omega
theorem DP_not {G:Legs} {c:Nat} {x:Int} {d:Nat} {y:Int} (h:x<y):¬DP G c x d y:=by
 unfold DP
 omega
theorem l1In_eq (a b c:Int):spec_l1In.f a b c=some (inR b c a):=by
 unfold spec_l1In.f inR
 by_cases h:a≥b
 ·have h':b≤a:=h
  rw[if_pos h];simp[h']
 ·have h':¬b≤a:=h
  rw[if_neg h];simp[h']
theorem within_eq (a b c:Int):impl_within.f a b c=some (inR b c a):=by
 unfold impl_within.f inR
 by_cases h:a≥b
 ·have h':b≤a:=h
  rw[if_pos h];simp[h']
 ·have h':¬b≤a:=h
  rw[if_neg h];simp[h']
def lineV (s:Int) (r:Bool):Bool:=inR 2 24 s&& !r
theorem line_of {s:Int} {r:Bool} (h:lineV s r=true): (2≤s∧s≤24)∧r=false:=by
 unfold lineV at h
 rw[Bool.and_eq_true,inR_iff]at h
 exact⟨h.1,by simpa using h.2⟩
theorem l2Road_eq (s:Int) (r:Bool):spec_l2Road.f s r=some (inR 2 24 s&& (!r||decide (s>2))):=by
 unfold spec_l2Road.f
 simp only[l1In_eq,Option.bind_some]
 cases inR 2 24 s<;>cases r<;>simp
theorem isRoad_eq (s:Int) (r:Bool):impl_IsRoad.f s r=some (inR 2 24 s&& (!r||decide (s>2))):=by
 unfold impl_IsRoad.f
 simp only[within_eq,Option.bind_some]
 cases h:inR 2 24 s<;>cases r<;>simp<;>omega
theorem isLine_eq (s:Int) (r:Bool):impl_isLine.f s r=some (lineV s r):=by
 unfold impl_isLine.f lineV
 simp only[isRoad_eq,Option.bind_some]
 cases inR 2 24 s<;>cases r<;>simp
theorem gap_eq (s a p:Int) (h0:0≤a∧a≤1000000) (h1:0≤p∧p≤1000000):impl_Road_gap.f s false a p=some (mx (a-p) (p-a)):=by
 unfold impl_Road_gap.f
 simp only[Bool.false_eq_true,if_false]
 rw[mx_abs (s:=s) h0 h1]
theorem l1Most_eq (a b:Int):spec_l1Most.f a b=some (mx a b):=by
 unfold spec_l1Most.f mx
 by_cases h:a>b
 ·rw[if_pos h,if_neg (by omega)]
 ·rw[if_neg h]
  by_cases h2:a<b
  ·rw[if_pos h2]
  ·rw[if_neg h2];congr 1;omega
theorem l2Gap_eq (s a p:Int) (h0:0≤a∧a≤1000000) (h1:0≤p∧p≤1000000):spec_l2Gap.f s false a p=some (mx (a-p) (p-a)):=by
 unfold spec_l2Gap.f
 simp only[l1Most_eq,Option.bind_some,Bool.false_eq_true,if_false]
 rw[mx_abs (s:=s) h0 h1]
def gapv (p q:Int):Int:=mx (p-q) (q-p)
theorem l7Steps_eq (s:Int) (c0 c1 c2 a t:Int) (h0:0≤c0∧c0≤1000) (h1:0≤a∧a≤1000) (h2:0≤t∧t≤1000):spec_l7Steps.f s false c0 c1 c2 a t=some (gapv c0 a+(t-a)):=by
 unfold spec_l7Steps.f gapv
 rw[l2Gap_eq s c0 a (by omega) (by omega)]
 simp only[Option.bind_some]
 have:0≤mx (c0-a) (a-c0)∧mx (c0-a) (a-c0)≤1000:=by unfold mx;split<;>omega
 rw[w64 (x:=mx (c0-a) (a-c0)+t) (by omega) (by omega),w64 (by omega) (by omega)]
 congr 1
 omega
theorem steps_eq (s:Int) (c0 c1 c2 a t:Int) (h0:0≤c0∧c0≤1000) (h1:0≤a∧a≤1000) (h2:a≤t∧t≤1000):impl_Road_steps.f s false c0 c1 c2 a t=some (gapv c0 a+(t-a)):=by
 unfold impl_Road_steps.f gapv
 rw[gap_eq s c0 a (by omega) (by omega),gap_eq s a t (by omega) (by omega)]
 simp only[Option.bind_some]
 have:0≤mx (c0-a) (a-c0)∧mx (c0-a) (a-c0)≤1000:=by unfold mx;split<;>omega
 have e:mx (a-t) (t-a)=t-a:=by unfold mx;split<;>omega
 rw[e,w64 (by omega) (by omega)]
theorem l3Line_eq (s:Int) (r:Bool) (a:Int):spec_l3Line.f s r a=some (lineV s r&&inR 0 (s-1) a):=by
 unfold spec_l3Line.f lineV
 simp only[l2Road_eq,l1In_eq,Option.bind_some]
 cases h:inR 2 24 s with
 | false=>simp
 | true=>
  have hs:=inR_iff.1 h
  rw[w64 (by omega) (by omega)]
  cases r<;>simp
theorem allWithin_ev (l:List Int) (a b:Int) (hl:l.length≤1152921504606846976):Ev (fun k=>impl_allWithin.f k l a b) (inAll a b l):=by
 have key:=down (P:=fun i=>Ev (fun k=>impl_allWithin.l0 k a b l (l.length:Int) (i:Int)) (inAll a b (l.drop i))) (n:=l.length)
  (ev_now (fun k=>by
   simp only[impl_allWithin.l0]
   rw[if_neg (by omega)]
   simp[inAll_nil]))
  (fun i hi ih=>by
   rw[drop_cons hi,inAll_cons]
   cases hc:inR a b (rd l (i:Int))with
   | true=>
    rw[Bool.true_and]
    refine Ev.step (fun k=>?_) ih
    simp only[impl_allWithin.l0,within_eq,Option.bind_some,hc,if_true]
    rw[if_pos (by omega),if_pos (by omega),if_pos (by omega),w64s hi hl]
   | false=>
    refine ev_now (fun k=>?_)
    simp only[impl_allWithin.l0,within_eq,Option.bind_some,hc,Bool.false_eq_true,if_false]
    rw[if_pos (by omega),if_pos (by omega),if_pos (by omega)]
    simp)
 exact key 0 (by omega)
def carC (s:Int) (l:List S63) (j:Nat):Prop:=(0≤(l.getD j z63).f0∧(l.getD j z63).f0≤s-1)∧(0≤(l.getD j z63).f1∧(l.getD j z63).f1≤48)∧0≤(l.getD j z63).f2∧(l.getD j z63).f2≤20
instance (s:Int) (l:List S63):DecidablePred (carC s l):=fun j=>by unfold carC;infer_instance
def carV (s:Int) (r:Bool) (l:List S63):Bool:=(lineV s r&&decide ((l.length:Int)≤6))&&allF l.length (carC s l) 0
theorem carV_of {s:Int} {r:Bool} {l:List S63} (h:carV s r l=true): ((2≤s∧s≤24)∧r=false)∧l.length≤6∧∀ j,j<l.length→carC s l j:=by
 unfold carV at h
 rw[Bool.and_eq_true,Bool.and_eq_true]at h
 have:=of_decide_eq_true h.1.2
 exact⟨line_of h.1.1,by omega,allF_of h.2⟩
theorem rdC_nat (l:List S63) (j:Nat):rd_T63 l (j:Int)=l.getD j z63:=rfl
theorem l7Carriers_ev (s:Int) (r:Bool) (l:List S63) (hl:l.length≤1048576):Ev (fun k=>spec_l7Carriers.f k s r l) (carV s r l):=by
 have key:=down (P:=fun i=>Ev (fun k=>spec_l7Carriers.l0 k l (i:Int) s r) ((lineV s r&&decide ((l.length:Int)≤6))&&allF l.length (carC s l) i)) (n:=l.length)
  (ev_now (fun k=>by
   simp only[spec_l7Carriers.l0,l2Road_eq,Option.bind_some]
   rw[if_neg (by omega),allF_end]
   unfold lineV
   cases inR 2 24 s<;>cases r<;>simp))
  (fun i hi ih=>by
   rw[allF_step hi]
   have e3:∀ k,spec_l7Carriers.l0 (k+1) l (i:Int) s r=if((lineV s r&&inR 0 (s-1) (l.getD i z63).f0)&& (inR 0 48 (l.getD i z63).f1&&inR 0 20 (l.getD i z63).f2))=true then spec_l7Carriers.l0 k l ((i+1:Nat):Int) s r else some false:=by
    intro k
    simp only[spec_l7Carriers.l0,spec_l7Carrier.f,l3Line_eq,l1In_eq,Option.bind_some,rdC_nat]
    rw[if_pos (by omega),if_pos (by omega),w64s hi (by omega)]
    cases(lineV s r&&inR 0 (s-1) (l.getD i z63).f0)<;>cases inR 0 48 (l.getD i z63).f1<;>cases inR 0 20 (l.getD i z63).f2<;>rfl
   cases hL:lineV s r with
   | false=>
    refine ev_now (fun k=>?_)
    rw[e3,hL];simp
   | true=>
    rw[hL]at ih
    by_cases hc:carC s l i
    ·rw[decide_eq_true hc,Bool.true_and]
     refine Ev.step (fun k=>?_) ih
     rw[e3,hL,Bool.true_and,inR_iff.2 hc.1,inR_iff.2 hc.2.1,inR_iff.2 hc.2.2]
     rfl
    ·rw[decide_eq_false hc,Bool.false_and,Bool.and_false]
     refine ev_now (fun k=>?_)
     rw[e3,hL,Bool.true_and,if_neg]
     intro h
     simp only[Bool.and_eq_true,inR_iff]at h
     exact hc ⟨h.1,h.2.1,h.2.2⟩)
 exact key 0 (by omega)
theorem areCarriers_ev (s:Int) (r:Bool) (l:List S63) (hl:l.length≤1048576) (hs:2≤s∧s≤24):Ev (fun k=>impl_Road_areCarriers.f k s r l) (decide ((l.length:Int)≤6)&&allF l.length (carC s l) 0):=by
 have key:=down (P:=fun i=>Ev (fun k=>impl_Road_areCarriers.l0 k l l (l.length:Int) (i:Int) s r) (decide ((l.length:Int)≤6)&&allF l.length (carC s l) i)) (n:=l.length)
  (ev_now (fun k=>by
   simp only[impl_Road_areCarriers.l0]
   rw[if_neg (by omega),allF_end,Bool.and_true]))
  (fun i hi ih=>by
   rw[allF_step hi]
   have hh:Ev (fun k=>impl_Road_has.f k s r [(l.getD i z63).f0]) (inR 0 (s-1) (l.getD i z63).f0):=by
    unfold impl_Road_has.f
    rw[w64 (by omega) (by omega)]
    have:=allWithin_ev [(l.getD i z63).f0] 0 (s-1) (by simp)
    have e:inAll 0 (s-1) [(l.getD i z63).f0]=inR 0 (s-1) (l.getD i z63).f0:=by simp[inAll]
    rw[e]at this
    exact Ev.bind this (Ev.now _)
   refine Ev.step (f:=fun k=>(impl_Road_has.f k s r [(l.getD i z63).f0]).bind fun t=>if t=true then(if(inR 0 48 (l.getD i z63).f1&&inR 0 20 (l.getD i z63).f2)=true then impl_Road_areCarriers.l0 k l l (l.length:Int) ((i+1:Nat):Int) s r else some false)else some false) (fun k=>?_) (Ev.bind hh ?_)
   ·simp only[impl_Road_areCarriers.l0,within_eq,Option.bind_some,rdC_nat]
    rw[if_pos (by omega),if_pos (by omega),if_pos (by omega),w64s hi (by omega)]
    cases inR 0 48 (l.getD i z63).f1<;>cases inR 0 20 (l.getD i z63).f2<;>rfl
   ·by_cases hc:carC s l i
    ·rw[decide_eq_true hc,Bool.true_and]
     exact ev_pos (inR_iff.2 hc.1) (ev_pos (by rw[inR_iff.2 hc.2.1,inR_iff.2 hc.2.2];rfl) ih)
    ·rw[decide_eq_false hc,Bool.false_and,Bool.and_false]
     by_cases h1:inR 0 (s-1) (l.getD i z63).f0=true
     ·exact ev_pos h1 (ev_neg (fun h2=>by
       simp only[Bool.and_eq_true,inR_iff]at h2
       exact hc ⟨inR_iff.1 h1,h2.1,h2.2⟩) (Ev.now _))
     ·exact ev_neg h1 (Ev.now _))
 exact key 0 (by omega)
def asksV (s:Int) (r:Bool) (l:List S63) (a b:Int):Bool:=carV s r l&& (inR 0 (s-1) b&&inR 0 b a)
theorem asks_of {s:Int} {r:Bool} {l:List S63} {a b:Int} (h:asksV s r l a b=true):carV s r l=true∧(0≤a∧a≤b∧b≤s-1):=by
 unfold asksV at h
 simp only[Bool.and_eq_true,inR_iff]at h
 exact⟨h.1,by omega⟩
theorem l7Asks_ev (s:Int) (r:Bool) (l:List S63) (a b:Int) (hl:l.length≤1048576):Ev (fun k=>spec_l7Asks.f k s r l a b) (asksV s r l a b):=by
 unfold spec_l7Asks.f asksV
 refine Ev.bind (l7Carriers_ev s r l hl) ?_
 cases hv:carV s r l with
 | true=>
  obtain⟨⟨hs,rfl⟩,_⟩:=carV_of hv
  simp only[if_true,spec_l2Place.f,l2Road_eq,l1In_eq,Option.bind_some]
  rw[inR_iff.2 hs,w64 (by omega) (by omega)]
  cases inR 0 (s-1) b<;>simp<;>exact Ev.now _
 | false=>
  simp only[Bool.false_eq_true,if_false,Bool.false_and]
  exact Ev.now _
theorem isCarried_ev (s:Int) (r:Bool) (l:List S63) (a b:Int) (hl:l.length≤1048576):Ev (fun k=>impl_isCarried.f k s r l [a,b]) (asksV s r l a b):=by
 unfold impl_isCarried.f asksV
 simp only[isLine_eq,Option.bind_some]
 cases hL:lineV s r with
 | false=>
  have:carV s r l=false:=by unfold carV;rw[hL];simp
  rw[this]
  simp only[Bool.false_eq_true,if_false,Bool.false_and]
  exact Ev.now _
 | true=>
  obtain⟨hs,rfl⟩:=line_of hL
  have e:carV s false l=(decide ((l.length:Int)≤6)&&allF l.length (carC s l) 0):=by unfold carV;rw[hL];rfl
  simp only[if_true]
  refine Ev.bind (areCarriers_ev s false l hl hs) ?_
  rw[←e]
  cases carV s false l with
  | false=>
   simp only[Bool.false_eq_true,if_false,Bool.false_and]
   exact Ev.now _
  | true=>
   simp only[if_true,Bool.true_and]
   have hh:Ev (fun k=>impl_Road_has.f k s false [a,b]) (inAll 0 (s-1) [a,b]):=by
    unfold impl_Road_has.f
    rw[w64 (by omega) (by omega)]
    exact Ev.bind (allWithin_ev [a,b] 0 (s-1) (by simp)) (Ev.now _)
   refine Ev.bind hh ?_
   have es:Ev (fun k=>slices_IsSorted_int_int.f k [a,b]) (decide (a≤b)):=by
    unfold slices_IsSorted_int_int.f
    have e1:wrap64 ((([a,b]:List Int).length:Int)-1)=1:=by rw[w64 (by simp) (by simp)];simp
    rw[e1]
    have e0:wrap64 (1-1)=0:=by rw[w64 (by omega) (by omega)];rfl
    refine Ev.step (f:=fun k=>if b<a then some false else slices_IsSorted_int_int.l0 k [a,b] 0) (fun k=>?_) ?_
    ·simp only[slices_IsSorted_int_int.l0,e0,cmp_Less_int.f,cmp_isNaN_int.f,Option.bind_some]
     have r0:rd [a,b] 0=a:=rfl
     have r1:rd [a,b] 1=b:=rfl
     rw[if_pos (by omega),if_pos (by omega),if_pos (by simp),if_pos (by omega),if_pos (by simp),r0,r1]
     by_cases h:b<a<;>simp[h]
    ·by_cases h:b<a
     ·refine ev_pos h ?_
      rw[decide_eq_false (by omega)]
      exact Ev.now _
     ·refine ev_neg h (ev_now (fun k=>?_))
      simp only[slices_IsSorted_int_int.l0]
      rw[if_neg (by omega),decide_eq_true (by omega)]
   by_cases hA:inAll 0 (s-1) [a,b]=true
   ·refine ev_pos hA (Ev.bind es ?_)
    have hA': (0≤a∧a≤s-1)∧(0≤b∧b≤s-1):=by simpa [inAll,inR]using hA
    have: (inR 0 (s-1) b&&inR 0 b a)=decide (a≤b):=by
     rw[inR_iff.2 hA'.2,Bool.true_and]
     unfold inR
     exact decide_eq_decide.2 (by omega)
    rw[this]
    exact Ev.now _
   ·refine ev_neg hA ?_
    have: (inR 0 (s-1) b&&inR 0 b a)=false:=by
     rw[Bool.eq_false_iff]
     intro h
     simp only[Bool.and_eq_true,inR_iff]at h
     exact hA (inAll_iff.2 (fun x hx=>by
      simp only[List.mem_cons,List.mem_nil_iff,or_false]at hx
      rcases hx with rfl|rfl<;>omega))
    rw[this]
    exact Ev.now _
theorem l1Least_eq (a b:Int):spec_l1Least.f a b=some (mn a b):=by
 unfold spec_l1Least.f mn
 by_cases h:a<b
 ·rw[if_pos h,if_neg (by omega)]
 ·rw[if_neg h]
  by_cases h2:b<a
  ·rw[if_pos h2]
  ·rw[if_neg h2];congr 1;omega
theorem copied_eq (l:List Int) (h:l.length≤1048576):impl_copied.f l=some l:=by
 unfold impl_copied.f
 simp only[Option.bind_some,List.length_nil,List.nil_append]
 rw[if_pos (by omega)]
def stp (s:Int) (c:S63) (x:Int):Int:=mn (s-1) (x+mx 0 (c.f1-mx (c.f0-x) (x-c.f0)))
def rch (s:Int) (l:List S63) (o:List Int) (a:Int):Int:=o.foldl (fun x i=>stp s (l.getD i.toNat z63) x) a
theorem stp_in {s:Int} {c:S63} {x:Int} (hx:0≤x∧x≤s-1):x≤stp s c x∧stp s c x≤s-1:=by
 have h1:=mx_ge 0 (c.f1-mx (c.f0-x) (x-c.f0))
 have h2:=mn_le (s-1) (x+mx 0 (c.f1-mx (c.f0-x) (x-c.f0)))
 unfold stp
 omega
def okO (n:Nat) (o:List Int):Prop:=o.length≤1000∧∀ x∈o,∃ i:Nat,x=(i:Int)∧i<n
theorem legEnd_eq (s:Int) (c:S63) (x:Int) (hs:2≤s∧s≤24) (hx:0≤x∧x≤s-1) (hc: (0≤c.f0∧c.f0≤s-1)∧(0≤c.f1∧c.f1≤1000)):∃ b,impl_Road_legEnd.f s false c.f0 c.f1 c.f2 x=some (stp s c x,b):=by
 unfold impl_Road_legEnd.f
 rw[gap_eq s _ _ (by omega) (by omega),Option.bind_some]
 have h1:=mx_ge (c.f0-x) (x-c.f0)
 have h2:=mx_ge 0 (c.f1-mx (c.f0-x) (x-c.f0))
 rw[w64 (x:=c.f1-mx (c.f0-x) (x-c.f0)) (by omega) (by omega),w64 (x:=s-1) (by omega) (by omega),w64 (by omega) (by omega)]
 exact⟨_,rfl⟩
theorem l7End_eq (s:Int) (c:S63) (x:Int) (hs:2≤s∧s≤24) (hx:0≤x∧x≤s-1) (hc: (0≤c.f0∧c.f0≤s-1)∧(0≤c.f1∧c.f1≤1000)):∃ e,spec_l7End.f s false c.f0 c.f1 c.f2 x=some e∧mx x e=stp s c x:=by
 unfold spec_l7End.f
 rw[l2Gap_eq s _ _ (by omega) (by omega),Option.bind_some]
 have h1:=mx_ge (c.f0-x) (x-c.f0)
 rw[w64 (x:=c.f1-mx (c.f0-x) (x-c.f0)) (by omega) (by omega),w64 (x:=s-1) (by omega) (by omega),w64 (by omega) (by omega)]
 unfold stp
 by_cases h:c.f1-mx (c.f0-x) (x-c.f0)<0
 ·rw[if_pos h]
  refine⟨-1,rfl,?_⟩
  have e:mx 0 (c.f1-mx (c.f0-x) (x-c.f0))=0:=by have:=mx_ge 0 (c.f1-mx (c.f0-x) (x-c.f0));omega
  rw[e]
  have a1:=mx_ge x (-1)
  have a2:=mn_le (s-1) (x+0)
  omega
 ·rw[if_neg h,l1Least_eq,Option.bind_some]
  refine⟨_,rfl,?_⟩
  have e:mx 0 (c.f1-mx (c.f0-x) (x-c.f0))=c.f1-mx (c.f0-x) (x-c.f0):=by have:=mx_ge 0 (c.f1-mx (c.f0-x) (x-c.f0));omega
  rw[e]
  have a1:=mx_ge x (mn (s-1) (x+(c.f1-mx (c.f0-x) (x-c.f0))))
  have a2:=mn_le (s-1) (x+(c.f1-mx (c.f0-x) (x-c.f0)))
  omega
def saneC (s:Int) (l:List S63):Prop:=∀ j,j<l.length→(0≤(l.getD j z63).f0∧(l.getD j z63).f0≤s-1)∧(0≤(l.getD j z63).f1∧(l.getD j z63).f1≤1000)
theorem sane_of {s:Int} {r:Bool} {l:List S63} (h:carV s r l=true):saneC s l:=fun j hj=>by
 have:=(carV_of h).2.2 j hj
 exact⟨this.1,this.2.1.1,by have:=this.2.1.2;omega⟩
theorem orderReach_ev (s:Int) (l:List S63) (o:List Int) (a:Int) (hs:2≤s∧s≤24) (hl:saneC s l) (ho:okO l.length o) (ha:0≤a∧a≤s-1):Ev (fun k=>impl_Road_orderReach.f k s false l o a) (rch s l o a):=by
 obtain⟨ho1,ho2⟩:=ho
 have key:=down (P:=fun i=>∀ x:Int,0≤x∧x≤s-1→Ev (fun k=>impl_Road_orderReach.l0 k l x o (o.length:Int) (i:Int) s false) (rch s l (o.drop i) x)) (n:=o.length)
  (fun x _=>ev_now (fun k=>by simp only[impl_Road_orderReach.l0];rw[if_neg (by omega)];simp[rch]))
  (fun i hi ih x hx=>by
   obtain⟨j,e,hj⟩:=ho2 _ (mem_of_rd hi)
   obtain⟨b,eb⟩:=legEnd_eq s (l.getD j z63) x hs hx (hl j hj)
   have hst:=stp_in (s:=s) (c:=l.getD j z63) hx
   rw[drop_cons hi]
   refine Ev.step (fun k=>?_) (ih (stp s (l.getD j z63) x) (by omega)|>fun z=>by
    have e2:rch s l (rd o (i:Int)::o.drop (i+1)) x=rch s l (o.drop (i+1)) (stp s (l.getD j z63) x):=by
     unfold rch;rw[List.foldl_cons,e,Int.toNat_natCast]
    rw[e2];exact z)
   simp only[impl_Road_orderReach.l0]
   rw[if_pos (by omega),if_pos (by omega),if_pos (by omega),e,if_pos (by omega),if_pos (by omega),rdC_nat,eb,Option.bind_some,w64s hi (by omega)])
 exact key 0 (by omega) a ha
theorem l7Reach_ev (s:Int) (l:List S63) (o:List Int) (a:Int) (hs:2≤s∧s≤24) (hl:saneC s l) (ho:okO l.length o) (ha:0≤a∧a≤s-1):Ev (fun k=>spec_l7Reach.f k s false l o a) (rch s l o a):=by
 obtain⟨ho1,ho2⟩:=ho
 have key:=down (P:=fun i=>∀ x:Int,0≤x∧x≤s-1→Ev (fun k=>spec_l7Reach.l0 k l o x (i:Int) s false) (rch s l (o.drop i) x)) (n:=o.length)
  (fun x _=>ev_now (fun k=>by simp only[spec_l7Reach.l0];rw[if_neg (by omega)];simp[rch]))
  (fun i hi ih x hx=>by
   obtain⟨j,e,hj⟩:=ho2 _ (mem_of_rd hi)
   obtain⟨b,eb,em⟩:=l7End_eq s (l.getD j z63) x hs hx (hl j hj)
   have hst:=stp_in (s:=s) (c:=l.getD j z63) hx
   rw[drop_cons hi]
   refine Ev.step (fun k=>?_) (ih (stp s (l.getD j z63) x) (by omega)|>fun z=>by
    have e2:rch s l (rd o (i:Int)::o.drop (i+1)) x=rch s l (o.drop (i+1)) (stp s (l.getD j z63) x):=by
     unfold rch;rw[List.foldl_cons,e,Int.toNat_natCast]
    rw[e2];exact z)
   simp only[spec_l7Reach.l0]
   rw[if_pos (by omega),if_pos (by omega),e,if_pos (by omega),if_pos (by omega),rdC_nat,eb,Option.bind_some,l1Most_eq,Option.bind_some,em,w64s hi (by omega)])
 exact key 0 (by omega) a ha
def exO (n:Nat) (o:List Int) (x:Nat):List (List Int):=(((List.range n).drop x).filter (fun y:Nat=>decide ((y:Int) ∉ o))).map (fun y:Nat=>o++[(y:Int)])
theorem exO_end (n:Nat) (o:List Int):exO n o n=[]:=by unfold exO;rw[List.drop_eq_nil_of_le (by simp)];rfl
theorem exO_step {n x:Nat} (o:List Int) (h:x<n):exO n o x=if(x:Int)∈o then exO n o (x+1)else(o++[(x:Int)])::exO n o (x+1):=by
 unfold exO
 rw[List.drop_eq_getElem_cons (by simpa using h),List.getElem_range,List.filter_cons]
 by_cases hm: (x:Int)∈o
 ·simp[hm]
 ·simp[hm]
theorem exO_len (n:Nat) (o:List Int) (x:Nat): (exO n o x).length≤n-x:=by
 unfold exO
 rw[List.length_map]
 refine Nat.le_trans (List.length_filter_le _ _) ?_
 simp
def lv (n:Nat):Nat→List (List Int)
 | 0=>[[]]
 | m+1=>(lv n m).flatMap (fun o=>exO n o 0)
theorem exO_mem {n:Nat} {o p:List Int} (h:p∈exO n o 0):∃ y:Nat,y<n∧p=o++[(y:Int)]:=by
 unfold exO at h
 simp only[List.drop_zero,List.mem_map,List.mem_filter,List.mem_range]at h
 obtain⟨y,⟨hy,_⟩,rfl⟩:=h
 exact⟨y,hy,rfl⟩
theorem lv_ok (n:Nat):∀ m,∀ o∈lv n m,o.length=m∧∀ x∈o,∃ i:Nat,x=(i:Int)∧i<n
 | 0=>by intro o ho;simp only[lv,List.mem_singleton]at ho;subst ho;simp
 | m+1=>by
  intro o ho
  simp only[lv,List.mem_flatMap]at ho
  obtain⟨p,hp,ho⟩:=ho
  obtain⟨h1,h2⟩:=lv_ok n m p hp
  obtain⟨y,hy,rfl⟩:=exO_mem ho
  refine⟨by simp[h1],fun x hx=>?_⟩
  simp only[List.mem_append,List.mem_singleton]at hx
  rcases hx with hx|rfl
  ·exact h2 x hx
  ·exact⟨y,rfl,hy⟩
theorem lv_okO {n m:Nat} (hm:m≤1000) {o:List Int} (h:o∈lv n m):okO n o:=⟨by have:=(lv_ok n m o h).1;omega,(lv_ok n m o h).2⟩
theorem lv_sizes:∀ n:Nat,n≤6→(∀ m:Nat,m≤7→(lv n m).length≤720)∧(∀ m:Nat,m≤n→(lv n m).length≠0)∧(lv n (n+1)).length=0:=by decide+kernel
theorem contains_ev (o:List Int) (x:Int) (h:o.length≤1000):Ev (fun k=>slices_Contains_int_int.f k o x) (decide (x∈o)):=by
 have key:=down (P:=fun i=>∃ r:Int,Ev (fun k=>slices_Index_int_int.l0 k o x (o.length:Int) (i:Int)) r∧decide (r≥0)=decide (x∈o.drop i)) (n:=o.length)
  ⟨-1,ev_now (fun k=>by simp only[slices_Index_int_int.l0];rw[if_neg (by omega)]),by simp⟩
  (fun i hi ih=>by
   rw[drop_cons hi]
   by_cases e:x=rd o (i:Int)
   ·refine⟨(i:Int),ev_now (fun k=>?_),by simp[←e]⟩
    simp only[slices_Index_int_int.l0]
    rw[if_pos (by omega),if_pos (by omega),if_pos (by omega),if_pos e]
   ·obtain⟨r,h1,h2⟩:=ih
    refine⟨r,Ev.step (fun k=>?_) h1,by rw[h2];simp[e]⟩
    simp only[slices_Index_int_int.l0]
    rw[if_pos (by omega),if_pos (by omega),if_pos (by omega),if_neg e,w64s hi (by omega)])
 obtain⟨r,h1,h2⟩:=key 0 (by omega)
 unfold slices_Contains_int_int.f
 refine Ev.bind (g:=fun k=>slices_Index_int_int.f k o x) (a:=r) h1 ?_
 rw[h2]
 exact Ev.now _
def seek (p:List Int→Bool) (n:Nat):Nat→Nat→Option (List Int)
 | 0,_=>none
 | j+1,m=>match(lv n m).find? p with
  | some o=>some o
  | none=>seek p n j (m+1)
def orderR (s:Int) (r:Bool) (l:List S63) (a b:Int):List Int × Bool:=
 if asksV s r l a b=true then(match seek (fun o=>decide (b≤rch s l o a)) l.length (l.length+1) 0 with|some o=>(o,true)|none=>([],false))else([],false)
theorem seek_mem {p:List Int→Bool} {n:Nat}:∀ {j m o},seek p n j m=some o→p o=true∧∃ m',m≤m'∧m'<m+j∧o∈lv n m'
 | 0,_,_,h=>by simp[seek]at h
 | j+1,m,o,h=>by
  unfold seek at h
  cases hf: (lv n m).find? p with
  | some q=>
   rw[hf]at h
   obtain rfl:=Option.some.inj h
   exact⟨List.find?_some hf,m,by omega,by omega,List.mem_of_find?_eq_some hf⟩
  | none=>
   rw[hf]at h
   obtain⟨h1,m',h2,h3,h4⟩:=seek_mem h
   exact⟨h1,m',by omega,by omega,h4⟩
theorem orderR_len (s:Int) (r:Bool) (l:List S63) (a b:Int): (orderR s r l a b).1.length≤1048576:=by
 unfold orderR
 split
 ·rename_i h
  have hc:=(carV_of (asks_of h).1).2.1
  split
  ·rename_i o ho
   obtain⟨_,m',_,h3,h4⟩:=seek_mem ho
   have:=(lv_ok _ _ _ h4).1
   simp only
   omega
  ·simp
 ·simp
theorem ext_impl (l:List S63) (a b best s:Int) (os:List (List Int)) (o:List Int) (i:Nat) (hn:l.length≤6) (ho:o.length≤1000) (hi:i<os.length) (R):
  ∀ x,x≤l.length→∀ acc:List (List Int),acc.length+(l.length-x)≤1000000→Ev (fun k=>impl_Road_reachOrder.l1 k l a b best (acc++exO l.length o x) os (os.length:Int) (wrap64 ((i:Int)+1)) s false) R→
   Ev (fun k=>impl_Road_reachOrder.l2 k l a b best acc o os (os.length:Int) (i:Int) (l.length:Int) (x:Int) s false) R:=by
 refine down (P:=fun x=>∀ acc:List (List Int),acc.length+(l.length-x)≤1000000→Ev (fun k=>impl_Road_reachOrder.l1 k l a b best (acc++exO l.length o x) os (os.length:Int) (wrap64 ((i:Int)+1)) s false) R→Ev (fun k=>impl_Road_reachOrder.l2 k l a b best acc o os (os.length:Int) (i:Int) (l.length:Int) (x:Int) s false) R) ?_ ?_
 ·intro acc _ h
  rw[exO_end,List.append_nil]at h
  refine Ev.step (fun k=>?_) h
  simp only[impl_Road_reachOrder.l2]
  rw[if_neg (by omega)]
 ·intro x hx ih acc hb h
  rw[exO_step _ hx]at h
  refine Ev.step (f:=fun k=>(slices_Contains_int_int.f k o (x:Int)).bind fun t=>if t=true then impl_Road_reachOrder.l2 k l a b best acc o os (os.length:Int) (i:Int) (l.length:Int) ((x+1:Nat):Int) s false else impl_Road_reachOrder.l2 k l a b best (acc++[o++[(x:Int)]]) o os (os.length:Int) (i:Int) (l.length:Int) ((x+1:Nat):Int) s false) (fun k=>?_) (Ev.bind (contains_ev _ _ ho) ?_)
  ·simp only[impl_Road_reachOrder.l2,copied_eq _ (show o.length≤1048576 by omega),Option.bind_some]
   rw[if_pos (by omega),if_pos (by omega),if_pos (by omega),w64s hx (by omega)]
  ·by_cases hm: (x:Int)∈o
   ·rw[if_pos hm]at h
    exact ev_pos (decide_eq_true hm) (ih acc (by omega) h)
   ·rw[if_neg hm]at h
    refine ev_neg (by simpa using hm) (ih _ (by simp;omega) ?_)
    rw[List.append_assoc,List.singleton_append]
    exact h
theorem reachOrder_ev (s:Int) (l:List S63) (a b:Int) (hs:2≤s∧s≤24) (hl:saneC s l) (hn:l.length≤6) (hab:0≤a∧a≤s-1):
  ∃ r2,Ev (fun k=>impl_Road_reachOrder.f k s false l a b) ((seek (fun o=>decide (b≤rch s l o a)) l.length (l.length+1) 0).getD [],r2):=by
 have key:=down (P:=fun m=>∀ best:Int,∃ r2,Ev (fun k=>impl_Road_reachOrder.l0 k l a b best (lv l.length m) s false) ((seek (fun o=>decide (b≤rch s l o a)) l.length (l.length+1-m) m).getD [],r2)) (n:=l.length+1)
  (fun best=>⟨best,ev_now (fun k=>by
   have:=(lv_sizes l.length hn).2.2
   simp only[impl_Road_reachOrder.l0]
   rw[if_neg (by omega),Nat.sub_self]
   rfl)⟩)
  (fun m hm ih best=>by
   have e:l.length+1-m=(l.length+1-(m+1))+1:=by omega
   rw[e]
   have hz:=(lv_sizes l.length hn).1 m (by omega)
   have hz0:=(lv_sizes l.length hn).2.1 m (by omega)
   have k2:=down (P:=fun i=>∀ (best:Int) (acc:List (List Int)),acc.length+((lv l.length m).length-i)*6≤1000000→acc++((lv l.length m).drop i).flatMap (fun o=>exO l.length o 0)=lv l.length (m+1)→∃ r2,Ev (fun k=>impl_Road_reachOrder.l1 k l a b best acc (lv l.length m) ((lv l.length m).length:Int) (i:Int) s false) ((match((lv l.length m).drop i).find? (fun o=>decide (b≤rch s l o a))with|some o=>some o|none=>seek (fun o=>decide (b≤rch s l o a)) l.length (l.length+1-(m+1)) (m+1)).getD [],r2)) (n:=(lv l.length m).length)
    (fun best acc _ hacc=>by
     rw[List.drop_length,List.flatMap_nil,List.append_nil]at hacc
     obtain⟨r2,h2⟩:=ih best
     refine⟨r2,?_⟩
     rw[List.drop_length,List.find?_nil]
     refine Ev.step (fun k=>?_) h2
     simp only[impl_Road_reachOrder.l1]
     rw[if_neg (by omega),hacc])
    (fun i hi ih2 best acc hb hacc=>by
     have hg: (lv l.length m).getD i []∈lv l.length m:=by rw[List.getD_eq_getElem?_getD,List.getElem?_eq_getElem hi];exact List.getElem_mem hi
     have hok:okO l.length ((lv l.length m).getD i []):=lv_okO (by omega) hg
     have hr:=orderReach_ev s l _ a hs hl hok hab
     have hx:=exO_len l.length ((lv l.length m).getD i []) 0
     rw[drop_consG [] hi,List.find?_cons]
     have stepe:∀ (r2:Int) (res:List Int),Ev (fun k=>if rch s l ((lv l.length m).getD i []) a≥b then some ((lv l.length m).getD i [],rch s l ((lv l.length m).getD i []) a)else impl_Road_reachOrder.l2 k l a b (mx best (rch s l ((lv l.length m).getD i []) a)) acc ((lv l.length m).getD i []) (lv l.length m) ((lv l.length m).length:Int) (i:Int) (l.length:Int) ((0:Nat):Int) s false) (res,r2)→
       Ev (fun k=>impl_Road_reachOrder.l1 k l a b best acc (lv l.length m) ((lv l.length m).length:Int) (i:Int) s false) (res,r2):=by
      intro r2 res h
      refine Ev.step (f:=fun k=>(impl_Road_orderReach.f k s false l ((lv l.length m).getD i []) a).bind fun t=>if t≥b then some ((lv l.length m).getD i [],t)else impl_Road_reachOrder.l2 k l a b (mx best t) acc ((lv l.length m).getD i []) (lv l.length m) ((lv l.length m).length:Int) (i:Int) (l.length:Int) ((0:Nat):Int) s false) (fun k=>?_) (Ev.bind hr h)
      simp only[impl_Road_reachOrder.l1,show rd_L2 (lv l.length m) (i:Int)=(lv l.length m).getD i []from rfl]
      rw[if_pos (by omega),if_pos (by omega),if_pos (by omega)]
      first
       | rfl
       | (simp only[copied_eq _ (show((lv l.length m).getD i []).length≤1048576 by have:=hok.1;omega),Option.bind_some];rfl)
     by_cases hh:b≤rch s l ((lv l.length m).getD i []) a
     ·rw[decide_eq_true hh]
      exact⟨_,stepe _ _ (ev_pos hh (Ev.now _))⟩
     ·rw[decide_eq_false hh]
      rw[drop_consG [] hi,List.flatMap_cons,←List.append_assoc]at hacc
      obtain⟨r2,h2⟩:=ih2 (mx best (rch s l ((lv l.length m).getD i []) a)) (acc++exO l.length ((lv l.length m).getD i []) 0) (by rw[List.length_append];omega) hacc
      refine⟨r2,stepe _ _ (ev_neg hh ?_)⟩
      refine ext_impl l a b _ s _ _ i hn hok.1 hi _ 0 (by omega) acc (by omega) ?_
      rw[w64s hi (by omega)]
      exact h2)
   obtain⟨r2,h2⟩:=k2 0 (by omega) best [] (by simp;omega) (by simp[lv])
   rw[List.drop_zero]at h2
   refine⟨r2,Ev.step (f:=fun k=>impl_Road_reachOrder.l1 k l a b best [] (lv l.length m) ((lv l.length m).length:Int) ((0:Nat):Int) s false) (fun k=>?_) ?_⟩
   ·simp only[impl_Road_reachOrder.l0]
    rw[if_pos (by omega)]
    rfl
   ·unfold seek
    cases hf: (lv l.length m).find? (fun o=>decide (b≤rch s l o a))with
    | some o=>rw[hf]at h2;exact h2
    | none=>rw[hf]at h2;exact h2)
 exact key 0 (by omega) a
theorem rch_nil (s:Int) (l:List S63) (a:Int):rch s l [] a=a:=rfl
theorem reach3_ev (s:Int) (l:List S63) (a b:Int) (hs:2≤s∧s≤24) (hl:saneC s l) (hn:l.length≤6) (hab:0≤a∧a≤s-1):
  ∃ r2,Ev (fun k=>reachOrder3.f k s false l a b) ((seek (fun o=>decide (b≤rch s l o a)) l.length (l.length+1) 0).getD [],r2,(seek (fun o=>decide (b≤rch s l o a)) l.length (l.length+1) 0).isSome):=by
 obtain⟨r2,h⟩:=reachOrder_ev s l a b hs hl hn hab
 refine⟨r2,?_⟩
 unfold reachOrder3.f
 refine Ev.bind h ?_
 have e:decide ((seek (fun o=>decide (b≤rch s l o a)) l.length (l.length+1) 0).getD []≠[]∨b≤a)=(seek (fun o=>decide (b≤rch s l o a)) l.length (l.length+1) 0).isSome:=by
  cases hk:seek (fun o=>decide (b≤rch s l o a)) l.length (l.length+1) 0 with
  | some o=>
   have hp:=of_decide_eq_true (seek_mem hk).1
   simp only[Option.getD_some,Option.isSome_some]
   refine decide_eq_true ?_
   by_cases ho:o=[]
   ·subst ho;exact .inr hp
   ·exact .inl ho
  | none=>
   simp only[Option.getD_none,Option.isSome_none]
   refine decide_eq_false ?_
   intro h
   rcases h with h|h
   ·exact h rfl
   ·unfold seek at hk
    simp[lv,rch_nil,h]at hk
 dsimp only
 rw[e]
 exact Ev.now _
theorem stp_mono {s:Int} {c:S63} {x y:Int} (h:x≤y) (hy:y≤s-1):stp s c x≤stp s c y:=by
 unfold stp mn mx
 repeat' split
 all_goals omega
theorem bit_sub:∀ c:Nat,c<64→∀ i:Nat,i<6→bitA c i=1→∀ j:Nat,j<6→bitA (c-2^i) j=if j=i then 0 else bitA c j:=by decide+kernel
theorem bit_add:∀ c:Nat,c<64→∀ i:Nat,i<6→bitA c i=0→∀ j:Nat,j<6→bitA (c+2^i) j=if j=i then 1 else bitA c j:=by decide+kernel
theorem add_lt:∀ n:Nat,n≤6→∀ c:Nat,c<2^n→∀ i:Nat,i<n→bitA c i=0→c+2^i<2^n:=by decide+kernel
theorem bit_all:∀ n:Nat,n≤6→∀ i:Nat,i<n→bitA (2^n-1) i=1:=by decide+kernel
theorem pow_le64 {n:Nat} (h:n≤6):2^n≤64:=Nat.pow_le_pow_right (by omega) h
def pc (c:Nat):Nat→Nat
 | 0=>0
 | i+1=>pc c i+bitA c i
theorem pc_le (c n:Nat):pc c n≤n:=by
 induction n with
 | zero=>exact Nat.le_refl _
 | succ n ih=>have:=bit_cases c n;show pc c n+bitA c n≤n+1;omega
theorem pc_sub {c i:Nat} (hc:c<64) (hi:i<6) (hb:bitA c i=1):∀ n,n≤6→pc (c-2^i) n+(if i<n then 1 else 0)=pc c n
 | 0,_=>by simp[pc]
 | n+1,h=>by
  have ih:=pc_sub hc hi hb n (by omega)
  have hs:=bit_sub c hc i hi hb n (by omega)
  show pc (c-2^i) n+bitA (c-2^i) n+_=pc c n+bitA c n
  rw[hs]
  by_cases e:n=i
  ·subst e
   rw[if_neg (Nat.lt_irrefl _)]at ih
   rw[if_pos rfl,if_pos (by omega),hb]
   omega
  ·rw[if_neg e]
   by_cases h2:i<n
   ·rw[if_pos h2]at ih;rw[if_pos (by omega)];omega
   ·rw[if_neg h2]at ih;rw[if_neg (by omega)];omega
def cellF (s:Int) (l:List S63) (a:Int) (T:List Int) (c:Nat):Nat→Int
 | 0=>a
 | i+1=>if bitA c i=1 then mx (cellF s l a T c i) (stp s (l.getD i z63) (rd T ((c-2^i:Nat):Int)))else cellF s l a T c i
def tbL (s:Int) (l:List S63) (a:Int):Nat→List Int
 | 0=>[]
 | c+1=>tbL s l a c++[cellF s l a (tbL s l a c) c l.length]
theorem tbL_len (s:Int) (l:List S63) (a:Int) (c:Nat): (tbL s l a c).length=c:=by
 induction c with
 | zero=>rfl
 | succ c ih=>show(_++[_]).length=_;rw[List.length_append,ih];rfl
theorem tbL_rd (s:Int) (l:List S63) (a:Int) {c d:Nat} (h:c<d):rd (tbL s l a d) (c:Int)=cellF s l a (tbL s l a c) c l.length:=by
 induction d with
 | zero=>omega
 | succ d ih=>
  show rd (tbL s l a d++[_]) (c:Int)=_
  by_cases e:c=d
  ·subst e
   have:=rd_snoc (tbL s l a c) (cellF s l a (tbL s l a c) c l.length)
   rw[tbL_len]at this
   exact this
  ·rw[rd_app_l (by rw[tbL_len];omega)]
   exact ih (by omega)
def V (s:Int) (l:List S63) (a:Int) (c:Nat):Int:=cellF s l a (tbL s l a c) c l.length
theorem cellF_ge (s:Int) (l:List S63) (a:Int) (T:List Int) (c:Nat):∀ n,a≤cellF s l a T c n∧∀ i,i<n→bitA c i=1→stp s (l.getD i z63) (rd T ((c-2^i:Nat):Int))≤cellF s l a T c n
 | 0=>⟨Int.le_refl _,fun i h=>by omega⟩
 | n+1=>by
  have ih:=cellF_ge s l a T c n
  unfold cellF
  have hm:=mx_ge (cellF s l a T c n) (stp s (l.getD n z63) (rd T ((c-2^n:Nat):Int)))
  by_cases hb:bitA c n=1
  ·rw[if_pos hb]
   refine⟨by omega,fun i hi hbi=>?_⟩
   by_cases e:i=n
   ·subst e;exact hm.2.1
   ·have:=ih.2 i (by omega) hbi;omega
  ·rw[if_neg hb]
   refine⟨ih.1,fun i hi hbi=>?_⟩
   by_cases e:i=n
   ·subst e;exact absurd hbi hb
   ·exact ih.2 i (by omega) hbi
theorem cellF_mem (s:Int) (l:List S63) (a:Int) (T:List Int) (c:Nat):∀ n,cellF s l a T c n=a∨∃ i,i<n∧bitA c i=1∧cellF s l a T c n=stp s (l.getD i z63) (rd T ((c-2^i:Nat):Int))
 | 0=> .inl rfl
 | n+1=>by
  have ih:=cellF_mem s l a T c n
  unfold cellF
  have hm:=mx_ge (cellF s l a T c n) (stp s (l.getD n z63) (rd T ((c-2^n:Nat):Int)))
  have lift:cellF s l a T c n=a∨∃ i,i<n+1∧bitA c i=1∧cellF s l a T c n=stp s (l.getD i z63) (rd T ((c-2^i:Nat):Int)):=by
   rcases ih with h|⟨i,h1,h2,h3⟩
   ·exact .inl h
   ·exact .inr ⟨i,by omega,h2,h3⟩
  by_cases hb:bitA c n=1
  ·rw[if_pos hb]
   rcases hm.2.2 with h|h
   ·rw[h];exact lift
   ·exact .inr ⟨n,by omega,hb,h⟩
  ·rw[if_neg hb];exact lift
def inSet (n c:Nat) (o:List Int):Prop:=o.Nodup∧∀ x∈o,∃ i:Nat,x=(i:Int)∧i<n∧bitA c i=1
theorem rch_snoc (s:Int) (l:List S63) (o:List Int) (i:Nat) (a:Int):rch s l (o++[(i:Int)]) a=stp s (l.getD i z63) (rch s l o a):=by
 unfold rch
 rw[List.foldl_append,List.foldl_cons,List.foldl_nil,Int.toNat_natCast]
theorem V_mem {s:Int} {l:List S63} {a:Int} (hn:l.length≤6):∀ c,c<2^l.length→∃ o,inSet l.length c o∧o.length≤pc c l.length∧V s l a c=rch s l o a:=by
 intro c
 induction c using Nat.strongRecOn with
 | _ c ih=>
  intro hc
  have h64:=pow_le64 hn
  rcases cellF_mem s l a (tbL s l a c) c l.length with h|⟨i,hi,hb,h⟩
  ·exact⟨[],⟨List.nodup_nil,fun x hx=>by simp at hx⟩,by simp,h⟩
  ·have hp:=bit_le hb
   have hpos:=Nat.two_pow_pos i
   obtain⟨o,⟨ho1,ho2⟩,ho3,ho4⟩:=ih (c-2^i) (by omega) (by omega)
   have hs:=bit_sub c (by omega) i (by omega) hb
   refine⟨o++[(i:Int)],⟨?_,fun x hx=>?_⟩,?_,?_⟩
   ·rw[List.nodup_append]
    refine⟨ho1,by simp,fun x hx y hy e=>?_⟩
    simp only[List.mem_singleton]at hy
    subst e
    obtain⟨j,e1,hj,hbj⟩:=ho2 x hx
    have:j=i:=by omega
    subst this
    rw[hs j (by omega),if_pos rfl]at hbj
    omega
   ·simp only[List.mem_append,List.mem_singleton]at hx
    rcases hx with hx|rfl
    ·obtain⟨j,e1,hj,hbj⟩:=ho2 x hx
     rw[hs j (by omega)]at hbj
     by_cases e:j=i
     ·rw[if_pos e]at hbj;omega
     ·rw[if_neg e]at hbj;exact⟨j,e1,hj,hbj⟩
    ·exact⟨i,rfl,hi,hb⟩
   ·have:=pc_sub (by omega) (by omega) hb l.length hn
    rw[if_pos hi]at this
    simp only[List.length_append,List.length_singleton]
    omega
   ·rw[rch_snoc,←ho4]
    show V s l a c=_
    unfold V
    rw[h,tbL_rd s l a (by omega)]
theorem V_in {s:Int} {l:List S63} {a:Int} (hn:l.length≤6) (ha:0≤a∧a≤s-1) (c:Nat) (hc:c<2^l.length):a≤V s l a c∧V s l a c≤s-1:=by
 refine⟨(cellF_ge s l a _ c l.length).1,?_⟩
 obtain⟨o,_,_,h⟩:=V_mem (s:=s) (a:=a) hn c hc
 rw[h]
 have:∀ (o:List Int) (x:Int),0≤x∧x≤s-1→rch s l o x≤s-1:=by
  intro o
  induction o with
  | nil=>intro x hx;exact hx.2
  | cons y o ih=>
   intro x hx
   have:=stp_in (s:=s) (c:=l.getD y.toNat z63) hx
   show rch s l o (stp s (l.getD y.toNat z63) x)≤s-1
   exact ih _ (by omega)
 exact this o a ha
theorem V_ge {s:Int} {l:List S63} {a:Int} (hn:l.length≤6) (ha:0≤a∧a≤s-1):∀ (m:Nat) (o:List Int),o.length=m→∀ c,c<2^l.length→inSet l.length c o→rch s l o a≤V s l a c:=by
 intro m
 induction m with
 | zero=>
  intro o ho c hc _
  have:o=[]:=List.length_eq_zero_iff.1 ho
  subst this
  exact(V_in hn ha c hc).1
 | succ m ih=>
  intro o ho c hc hset
  have hne:o≠[]:=fun e=>by rw[e]at ho;simp at ho
  have eo:=List.dropLast_concat_getLast hne
  obtain⟨h1,h2⟩:=hset
  obtain⟨i,ei,hi,hb⟩:=h2 _ (List.getLast_mem hne)
  have h64:=pow_le64 hn
  have hp:=bit_le hb
  have hpos:=Nat.two_pow_pos i
  rw[ei]at eo
  have hs:=bit_sub c (by omega) i (by omega) hb
  rw[←eo]at h1 h2
  rw[List.nodup_append]at h1
  have hsub:inSet l.length (c-2^i) o.dropLast:=by
   refine⟨h1.1,fun x hx=>?_⟩
   obtain⟨j,e1,hj,hbj⟩:=h2 x (List.mem_append_left _ hx)
   refine⟨j,e1,hj,?_⟩
   rw[hs j (by omega)]
   by_cases e:j=i
   ·subst e
    exact absurd e1 (h1.2.2 x hx _ (List.mem_singleton.2 rfl))
   ·rw[if_neg e];exact hbj
  have hr:=ih o.dropLast (by rw[List.length_dropLast];omega) (c-2^i) (by omega) hsub
  rw[←eo,rch_snoc]
  have hv:=V_in (s:=s) (l:=l) (a:=a) hn ha (c-2^i) (by omega)
  refine Int.le_trans (stp_mono hr hv.2) ?_
  have hg:=(cellF_ge s l a (tbL s l a c) c l.length).2 i hi hb
  rw[tbL_rd s l a (by omega)]at hg
  exact hg
theorem lv_mem {n:Nat}:∀ (m:Nat) (o:List Int),o.length=m→o.Nodup→(∀ x∈o,∃ i:Nat,x=(i:Int)∧i<n)→o∈lv n m
 | 0,o,h,_,_=>by have:o=[]:=List.length_eq_zero_iff.1 h;subst this;simp[lv]
 | m+1,o,h,hd,hx=>by
  have hne:o≠[]:=fun e=>by rw[e]at h;simp at h
  have eo:=List.dropLast_concat_getLast hne
  obtain⟨i,ei,hi⟩:=hx _ (List.getLast_mem hne)
  rw[ei]at eo
  rw[←eo,List.nodup_append]at hd
  simp only[lv,List.mem_flatMap]
  refine⟨o.dropLast,lv_mem m o.dropLast (by rw[List.length_dropLast];omega) hd.1 (fun x hx2=>hx x ((List.dropLast_sublist o).subset hx2)),?_⟩
  unfold exO
  simp only[List.drop_zero,List.mem_map,List.mem_filter,List.mem_range,decide_eq_true_eq]
  exact⟨i,⟨hi,fun hm=>hd.2.2 _ hm _ (List.mem_singleton.2 rfl) rfl⟩,eo⟩
theorem lv_nodup {n:Nat}:∀ (m:Nat) (o:List Int),o∈lv n m→o.Nodup
 | 0,o,h=>by simp only[lv,List.mem_singleton]at h;subst h;exact List.nodup_nil
 | m+1,o,h=>by
  simp only[lv,List.mem_flatMap]at h
  obtain⟨p,hp,ho⟩:=h
  have ih:=lv_nodup m p hp
  unfold exO at ho
  simp only[List.drop_zero,List.mem_map,List.mem_filter,List.mem_range,decide_eq_true_eq]at ho
  obtain⟨y,⟨_,hy⟩,rfl⟩:=ho
  rw[List.nodup_append]
  refine⟨ih,by simp,fun x hx z hz e=>?_⟩
  simp only[List.mem_singleton]at hz
  subst e hz
  exact hy hx
theorem gapv_in (p q:Int):0≤gapv p q∧p-q≤gapv p q∧q-p≤gapv p q∧(gapv p q=p-q∨gapv p q=q-p):=by
 unfold gapv mx
 split<;>omega
def legE (l:List S63) (i:Nat) (x y:Int):Prop:=gapv (l.getD i z63).f0 x+(y-x)≤(l.getD i z63).f1
instance (l:List S63) (i:Nat) (x y:Int):Decidable (legE l i x y):=by unfold legE;infer_instance
def legL (fast:Bool) (l:List S63) (i:Nat) (v x y:Int):Int:=if fast=true then mx v (gapv (l.getD i z63).f0 x)+(y-x)else v+(l.getD i z63).f2*(gapv (l.getD i z63).f0 x+(y-x))
def mkLegs (fast:Bool) {s:Int} (l:List S63) (a b:Int) (h:carV s false l=true):Legs where
 n:=l.length
 a:=a
 b:=b
 E:=legE l
 L:=legL fast l
 Lm:=fun i v v' x y hvv=>by
  unfold legL
  cases fast
  ·simp only[Bool.false_eq_true,if_false];omega
  ·simp only[if_true];unfold mx;split<;>split<;>omega
 Lp:=fun i v x y hv hxy hi he=>by
  have hg:=gapv_in (l.getD i z63).f0 x
  have hc:=((carV_of h).2.2 i hi).2.2
  unfold legL
  cases fast
  ·simp only[Bool.false_eq_true,if_false]
   have:=Int.mul_nonneg hc.1 (show 0≤gapv (l.getD i z63).f0 x+(y-x)by omega)
   omega
  ·simp only[if_true]
   have:=mx_ge v (gapv (l.getD i z63).f0 x)
   omega
theorem leg_bd {fast:Bool} {s:Int} {l:List S63} (h:carV s false l=true) {i:Nat} {v x y:Int} (hi:i<l.length) (hv:0≤v) (hxy:x<y) (he:legE l i x y):legL fast l i v x y≤v+960:=by
 have hg:=gapv_in (l.getD i z63).f0 x
 have hc:=((carV_of h).2.2 i hi).2
 unfold legE at he
 unfold legL
 cases fast
 ·simp only[Bool.false_eq_true,if_false]
  have h1:=Int.mul_le_mul_of_nonneg_right hc.2.2 (show 0≤gapv (l.getD i z63).f0 x+(y-x)by omega)
  omega
 ·simp only[if_true]
  have:=mx_ge v (gapv (l.getD i z63).f0 x)
  omega
theorem Way.bd {G:Legs} (hL:∀ i v x y,i<G.n→0≤v→x<y→G.E i x y→G.L i v x y≤v+960) {c:Nat} {y v:Int} (h:Way G c y v):v≤960*(c:Int):=by
 induction h with
 | start=>omega
 | @leg c x v i y hw hi _ hxy _ he ih=>
  have:=hL i v x y hi hw.pos hxy he
  have hp:0<2^i:=Nat.two_pow_pos i
  omega
theorem way_bd {fast:Bool} {s:Int} {l:List S63} {a b:Int} {h:carV s false l=true} {c:Nat} {y v:Int} (hw:Way (mkLegs fast l a b h) c y v):c<64∧0≤v∧v≤61440:=by
 have h1:=hw.bd (fun i v x y hi hv hxy he=>leg_bd (fast:=fast) h hi hv hxy he)
 have h2:c<2^l.length:=hw.set
 have h3:=pow_le64 (carV_of h).2.1
 have:=hw.pos
 omega
def tabT (t:List (List Int)) (a b:Int):Nat→Int→Int:=fun c y=>if c<t.length∧a≤y∧y≤b then rd (t.getD c []) (y-a)else-1
def dimT (t:List (List Int)) (n:Nat) (a b:Int):Prop:=t.length=2^n∧∀ c,c<2^n→((t.getD c []).length:Int)=b-a+1
theorem tabT_at {t:List (List Int)} {n:Nat} {a b:Int} (hd:dimT t n a b) {c:Nat} {y:Int} (hc:c<2^n) (hy:a≤y∧y≤b):tabT t a b c y=rd (t.getD c []) (y-a):=by
 unfold tabT
 rw[if_pos ⟨by rw[hd.1];exact hc,hy.1,hy.2⟩]
theorem dimT_put {t:List (List Int)} {n:Nat} {a b:Int} (hd:dimT t n a b) {c:Nat} (hc:c<2^n) (q:Nat) (v:Int):dimT (t.set c ((t.getD c []).set q v)) n a b:=by
 refine⟨by rw[List.length_set];exact hd.1,fun d h=>?_⟩
 have h1:=hd.2 c hc
 have h2:=hd.2 d h
 have hl:=hd.1
 rw[List.getD_eq_getElem?_getD,List.getElem?_set]
 by_cases e:c=d
 ·rw[if_pos e,if_pos (by omega),Option.getD_some,List.length_set];exact h1
 ·rw[if_neg e,←List.getD_eq_getElem?_getD];exact h2
theorem tabT_put {t:List (List Int)} {n:Nat} {a b:Int} (hd:dimT t n a b) {c:Nat} {y:Int} (hc:c<2^n) (hy:a≤y∧y≤b) (v:Int):tabT (t.set c ((t.getD c []).set (y-a).toNat v)) a b=fun c' y'=>if c'=c∧y'=y then v else tabT t a b c' y':=by
 have hl:=hd.1
 have h1:=hd.2 c hc
 funext c' y'
 unfold tabT
 rw[List.length_set]
 by_cases hq:c'<t.length∧a≤y'∧y'≤b
 ·rw[if_pos hq,if_pos hq,List.getD_eq_getElem?_getD,List.getElem?_set]
  by_cases e:c=c'
  ·subst e
   rw[if_pos rfl,if_pos (by omega),Option.getD_some]
   unfold rd
   rw[List.getD_eq_getElem?_getD,List.getElem?_set]
   by_cases e2:y'=y
   ·subst e2
    rw[if_pos rfl,if_pos (by omega),if_pos ⟨rfl,rfl⟩,Option.getD_some]
   ·rw[if_neg (by omega),if_neg (fun h=>e2 h.2),←List.getD_eq_getElem?_getD]
  ·rw[if_neg e,if_neg (fun h=>e h.1.symm),←List.getD_eq_getElem?_getD]
 ·rw[if_neg hq,if_neg hq,if_neg (fun h=>hq ⟨by omega,by omega,by omega⟩)]
theorem relax_put {T:Nat→Int→Int} {c:Nat} {y v:Int} (h:T c y<0∨v<T c y):relax T c y v=fun c' y'=>if c'=c∧y'=y then v else T c' y':=by
 unfold relax
 rw[if_pos h]
def Good {α:Type} (G:Legs) (r:Int→α) (f:Nat→Option α):Prop:=∃ t,IsBest G t∧Ev f (r t)
theorem Good.step {α:Type} {G:Legs} {r:Int→α} {g f:Nat→Option α} (h:∀ k,g (k+1)=f k) (k:Good G r f):Good G r g:=by
 obtain⟨t,h1,h2⟩:=k
 exact⟨t,h1,Ev.step h h2⟩
theorem Good.congr {α:Type} {G:Legs} {r:Int→α} {g f:Nat→Option α} (h:∀ k,g k=f k) (k:Good G r f):Good G r g:=by
 obtain⟨t,h1,h2⟩:=k
 exact⟨t,h1,Ev.congr h h2⟩
theorem l7Arrive_eq (s:Int) (c0 c1 c2 v a t:Int) (h0:0≤c0∧c0≤1000) (h1:0≤a∧a≤1000) (h2:0≤t∧t≤1000) (h3:0≤v∧v≤1000000):spec_l7Arrive.f s false c0 c1 c2 v a t=some (mx v (gapv c0 a)+(t-a)):=by
 unfold spec_l7Arrive.f
 rw[l2Gap_eq s c0 a (by omega) (by omega)]
 simp only[Option.bind_some,l1Most_eq]
 have h4:=gapv_in c0 a
 have h5:=mx_ge v (gapv c0 a)
 unfold gapv at*
 rw[w64 (x:=mx v (mx (c0-a) (a-c0))+t) (by omega) (by omega),w64 (by omega) (by omega)]
 congr 1
 omega
theorem sp_l5 {fast:Bool} {s:Int} {l:List S63} {a b:Int} (hv:carV s false l=true) (ha:0≤a) (hb:b≤s-1) {c i:Nat} {x now best e:Int} (hi:i<l.length) (hc:c<2^l.length) (hx:a≤x∧x≤b) (he:∀ y,x<y→y≤b→(legE l i x y↔y≤e))
  (hk:∀ t,dimT t l.length a b→Handing (mkLegs fast l a b hv) (DS (mkLegs fast l a b hv) c x) (tabT t a b) c x (fun j _=>j<i+1)→tabT t a b c x=now→Good (mkLegs fast l a b hv) id (fun k=>spec_l7Best.l4 k l a b fast t best (c:Int) x now ((i+1:Nat):Int) s false)):
  ∀ (m:Nat) (y:Int),y+m=b+1→x<y→∀ t,dimT t l.length a b→Handing (mkLegs fast l a b hv) (DS (mkLegs fast l a b hv) c x) (tabT t a b) c x (fun j z=>j<i∨j=i∧z<y)→tabT t a b c x=now→Good (mkLegs fast l a b hv) id (fun k=>spec_l7Best.l5 k l a b fast t best (c:Int) x now (i:Int) e y s false):=by
 obtain⟨⟨hs,_⟩,hn,hcs⟩:=carV_of hv
 have h64:=pow_le64 hn
 have out:∀ (y:Int) (t:List (List Int)),dimT t l.length a b→Handing (mkLegs fast l a b hv) (DS (mkLegs fast l a b hv) c x) (tabT t a b) c x (fun j z=>j<i∨j=i∧z<y)→tabT t a b c x=now→(∀ z,x<z→z≤b→legE l i x z→c/ 2^i % 2=0→z<y)→
   Good (mkLegs fast l a b hv) id (fun k=>spec_l7Best.j8 k l a b fast t best (c:Int) x now (i:Int) e y false s false):=by
  intro y t hd hh hw hz
  refine Good.step (fun k=>?_) (hk t hd (hh.mono (fun j z hj _ hjb h1 h2 h3=>?_)) hw)
  ·simp only[spec_l7Best.j8]
   rw[if_neg (by decide),w64s hi (by omega)]
  ·by_cases e1:j=i
   ·subst e1
    exact Or.inr ⟨rfl,hz z h1 h2 h3 hjb⟩
   ·exact Or.inl (by omega)
 intro m
 induction m with
 | zero=>
  intro y hy hxy t hd hh hw
  refine Good.step (f:=fun k=>spec_l7Best.j8 k l a b fast t best (c:Int) x now (i:Int) e y false s false) (fun k=>?_) (out y t hd hh hw (fun z _ h2 _ _=>by omega))
  simp only[spec_l7Best.l5,l1Least_eq,Option.bind_some]
  have:=mn_le b e
  rw[if_neg (by omega)]
 | succ m ih=>
  intro y hy hxy t hd hh hw
  have hmn:=mn_le b e
  by_cases hy2:y≤mn b e
  ·by_cases hbit:bitA c i=0
   ·have hle:y≤b∧y≤e:=by omega
    have hE:=(he y hxy hle.1).2 hle.2
    have hc2:c+2^i<2^l.length:=bit_lt hc hi hbit
    have hpos:=Nat.two_pow_pos i
    have hnow:0≤now∧now≤61440:=by have:=way_bd hh.way;omega
    have hlb:=leg_bd (fast:=fast) hv hi hnow.1 hxy hE
    have hl0:0≤legL fast l i now x y:=(mkLegs fast l a b hv).Lp i now x y hnow.1 hxy hi hE
    have hci:=hcs i hi
    unfold carC at hci
    have hg:=gapv_in (l.getD i z63).f0 x
    have hrow:=hd.2 (c+2^i) hc2
    have hlen:=hd.1
    have hput:=dimT_put hd hc2 (y-a).toNat (legL fast l i now x y)
    have htp:=tabT_put hd hc2 (y:=y) (by omega) (legL fast l i now x y)
    have hat:=tabT_at hd hc2 (y:=y) (by omega)
    have hp:=hh.put (H':=fun j z=>j<i∨j=i∧z<y+1) (i:=i) (y:=y) hi hbit hxy hle.1 hE DS_not (fun j z hj=>by
     rcases hj with h|h
     ·exact Or.inl (Or.inl h)
     ·by_cases ez:z=y
      ·exact Or.inr ⟨h.1,ez⟩
      ·exact Or.inl (Or.inr ⟨h.1,by omega⟩))
    rw[hw]at hp
    have hws:=Handing.same (G:=mkLegs fast l a b hv) (T:=tabT t a b) (c:=c) (x:=x) (i:=i) (y:=y) (v:=legL fast l i now x y)
    rw[hw]at hws
    change Handing _ _ (relax (tabT t a b) (c+2^i) y (legL fast l i now x y)) c x _ at hp
    refine Good.step (f:=fun k=>spec_l7Best.j8 k l a b fast t best (c:Int) x now (i:Int) e y true s false) (fun k=>?_) ?_
    ·simp only[spec_l7Best.l5,l1Least_eq,Option.bind_some]
     rw[if_pos hy2,if_pos (by omega),bit_read (by omega) (by omega),hbit]
     rfl
    have hidx:wrap64 ((c:Int)+shl .i64 1 (i:Int))=((c+2^i:Nat):Int):=by
     rw[shl_one (by omega),w64 (by omega) (by omega)];omega
    have hcol:wrap64 (y-a)=y-a:=w64 (by omega) (by omega)
    have hy1:wrap64 (y+1)=y+1:=w64 (by omega) (by omega)
    have hrd:∀ (t:List (List Int)) (c:Nat),rd_L2 t (c:Int)=t.getD c []:=fun _ _=>rfl
    have eb:∀ k,spec_l7Best.j8 (k+1) l a b fast t best (c:Int) x now (i:Int) e y true s false=if tabT t a b (c+2^i) y<0 then spec_l7Best.l5 k l a b fast (t.set (c+2^i) ((t.getD (c+2^i) []).set (y-a).toNat (legL fast l i now x y))) best (c:Int) x now (i:Int) e (y+1) s false else if legL fast l i now x y<tabT t a b (c+2^i) y then spec_l7Best.l5 k l a b fast (t.set (c+2^i) ((t.getD (c+2^i) []).set (y-a).toNat (legL fast l i now x y))) best (c:Int) x now (i:Int) e (y+1) s false else spec_l7Best.l5 k l a b fast t best (c:Int) x now (i:Int) e (y+1) s false:=by
     intro k
     have c1: (0:Int)≤(i:Int):=Int.natCast_nonneg i
     have c2: (i:Int)<(l.length:Int):=Int.ofNat_lt.2 hi
     have c3: (0:Int)≤((c+2^i:Nat):Int):=Int.natCast_nonneg _
     have c4: ((c+2^i:Nat):Int)<(t.length:Int):=by rw[hlen];exact Int.ofNat_lt.2 hc2
     have c5:0≤y-a:=by omega
     have c6:y-a<((t.getD (c+2^i) []).length:Int):=by rw[hrow];omega
     simp only[spec_l7Best.j8,hidx,hcol,hy1,rdC_nat,hrd,Int.toNat_natCast]
     rw[if_pos True.intro,if_pos c1,if_pos c2,l7Steps_eq s _ _ _ x y (by omega) (by omega) (by omega),l7Arrive_eq s _ _ _ now x y (by omega) (by omega) (by omega) (by omega)]
     simp only[Option.bind_some]
     unfold legE at hE
     cases fast with
     | true=>
      rw[if_pos rfl,if_pos c3,if_pos c4,if_pos c5,if_pos c6,←hat]
      rfl
     | false=>
      have hm1:=Int.mul_le_mul_of_nonneg_right hci.2.2.2 (show 0≤gapv (l.getD i z63).f0 x+(y-x)by omega)
      have hm2:=Int.mul_nonneg hci.2.2.1 (show 0≤gapv (l.getD i z63).f0 x+(y-x)by omega)
      rw[if_neg (by decide),if_pos c3,if_pos c4,if_pos c5,if_pos c6,←hat,w64 (x:=(l.getD i z63).f2*(gapv (l.getD i z63).f0 x+(y-x))) (by omega) (by omega),w64 (x:=now+_) (by omega) (by omega)]
      rfl
    by_cases q:tabT t a b (c+2^i) y<0∨legL fast l i now x y<tabT t a b (c+2^i) y
    ·have hT:tabT (t.set (c+2^i) ((t.getD (c+2^i) []).set (y-a).toNat (legL fast l i now x y))) a b=relax (tabT t a b) (c+2^i) y (legL fast l i now x y):=by rw[htp,relax_put q]
     refine Good.step (fun k=>?_) (ih (y+1) (by omega) (by omega) _ hput (by rw[hT];exact hp) (by rw[hT];exact hws))
     rw[eb]
     by_cases q1:tabT t a b (c+2^i) y<0
     ·rw[if_pos q1]
     ·rw[if_neg q1,if_pos (q.resolve_left q1)]
    ·rw[relax_skip q]at hp
     refine Good.step (fun k=>?_) (ih (y+1) (by omega) (by omega) t hd hp hw)
     rw[eb,if_neg (fun h=>q (Or.inl h)),if_neg (fun h=>q (Or.inr h))]
   ·refine Good.step (f:=fun k=>spec_l7Best.j8 k l a b fast t best (c:Int) x now (i:Int) e y false s false) (fun k=>?_) (out y t hd hh hw (fun z _ _ _ h4=>absurd h4 hbit))
    simp only[spec_l7Best.l5,l1Least_eq,Option.bind_some]
    have hb1:=(bit_cases c i).resolve_left hbit
    rw[if_pos hy2,if_pos (by omega),bit_read (by omega) (by omega),hb1]
    rfl
  ·refine Good.step (f:=fun k=>spec_l7Best.j8 k l a b fast t best (c:Int) x now (i:Int) e y false s false) (fun k=>?_) (out y t hd hh hw (fun z h1 h2 h3 _=>by have:=(he z h1 h2).1 h3;omega))
   simp only[spec_l7Best.l5,l1Least_eq,Option.bind_some]
   rw[if_neg hy2]
theorem l7End_val (s:Int) (c:S63) (x:Int) (hs:2≤s∧s≤24) (hx:0≤x∧x≤s-1) (hc: (0≤c.f0∧c.f0≤s-1)∧(0≤c.f1∧c.f1≤1000)):spec_l7End.f s false c.f0 c.f1 c.f2 x=some (if c.f1-gapv c.f0 x<0 then-1 else mn (s-1) (x+(c.f1-gapv c.f0 x))):=by
 unfold spec_l7End.f
 rw[l2Gap_eq s _ _ (by omega) (by omega),Option.bind_some]
 have h1:=gapv_in c.f0 x
 unfold gapv at*
 rw[w64 (x:=c.f1-mx (c.f0-x) (x-c.f0)) (by omega) (by omega),w64 (x:=s-1) (by omega) (by omega),w64 (by omega) (by omega)]
 split
 ·rfl
 ·rw[l1Least_eq]
  rfl
theorem end_iff {s:Int} {l:List S63} {i:Nat} {x y:Int} (h0:0≤x) (hxy:x<y) (hy:y≤s-1):legE l i x y↔y≤(if(l.getD i z63).f1-gapv (l.getD i z63).f0 x<0 then-1 else mn (s-1) (x+((l.getD i z63).f1-gapv (l.getD i z63).f0 x))):=by
 unfold legE
 have h:=mn_le (s-1) (x+((l.getD i z63).f1-gapv (l.getD i z63).f0 x))
 split<;>omega
theorem sp_l4 {fast:Bool} {s:Int} {l:List S63} {a b:Int} (hv:carV s false l=true) (ha:0≤a) (hb:b≤s-1) {c:Nat} {x now best:Int} (hc:c<2^l.length) (hx:a≤x∧x≤b)
  (hk:∀ t,dimT t l.length a b→Filled (mkLegs fast l a b hv) (DS (mkLegs fast l a b hv) c (x+1)) (tabT t a b)→Good (mkLegs fast l a b hv) id (fun k=>spec_l7Best.l3 k l a b fast t best (c:Int) (x+1) s false)):
  ∀ i,i≤l.length→∀ t,dimT t l.length a b→Handing (mkLegs fast l a b hv) (DS (mkLegs fast l a b hv) c x) (tabT t a b) c x (fun j _=>j<i)→tabT t a b c x=now→Good (mkLegs fast l a b hv) id (fun k=>spec_l7Best.l4 k l a b fast t best (c:Int) x now (i:Int) s false):=by
 obtain⟨⟨hs,_⟩,hn,hcs⟩:=carV_of hv
 have hx1:wrap64 (x+1)=x+1:=w64 (by omega) (by omega)
 refine down (P:=fun i=>∀ t,dimT t l.length a b→Handing (mkLegs fast l a b hv) (DS (mkLegs fast l a b hv) c x) (tabT t a b) c x (fun j _=>j<i)→tabT t a b c x=now→Good (mkLegs fast l a b hv) id (fun k=>spec_l7Best.l4 k l a b fast t best (c:Int) x now (i:Int) s false)) ?_ ?_
 ·intro t hd hh _
  refine Good.step (fun k=>?_) (hk t hd (hh.over (fun j z hj _ _ _ _=>hj) DS_next))
  simp only[spec_l7Best.l4,hx1]
  rw[if_neg (by omega)]
 ·intro i hi ih t hd hh hw
  have hci:=hcs i hi
  unfold carC at hci
  have c1: (i:Int)<(l.length:Int):=Int.ofNat_lt.2 hi
  refine Good.step (f:=fun k=>spec_l7Best.l5 k l a b fast t best (c:Int) x now (i:Int) (if(l.getD i z63).f1-gapv (l.getD i z63).f0 x<0 then-1 else mn (s-1) (x+((l.getD i z63).f1-gapv (l.getD i z63).f0 x))) (x+1) s false) (fun k=>?_) ?_
  ·simp only[spec_l7Best.l4,hx1,rdC_nat]
   rw[if_pos c1,if_pos (Int.natCast_nonneg i),l7End_val s _ x hs (by omega) ⟨hci.1,by omega⟩,Option.bind_some]
  ·refine sp_l5 hv ha hb hi hc hx (fun y h1 h2=>?_) ih (b-x).toNat (x+1) (by omega) (by omega) t hd (hh.mono (fun j z hj _ _ h1 _ _=>hj.elim id (fun e=>by omega))) hw
   exact end_iff (s:=s) (l:=l) (i:=i) (by omega) h1 (by omega)
theorem sp_l3 {fast:Bool} {s:Int} {l:List S63} {a b:Int} (hv:carV s false l=true) (ha:0≤a) (hab:a≤b) (hb:b≤s-1) {c:Nat} (hc:c<2^l.length)
  (hk:∀ t best,dimT t l.length a b→Filled (mkLegs fast l a b hv) (DS (mkLegs fast l a b hv) (c+1) a) (tabT t a b)→BestOn (mkLegs fast l a b hv) (DS (mkLegs fast l a b hv) (c+1) a) best→Good (mkLegs fast l a b hv) id (fun k=>spec_l7Best.l2 k l a b fast t best ((c+1:Nat):Int) s false)):
  ∀ (m:Nat) (x:Int),x+m=b+1→a≤x→∀ t best,dimT t l.length a b→Filled (mkLegs fast l a b hv) (DS (mkLegs fast l a b hv) c x) (tabT t a b)→BestOn (mkLegs fast l a b hv) (DS (mkLegs fast l a b hv) c x) best→Good (mkLegs fast l a b hv) id (fun k=>spec_l7Best.l3 k l a b fast t best (c:Int) x s false):=by
 obtain⟨⟨hs,_⟩,hn,hcs⟩:=carV_of hv
 have h64:=pow_le64 hn
 intro m
 induction m with
 | zero=>
  intro x hx hax t best hd hf hbe
  have hx2:x=b+1:=by omega
  subst hx2
  refine Good.step (fun k=>?_) (hk t best hd (hf.sub DS_row) (hbe.sub DS_row))
  simp only[spec_l7Best.l3]
  rw[if_neg (by omega),w64s hc (by omega)]
 | succ m ih=>
  intro x hx hax t best hd hf hbe
  have hx1:wrap64 (x+1)=x+1:=w64 (by omega) (by omega)
  have hcol:wrap64 (x-a)=x-a:=w64 (by omega) (by omega)
  have hrow:=hd.2 c hc
  have hlen:=hd.1
  have hat:=tabT_at hd hc (y:=x) (by omega)
  have hrd:∀ (t:List (List Int)) (c:Nat),rd_L2 t (c:Int)=t.getD c []:=fun _ _=>rfl
  have hl:=DS_least (G:=mkLegs fast l a b hv) (c:=c) (x:=x) hab hf
  have c1:x≤b:=by omega
  have c3: (0:Int)≤(c:Int):=Int.natCast_nonneg _
  have c4: (c:Int)<(t.length:Int):=by rw[hlen];exact Int.ofNat_lt.2 hc
  have c5:0≤x-a:=by omega
  have c6:x-a<((t.getD c []).length:Int):=by rw[hrow];omega
  have eb:∀ k,spec_l7Best.l3 (k+1) l a b fast t best (c:Int) x s false=if tabT t a b c x<0 then spec_l7Best.l3 k l a b fast t best (c:Int) (x+1) s false else if x=b then(if best<0 then spec_l7Best.j4 k l a b fast t best (c:Int) x (tabT t a b c x) true s false else spec_l7Best.j4 k l a b fast t best (c:Int) x (tabT t a b c x) (decide (tabT t a b c x<best)) s false)else spec_l7Best.j4 k l a b fast t best (c:Int) x (tabT t a b c x) false s false:=by
   intro k
   simp only[spec_l7Best.l3,hx1,hcol,hrd]
   rw[if_pos c1,if_pos c3,if_pos c4,if_pos c5,if_pos c6,←hat]
  by_cases h0:tabT t a b c x<0
  ·refine Good.step (fun k=>?_) (ih (x+1) (by omega) (by omega) t best hd (hf.skip hl h0 DS_next) (hbe.none hl h0 DS_next))
   rw[eb,if_pos h0]
  ·have hh:=hf.begin hl (by omega)
   have goj5:∀ best',BestOn (mkLegs fast l a b hv) (DS (mkLegs fast l a b hv) c (x+1)) best'→Good (mkLegs fast l a b hv) id (fun k=>spec_l7Best.j5 k l a b fast t best' (c:Int) x (tabT t a b c x) s false):=by
    intro best' hb'
    refine Good.step (f:=fun k=>spec_l7Best.l4 k l a b fast t best' (c:Int) x (tabT t a b c x) ((0:Nat):Int) s false) (fun k=>by simp only[spec_l7Best.j5];rfl) ?_
    exact sp_l4 hv ha hb hc ⟨hax,c1⟩ (fun t' hd' hf'=>ih (x+1) (by omega) (by omega) t' best' hd' hf' hb') 0 (Nat.zero_le _) t hd (hh.mono (fun j z hj _ _ _ _ _=>absurd hj (Nat.not_lt_zero j))) rfl
   have goT:∀ best',BestOn (mkLegs fast l a b hv) (DS (mkLegs fast l a b hv) c (x+1)) (tabT t a b c x)→Good (mkLegs fast l a b hv) id (fun k=>spec_l7Best.j4 k l a b fast t best' (c:Int) x (tabT t a b c x) true s false):=fun best' hb'=>
    Good.step (fun k=>by simp only[spec_l7Best.j4];rw[if_pos True.intro]) (goj5 _ hb')
   have goF:∀ best',BestOn (mkLegs fast l a b hv) (DS (mkLegs fast l a b hv) c (x+1)) best'→Good (mkLegs fast l a b hv) id (fun k=>spec_l7Best.j4 k l a b fast t best' (c:Int) x (tabT t a b c x) false s false):=fun best' hb'=>
    Good.step (fun k=>by simp only[spec_l7Best.j4];rw[if_neg (by decide)]) (goj5 _ hb')
   by_cases hxb:x=b
   ·subst hxb
    have hb2:=hbe.take (D':=DS (mkLegs fast l a x hv) c (x+1)) hl (by omega) DS_next
    unfold nb at hb2
    by_cases q1:best<0
    ·rw[if_pos (Or.inl q1)]at hb2
     refine Good.step (fun k=>?_) (goT best hb2)
     rw[eb,if_neg h0,if_pos rfl,if_pos q1]
    ·by_cases q2:tabT t a x c x<best
     ·rw[if_pos (Or.inr q2)]at hb2
      refine Good.step (fun k=>?_) (goT best hb2)
      rw[eb,if_neg h0,if_pos rfl,if_neg q1,decide_eq_true q2]
     ·rw[if_neg (by omega)]at hb2
      refine Good.step (fun k=>?_) (goF best hb2)
      rw[eb,if_neg h0,if_pos rfl,if_neg q1,decide_eq_false q2]
   ·refine Good.step (fun k=>?_) (goF best (hbe.other hxb DS_next))
    rw[eb,if_neg h0,if_neg hxb]
theorem sp_l2 {fast:Bool} {s:Int} {l:List S63} {a b:Int} (hv:carV s false l=true) (ha:0≤a) (hab:a≤b) (hb:b≤s-1):
  ∀ c,c≤2^l.length→∀ t best,dimT t l.length a b→Filled (mkLegs fast l a b hv) (DS (mkLegs fast l a b hv) c a) (tabT t a b)→BestOn (mkLegs fast l a b hv) (DS (mkLegs fast l a b hv) c a) best→Good (mkLegs fast l a b hv) id (fun k=>spec_l7Best.l2 k l a b fast t best (c:Int) s false):=by
 refine down (P:=fun c=>∀ t best,dimT t l.length a b→Filled (mkLegs fast l a b hv) (DS (mkLegs fast l a b hv) c a) (tabT t a b)→BestOn (mkLegs fast l a b hv) (DS (mkLegs fast l a b hv) c a) best→Good (mkLegs fast l a b hv) id (fun k=>spec_l7Best.l2 k l a b fast t best (c:Int) s false)) ?_ ?_
 ·intro t best hd hf hbe
  refine⟨best,hbe.all (fun c hc=>⟨hc,hab,Int.le_refl _,Or.inl hc⟩),ev_now (fun k=>?_)⟩
  simp only[spec_l7Best.l2]
  rw[hd.1,if_neg (Int.lt_irrefl _)]
  rfl
 ·intro c hc ih t best hd hf hbe
  refine Good.step (f:=fun k=>spec_l7Best.l3 k l a b fast t best (c:Int) a s false) (fun k=>?_) (sp_l3 hv ha hab hb hc ih (b+1-a).toNat a (by omega) (Int.le_refl _) t best hd hf hbe)
  simp only[spec_l7Best.l2]
  rw[hd.1,if_pos (Int.ofNat_lt.2 hc)]
theorem specBest_good {fast:Bool} {s:Int} {l:List S63} {a b:Int} (hv:carV s false l=true) (ha:0≤a) (hab:a≤b) (hb:b≤s-1):Good (mkLegs fast l a b hv) id (fun k=>spec_l7Best.f k s false l a b fast):=by
 obtain⟨⟨hs,_⟩,hn,hcs⟩:=carV_of hv
 have h64:=pow_le64 hn
 have hpos:=Nat.two_pow_pos l.length
 generalize hw: (b-a+1).toNat=w
 have fin:Good (mkLegs fast l a b hv) id (fun k=>spec_l7Best.l0 k l a b fast (List.replicate (2^l.length) (List.replicate w (-1))) ((2^l.length:Nat):Int) s false):=by
  have hd0:dimT (List.replicate (2^l.length) (List.replicate w (-1:Int))) l.length a b:=by
   refine⟨List.length_replicate,fun c hc=>?_⟩
   rw[List.getD_eq_getElem?_getD,List.getElem?_replicate,if_pos hc,Option.getD_some,List.length_replicate]
   omega
  have hT0:∀ c y,tabT (List.replicate (2^l.length) (List.replicate w (-1:Int))) a b c y=-1:=by
   intro c y
   unfold tabT
   split
   ·rename_i h
    rw[List.length_replicate]at h
    unfold rd
    rw[List.getD_eq_getElem?_getD (l:=List.replicate (2^l.length) (List.replicate w (-1:Int))),List.getElem?_replicate,if_pos h.1,Option.getD_some,List.getD_eq_getElem?_getD,List.getElem?_replicate,if_pos (by omega),Option.getD_some]
   ·rfl
  have hd1:=dimT_put hd0 hpos (a-a).toNat 0
  have ht1:=tabT_put hd0 hpos (y:=a) ⟨Int.le_refl _,hab⟩ 0
  have hT:tabT ((List.replicate (2^l.length) (List.replicate w (-1:Int))).set 0 (((List.replicate (2^l.length) (List.replicate w (-1:Int))).getD 0 []).set (a-a).toNat 0)) a b=tab0 (mkLegs fast l a b hv):=by
   rw[ht1]
   funext c y
   rw[hT0]
   rfl
  have hno:∀ c x,¬DS (mkLegs fast l a b hv) 0 a c x:=fun c x h=>by
   have:=h.2.1
   have:=h.2.2.2
   have e: (mkLegs fast l a b hv).a=a:=rfl
   omega
  refine Good.step (fun k=>?_) (sp_l2 hv ha hab hb 0 (Nat.zero_le _) _ (-1) hd1 (by rw[hT];exact Filled.start hno) (BestOn.zero hno))
  simp only[spec_l7Best.l0,shl_one (show l.length≤12 by omega)]
  rw[if_neg (Int.lt_irrefl _),if_pos (by rw[List.length_replicate];omega),if_pos ?_]
  ·rw[show(a-a).toNat=0 by omega]
   rfl
  ·show(0:Int)<(((List.replicate (2^l.length) (List.replicate w (-1:Int))).getD 0 []).length:Int)
   rw[hd0.2 0 hpos]
   omega
 have key:=down (P:=fun c=>Good (mkLegs fast l a b hv) id (fun k=>spec_l7Best.l0 k l a b fast (List.replicate c (List.replicate w (-1))) (c:Int) s false)) (n:=2^l.length) fin (fun c hc ih=>by
  have row:=down (P:=fun j=>Good (mkLegs fast l a b hv) id (fun k=>spec_l7Best.l1 k l a b fast (List.replicate c (List.replicate w (-1))) (c:Int) (List.replicate j (-1)) (a+(j:Int)) s false)) (n:=w)
   (by
    refine Good.step (fun k=>?_) ih
    simp only[spec_l7Best.l1]
    rw[if_neg (by omega),if_pos (by rw[List.length_replicate];omega),w64s hc (by omega),←List.replicate_succ'])
   (fun j hj ih2=>by
    refine Good.step (fun k=>?_) ih2
    simp only[spec_l7Best.l1]
    rw[if_pos (by omega),if_pos (by rw[List.length_replicate];omega),←List.replicate_succ',w64 (x:=a+(j:Int)+1) (by omega) (by omega),show a+(j:Int)+1=a+((j+1:Nat):Int)by omega])
  have r0:=row 0 (Nat.zero_le _)
  refine Good.step (fun k=>?_) r0
  simp only[spec_l7Best.l0,shl_one (show l.length≤12 by omega)]
  rw[if_pos (Int.ofNat_lt.2 hc),show a+((0:Nat):Int)=a by omega]
  rfl)
 have k0:=key 0 (Nat.zero_le _)
 unfold spec_l7Best.f
 exact k0
def mapT (m:Mt):Nat→Int→Int:=fun c y=>m.f (c:Int) y
def lgc (fast:Bool) (s:Int):Int:=legCode (if fast=true then 1 else 0) s false
theorem leg_val {fast:Bool} {s:Int} (c0 c1 c2 v x y:Int) (h0:0≤c0∧c0≤1000) (h1:0≤x∧x≤1000) (h2:x≤y∧y≤1000) (h3:0≤v∧v≤1000000) (h4:0≤c2*(gapv c0 x+(y-x))∧c2*(gapv c0 x+(y-x))≤1000000):
  leg.f (lgc fast s) c0 c1 c2 v x y=some (if fast=true then mx v (gapv c0 x)+(y-x)else v+c2*(gapv c0 x+(y-x))):=by
 have hg:=gapv_in c0 x
 have hm:=mx_ge v (gapv c0 x)
 unfold lgc
 cases fast with
 | false=>
  have e1:legSize (legCode 0 s false)=s:=by unfold legSize legCode;simp<;>omega
  have e2:legRing (legCode 0 s false)=false:=by unfold legRing legCode;simp<;>omega
  have e3:legCode 0 s false % 2=0:=by unfold legCode;simp<;>omega
  simp only[Bool.false_eq_true,if_false]
  unfold leg.f
  rw[if_pos e3,e1,e2,steps_eq s c0 c1 c2 x y h0 h1 h2,Option.bind_some,w64 (x:=c2*(gapv c0 x+(y-x))) (by omega) (by omega),w64 (by omega) (by omega)]
 | true=>
  have e1:legSize (legCode 1 s false)=s:=by unfold legSize legCode;simp<;>omega
  have e2:legRing (legCode 1 s false)=false:=by unfold legRing legCode;simp<;>omega
  have e3:¬legCode 1 s false % 2=0:=by unfold legCode;simp<;>omega
  simp only[if_true]
  unfold leg.f impl_Road_arrives.f
  rw[if_neg e3,e1,e2,gap_eq s c0 x (by omega) (by omega),gap_eq s x y (by omega) (by omega)]
  simp only[Option.bind_some]
  have e:mx (x-y) (y-x)=y-x:=by unfold mx;split<;>omega
  unfold gapv at*
  rw[e,w64 (by omega) (by omega)]
theorem mapGet_val (m:Mt) (c:Nat) (y:Int) (hc:c<1000) (hy: -1000≤y∧y≤1000):mapGet.f m (c:Int) y=some (if mapT m c y<0 then 0 else mapT m c y,decide (0≤mapT m c y)):=by
 unfold mapGet.f
 rw[if_pos (by omega)]
 rfl
theorem mapPut_val (m:Mt) (c:Nat) (y v:Int) (hc:c<1000) (hy: -1000≤y∧y≤1000) (hv:0≤v∧v≤1000000) (hn:m.n<1000000000):mapPut.f m (c:Int) y v=some ⟨fun y' z=>if y'=(c:Int)∧z=y then v else m.f y' z,m.n+1⟩:=by
 unfold mapPut.f
 rw[if_pos (by omega)]
theorem mapT_put (m:Mt) (c:Nat) (y v:Int):mapT ⟨fun y' z=>if y'=(c:Int)∧z=y then v else m.f y' z,m.n+1⟩=fun c' y'=>if c'=c∧y'=y then v else mapT m c' y':=by
 funext c' y'
 show(if(c':Int)=(c:Int)∧y'=y then v else m.f (c':Int) y')=_
 by_cases e:c'=c∧y'=y
 ·rw[if_pos e,if_pos ⟨by rw[e.1],e.2⟩]
 ·rw[if_neg e,if_neg (fun h=>e ⟨by omega,h.2⟩)]
  rfl
def rI (t:Int):Int × Bool:=(mx 0 t,decide (t≥0))
theorem im_l3 {fast:Bool} {s:Int} {l:List S63} {a b:Int} (hv:carV s false l=true) (ha:0≤a) (hb:b≤s-1) {c i:Nat} {x now best N:Int} {B:Nat} (hB:B≤900000000) (hi:i<l.length) (hc:c<2^l.length) (hx:a≤x∧x≤b)
  (hk:∀ t:Mt,t.n≤B→Handing (mkLegs fast l a b hv) (DP (mkLegs fast l a b hv) c x) (mapT t) c x (fun j _=>j<i+1)→mapT t c x=now→Good (mkLegs fast l a b hv) rI (fun k=>impl_least.l2 k l b (lgc fast s) t best x (c:Int) now N (c:Int) l (l.length:Int) ((i+1:Nat):Int) s false)):
  ∀ (m:Nat) (y:Int),y+m=b+1→x<y→∀ t:Mt,t.n+m≤B→Handing (mkLegs fast l a b hv) (DP (mkLegs fast l a b hv) c x) (mapT t) c x (fun j z=>j<i∨j=i∧z<y)→mapT t c x=now→Good (mkLegs fast l a b hv) rI (fun k=>impl_least.l3 k l b (lgc fast s) t best x (c:Int) now (i:Int) y N (c:Int) l (l.length:Int) (i:Int) s false (l.getD i z63).f0 (l.getD i z63).f1 (l.getD i z63).f2):=by
 obtain⟨⟨hs,_⟩,hn,hcs⟩:=carV_of hv
 have h64:=pow_le64 hn
 have hci:=hcs i hi
 unfold carC at hci
 have c1: (0:Int)≤(i:Int):=Int.natCast_nonneg i
 have out:∀ (y:Int) (t:Mt),t.n≤B→Handing (mkLegs fast l a b hv) (DP (mkLegs fast l a b hv) c x) (mapT t) c x (fun j z=>j<i∨j=i∧z<y)→mapT t c x=now→(∀ z,x<z→z≤b→legE l i x z→c/ 2^i % 2=0→z<y)→
   Good (mkLegs fast l a b hv) rI (fun k=>impl_least.j6 k l b (lgc fast s) t best x (c:Int) now (i:Int) y N (c:Int) l (l.length:Int) (i:Int) false s false (l.getD i z63).f0 (l.getD i z63).f1 (l.getD i z63).f2):=by
  intro y t hd hh hw hz
  refine Good.step (fun k=>?_) (hk t hd (hh.mono (fun j z hj _ hjb h1 h2 h3=>?_)) hw)
  ·simp only[impl_least.j6]
   rw[if_neg (by decide),w64s hi (by omega)]
  ·by_cases e1:j=i
   ·subst e1
    exact Or.inr ⟨rfl,hz z h1 h2 h3 hjb⟩
   ·exact Or.inl (by omega)
 intro m
 induction m with
 | zero=>
  intro y hy hxy t hd hh hw
  refine Good.step (f:=fun k=>impl_least.j6 k l b (lgc fast s) t best x (c:Int) now (i:Int) y N (c:Int) l (l.length:Int) (i:Int) false s false (l.getD i z63).f0 (l.getD i z63).f1 (l.getD i z63).f2) (fun k=>?_) (out y t (by omega) hh hw (fun z _ h2 _ _=>by omega))
  simp only[impl_least.l3]
  rw[if_neg (by omega)]
 | succ m ih=>
  intro y hy hxy t hd hh hw
  have hyb:y≤b:=by omega
  by_cases hbit:bitA c i=0
  ·have hst:=steps_eq s (l.getD i z63).f0 (l.getD i z63).f1 (l.getD i z63).f2 x y (by omega) (by omega) (by omega)
   have e0:∀ k,impl_least.l3 (k+1) l b (lgc fast s) t best x (c:Int) now (i:Int) y N (c:Int) l (l.length:Int) (i:Int) s false (l.getD i z63).f0 (l.getD i z63).f1 (l.getD i z63).f2=impl_least.j6 k l b (lgc fast s) t best x (c:Int) now (i:Int) y N (c:Int) l (l.length:Int) (i:Int) (decide (legE l i x y)) s false (l.getD i z63).f0 (l.getD i z63).f1 (l.getD i z63).f2:=by
    intro k
    simp only[impl_least.l3]
    rw[if_pos hyb,if_pos c1,bit_read (by omega) (by omega),hbit,if_pos (show((0:Nat):Int)=0 from rfl),hst,Option.bind_some]
    rfl
   by_cases hE:legE l i x y
   ·have hc2:c+2^i<2^l.length:=bit_lt hc hi hbit
    have hpos:=Nat.two_pow_pos i
    have hnow:0≤now∧now≤61440:=by have:=way_bd hh.way;omega
    have hlb:=leg_bd (fast:=fast) hv hi hnow.1 hxy hE
    have hl0:0≤legL fast l i now x y:=(mkLegs fast l a b hv).Lp i now x y hnow.1 hxy hi hE
    have hg:=gapv_in (l.getD i z63).f0 x
    have hp:=hh.put (H':=fun j z=>j<i∨j=i∧z<y+1) (i:=i) (y:=y) hi hbit hxy hyb hE (DP_not hxy) (fun j z hj=>by
     rcases hj with h|h
     ·exact Or.inl (Or.inl h)
     ·by_cases ez:z=y
      ·exact Or.inr ⟨h.1,ez⟩
      ·exact Or.inl (Or.inr ⟨h.1,by omega⟩))
    rw[hw]at hp
    have hws:=Handing.same (G:=mkLegs fast l a b hv) (T:=mapT t) (c:=c) (x:=x) (i:=i) (y:=y) (v:=legL fast l i now x y)
    rw[hw]at hws
    change Handing _ _ (relax (mapT t) (c+2^i) y (legL fast l i now x y)) c x _ at hp
    have hidx:Go.bits .or .i64 (c:Int) (shl .i64 1 (i:Int))=((c+2^i:Nat):Int):=bit_on (by omega) (by omega) hbit
    have hy1:wrap64 (y+1)=y+1:=w64 (by omega) (by omega)
    have hlv:leg.f (lgc fast s) (l.getD i z63).f0 (l.getD i z63).f1 (l.getD i z63).f2 now x y=some (legL fast l i now x y):=by
     unfold legE at hE
     have hm1:=Int.mul_le_mul_of_nonneg_right hci.2.2.2 (show 0≤gapv (l.getD i z63).f0 x+(y-x)by omega)
     have hm2:=Int.mul_nonneg hci.2.2.1 (show 0≤gapv (l.getD i z63).f0 x+(y-x)by omega)
     exact leg_val _ _ _ _ _ _ (by omega) (by omega) (by omega) (by omega) (by omega)
    have eb:∀ k,impl_least.j6 (k+1) l b (lgc fast s) t best x (c:Int) now (i:Int) y N (c:Int) l (l.length:Int) (i:Int) true s false (l.getD i z63).f0 (l.getD i z63).f1 (l.getD i z63).f2=if mapT t (c+2^i) y<0∨legL fast l i now x y<mapT t (c+2^i) y then impl_least.l3 k l b (lgc fast s) ⟨fun y' z=>if y'=((c+2^i:Nat):Int)∧z=y then legL fast l i now x y else t.f y' z,t.n+1⟩ best x (c:Int) now (i:Int) (y+1) N (c:Int) l (l.length:Int) (i:Int) s false (l.getD i z63).f0 (l.getD i z63).f1 (l.getD i z63).f2 else impl_least.l3 k l b (lgc fast s) t best x (c:Int) now (i:Int) (y+1) N (c:Int) l (l.length:Int) (i:Int) s false (l.getD i z63).f0 (l.getD i z63).f1 (l.getD i z63).f2:=by
     intro k
     simp only[impl_least.j6,hidx,hy1]
     have hpv:=mapPut_val t (c+2^i) y (legL fast l i now x y) (by omega) (by omega) (by omega) (by omega)
     rw[if_pos True.intro,if_pos c1,hlv,mapGet_val t (c+2^i) y (by omega) (by omega)]
     simp only[Option.bind_some,decide_eq_true_eq,hpv]
     by_cases q1:mapT t (c+2^i) y<0
     ·rw[if_neg (Int.not_le.2 q1),if_pos (Or.inl q1)]
     ·rw[if_pos (Int.not_lt.1 q1),if_neg q1]
      by_cases q2:legL fast l i now x y<mapT t (c+2^i) y
      ·rw[if_pos q2,if_pos (Or.inr q2)]
      ·rw[if_neg q2,if_neg (show ¬(mapT t (c+2^i) y<0∨legL fast l i now x y<mapT t (c+2^i) y)from fun h=>h.elim q1 q2)]
    refine Good.step (f:=fun k=>impl_least.j6 k l b (lgc fast s) t best x (c:Int) now (i:Int) y N (c:Int) l (l.length:Int) (i:Int) true s false (l.getD i z63).f0 (l.getD i z63).f1 (l.getD i z63).f2) (fun k=>by rw[e0,decide_eq_true hE]) ?_
    by_cases q:mapT t (c+2^i) y<0∨legL fast l i now x y<mapT t (c+2^i) y
    ·have hT:mapT ⟨fun y' z=>if y'=((c+2^i:Nat):Int)∧z=y then legL fast l i now x y else t.f y' z,t.n+1⟩=relax (mapT t) (c+2^i) y (legL fast l i now x y):=by rw[mapT_put,relax_put q]
     refine Good.step (fun k=>?_) (ih (y+1) (by omega) (by omega) ⟨fun y' z=>if y'=((c+2^i:Nat):Int)∧z=y then legL fast l i now x y else t.f y' z,t.n+1⟩ (by show t.n+1+m≤B;omega) (by rw[hT];exact hp) (by rw[hT];exact hws))
     rw[eb,if_pos q]
    ·rw[relax_skip q]at hp
     refine Good.step (fun k=>?_) (ih (y+1) (by omega) (by omega) t (by omega) hp hw)
     rw[eb,if_neg q]
   ·refine Good.step (fun k=>by rw[e0,decide_eq_false hE]) (out y t (by omega) hh hw (fun z h1 h2 h3 _=>?_))
    unfold legE at h3 hE
    omega
  ·refine Good.step (fun k=>?_) (out y t (by omega) hh hw (fun z _ _ _ h4=>absurd h4 hbit))
   simp only[impl_least.l3]
   have hb1:=(bit_cases c i).resolve_left hbit
   rw[if_pos hyb,if_pos c1,bit_read (by omega) (by omega),hb1,if_neg (by decide)]
theorem im_l2 {fast:Bool} {s:Int} {l:List S63} {a b:Int} (hv:carV s false l=true) (ha:0≤a) (hb:b≤s-1) {c:Nat} {x now best N:Int} {B:Nat} (hB:B≤900000000) (hc:c<2^l.length) (hx:a≤x∧x≤b)
  (hk:∀ t:Mt,t.n≤B→Filled (mkLegs fast l a b hv) (DP (mkLegs fast l a b hv) (c+1) x) (mapT t)→Good (mkLegs fast l a b hv) rI (fun k=>impl_least.l1 k l b (lgc fast s) t best x N ((c+1:Nat):Int) s false)):
  ∀ i,i≤l.length→∀ t:Mt,t.n+(l.length-i)*24≤B→Handing (mkLegs fast l a b hv) (DP (mkLegs fast l a b hv) c x) (mapT t) c x (fun j _=>j<i)→mapT t c x=now→Good (mkLegs fast l a b hv) rI (fun k=>impl_least.l2 k l b (lgc fast s) t best x (c:Int) now N (c:Int) l (l.length:Int) (i:Int) s false):=by
 obtain⟨⟨hs,_⟩,hn,hcs⟩:=carV_of hv
 have h64:=pow_le64 hn
 have hx1:wrap64 (x+1)=x+1:=w64 (by omega) (by omega)
 refine down (P:=fun i=>∀ t:Mt,t.n+(l.length-i)*24≤B→Handing (mkLegs fast l a b hv) (DP (mkLegs fast l a b hv) c x) (mapT t) c x (fun j _=>j<i)→mapT t c x=now→Good (mkLegs fast l a b hv) rI (fun k=>impl_least.l2 k l b (lgc fast s) t best x (c:Int) now N (c:Int) l (l.length:Int) (i:Int) s false)) ?_ ?_
 ·intro t hd hh _
  refine Good.step (fun k=>?_) (hk t (by omega) (hh.over (fun j z hj _ _ _ _=>hj) DP_next))
  simp only[impl_least.l2]
  rw[if_neg (by omega),w64s hc (by omega)]
 ·intro i hi ih t hd hh hw
  have c1: (i:Int)<(l.length:Int):=Int.ofNat_lt.2 hi
  refine Good.step (f:=fun k=>impl_least.l3 k l b (lgc fast s) t best x (c:Int) now (i:Int) (x+1) N (c:Int) l (l.length:Int) (i:Int) s false (l.getD i z63).f0 (l.getD i z63).f1 (l.getD i z63).f2) (fun k=>?_) ?_
  ·simp only[impl_least.l2,hx1,rdC_nat]
   rw[if_pos c1,if_pos (Int.natCast_nonneg i),if_pos c1]
  ·have e1: (l.length-i)*24=(l.length-(i+1))*24+24:=by omega
   exact im_l3 hv ha hb (B:=B-(l.length-(i+1))*24) (by omega) hi hc hx (fun t' h' hh' hw'=>ih t' (by omega) hh' hw') (b-x).toNat (x+1) (by omega) (by omega) t (by omega) (hh.mono (fun j z hj _ _ h1 _ _=>hj.elim id (fun e=>by omega))) hw
theorem im_l1 {fast:Bool} {s:Int} {l:List S63} {a b:Int} (hv:carV s false l=true) (ha:0≤a) (hab:a≤b) (hb:b≤s-1) {x:Int} {B:Nat} (hB:B≤900000000) (hx:a≤x∧x≤b)
  (hk:∀ (t:Mt) best,t.n≤B→Filled (mkLegs fast l a b hv) (DP (mkLegs fast l a b hv) 0 (x+1)) (mapT t)→BestOn (mkLegs fast l a b hv) (DP (mkLegs fast l a b hv) 0 (x+1)) best→Good (mkLegs fast l a b hv) rI (fun k=>impl_least.l0 k l b (lgc fast s) t best (x+1) s false)):
  ∀ c,c≤2^l.length→∀ (t:Mt) best,t.n+(2^l.length-c)*144≤B→Filled (mkLegs fast l a b hv) (DP (mkLegs fast l a b hv) c x) (mapT t)→BestOn (mkLegs fast l a b hv) (DP (mkLegs fast l a b hv) c x) best→Good (mkLegs fast l a b hv) rI (fun k=>impl_least.l1 k l b (lgc fast s) t best x ((2^l.length:Nat):Int) (c:Int) s false):=by
 obtain⟨⟨hs,_⟩,hn,hcs⟩:=carV_of hv
 have h64:=pow_le64 hn
 refine down (P:=fun c=>∀ (t:Mt) best,t.n+(2^l.length-c)*144≤B→Filled (mkLegs fast l a b hv) (DP (mkLegs fast l a b hv) c x) (mapT t)→BestOn (mkLegs fast l a b hv) (DP (mkLegs fast l a b hv) c x) best→Good (mkLegs fast l a b hv) rI (fun k=>impl_least.l1 k l b (lgc fast s) t best x ((2^l.length:Nat):Int) (c:Int) s false)) ?_ ?_
 ·intro t best hd hf hbe
  refine Good.step (fun k=>?_) (hk t best (by omega) (hf.sub DP_row) (hbe.sub DP_row))
  simp only[impl_least.l1]
  rw[if_neg (Int.lt_irrefl _),w64 (x:=x+1) (by omega) (by omega)]
 ·intro c hc ih t best hd hf hbe
  have hl:=DP_least (G:=mkLegs fast l a b hv) (c:=c) (x:=x) hab hf
  have e1: (2^l.length-c)*144=(2^l.length-(c+1))*144+144:=by omega
  have eb:∀ k,impl_least.l1 (k+1) l b (lgc fast s) t best x ((2^l.length:Nat):Int) (c:Int) s false=if 0≤mapT t c x then(if x=b then(if best<0 then impl_least.j2 k l b (lgc fast s) t best x (c:Int) (mapT t c x) ((2^l.length:Nat):Int) (c:Int) true s false else impl_least.j2 k l b (lgc fast s) t best x (c:Int) (mapT t c x) ((2^l.length:Nat):Int) (c:Int) (decide (mapT t c x<best)) s false)else impl_least.j2 k l b (lgc fast s) t best x (c:Int) (mapT t c x) ((2^l.length:Nat):Int) (c:Int) false s false)else impl_least.l1 k l b (lgc fast s) t best x ((2^l.length:Nat):Int) ((c+1:Nat):Int) s false:=by
   intro k
   simp only[impl_least.l1,w64s hc (show 2^l.length≤1152921504606846976 by omega)]
   rw[if_pos (Int.ofNat_lt.2 hc),mapGet_val t c x (by omega) (by omega)]
   simp only[Option.bind_some,decide_eq_true_eq]
   by_cases q:0≤mapT t c x
   ·rw[if_pos q,if_pos q,if_neg (show ¬mapT t c x<0 by omega)]
   ·rw[if_neg q,if_neg q]
  by_cases h0:mapT t c x<0
  ·refine Good.step (fun k=>?_) (ih t best (by omega) (hf.skip hl h0 DP_next) (hbe.none hl h0 DP_next))
   rw[eb,if_neg (by omega)]
  ·have hp:0≤mapT t c x:=by omega
   have hh:=hf.begin hl hp
   have goj3:∀ best',BestOn (mkLegs fast l a b hv) (DP (mkLegs fast l a b hv) (c+1) x) best'→Good (mkLegs fast l a b hv) rI (fun k=>impl_least.j3 k l b (lgc fast s) t best' x (c:Int) (mapT t c x) ((2^l.length:Nat):Int) (c:Int) s false):=by
    intro best' hb'
    refine Good.step (f:=fun k=>impl_least.l2 k l b (lgc fast s) t best' x (c:Int) (mapT t c x) ((2^l.length:Nat):Int) (c:Int) l (l.length:Int) ((0:Nat):Int) s false) (fun k=>by simp only[impl_least.j3];rfl) ?_
    exact im_l2 hv ha hb (B:=B-(2^l.length-(c+1))*144) (by omega) hc hx (fun t' h' hf'=>ih t' best' (by omega) hf' hb') 0 (Nat.zero_le _) t (by omega) (hh.mono (fun j z hj _ _ _ _ _=>absurd hj (Nat.not_lt_zero j))) rfl
   have goT:∀ best',BestOn (mkLegs fast l a b hv) (DP (mkLegs fast l a b hv) (c+1) x) (mapT t c x)→Good (mkLegs fast l a b hv) rI (fun k=>impl_least.j2 k l b (lgc fast s) t best' x (c:Int) (mapT t c x) ((2^l.length:Nat):Int) (c:Int) true s false):=fun best' hb'=>
    Good.step (fun k=>by simp only[impl_least.j2];rw[if_pos True.intro]) (goj3 _ hb')
   have goF:∀ best',BestOn (mkLegs fast l a b hv) (DP (mkLegs fast l a b hv) (c+1) x) best'→Good (mkLegs fast l a b hv) rI (fun k=>impl_least.j2 k l b (lgc fast s) t best' x (c:Int) (mapT t c x) ((2^l.length:Nat):Int) (c:Int) false s false):=fun best' hb'=>
    Good.step (fun k=>by simp only[impl_least.j2];rw[if_neg (by decide)]) (goj3 _ hb')
   by_cases hxb:x=b
   ·subst hxb
    have hb2:=hbe.take (D':=DP (mkLegs fast l a x hv) (c+1) x) hl hp DP_next
    unfold nb at hb2
    by_cases q1:best<0
    ·rw[if_pos (Or.inl q1)]at hb2
     refine Good.step (fun k=>?_) (goT best hb2)
     rw[eb,if_pos hp,if_pos rfl,if_pos q1]
    ·by_cases q2:mapT t c x<best
     ·rw[if_pos (Or.inr q2)]at hb2
      refine Good.step (fun k=>?_) (goT best hb2)
      rw[eb,if_pos hp,if_pos rfl,if_neg q1,decide_eq_true q2]
     ·rw[if_neg (by omega)]at hb2
      refine Good.step (fun k=>?_) (goF best hb2)
      rw[eb,if_pos hp,if_pos rfl,if_neg q1,decide_eq_false q2]
   ·refine Good.step (fun k=>?_) (goF best (hbe.other hxb DP_next))
    rw[eb,if_pos hp,if_neg hxb]
theorem im_l0 {fast:Bool} {s:Int} {l:List S63} {a b:Int} (hv:carV s false l=true) (ha:0≤a) (hab:a≤b) (hb:b≤s-1):
  ∀ (m:Nat) (x:Int),x+m=b+1→a≤x→∀ (t:Mt) best,t.n+m*9216≤900000000→Filled (mkLegs fast l a b hv) (DP (mkLegs fast l a b hv) 0 x) (mapT t)→BestOn (mkLegs fast l a b hv) (DP (mkLegs fast l a b hv) 0 x) best→Good (mkLegs fast l a b hv) rI (fun k=>impl_least.l0 k l b (lgc fast s) t best x s false):=by
 obtain⟨⟨hs,_⟩,hn,hcs⟩:=carV_of hv
 have h64:=pow_le64 hn
 intro m
 induction m with
 | zero=>
  intro x hx hax t best hd hf hbe
  refine⟨best,hbe.all (fun c hc=>⟨hc,hab,Int.le_refl _,Or.inl (show b<x by omega)⟩),ev_now (fun k=>?_)⟩
  simp only[impl_least.l0,impl_found.f,Option.bind_some]
  rw[if_neg (by omega)]
  rfl
 | succ m ih=>
  intro x hx hax t best hd hf hbe
  refine Good.step (f:=fun k=>impl_least.l1 k l b (lgc fast s) t best x ((2^l.length:Nat):Int) ((0:Nat):Int) s false) (fun k=>?_) ?_
  ·simp only[impl_least.l0,shl_one (show l.length≤12 by omega)]
   rw[if_pos (by omega)]
   rfl
  ·have e1: (m+1)*9216=m*9216+9216:=by omega
   exact im_l1 hv ha hab hb (B:=900000000-m*9216) (by omega) (by omega) (fun t' best' h' hf' hb'=>ih (x+1) (by omega) (by omega) t' best' (by omega) hf' hb') 0 (Nat.zero_le _) t best (by omega) hf hbe
theorem implLeastM_good {fast:Bool} {s:Int} {l:List S63} {a b:Int} (hv:carV s false l=true) (ha:0≤a) (hab:a≤b) (hb:b≤s-1) (hask:Ev (fun k=>impl_isCarried.f k s false l [a,b]) true):Good (mkLegs fast l a b hv) rI (fun k=>impl_least.f k s false l a b (lgc fast s)):=by
 obtain⟨⟨hs,_⟩,hn,hcs⟩:=carV_of hv
 have hpv:=mapPut_val mtE 0 a 0 (by omega) (by omega) (by omega) (by show 0<1000000000;omega)
 have hno:∀ c x,¬DP (mkLegs fast l a b hv) 0 a c x:=fun c x h=>by
  have h1:=h.2.1
  have h2:=h.2.2.2
  have e: (mkLegs fast l a b hv).a=a:=rfl
  omega
 have hT:mapT ⟨fun y' z=>if y'=((0:Nat):Int)∧z=a then 0 else mtE.f y' z,mtE.n+1⟩=tab0 (mkLegs fast l a b hv):=by
  rw[mapT_put]
  rfl
 obtain⟨t,h1,h2⟩:=im_l0 (fast:=fast) hv ha hab hb (b+1-a).toNat a (by omega) (Int.le_refl _) ⟨fun y' z=>if y'=((0:Nat):Int)∧z=a then 0 else mtE.f y' z,mtE.n+1⟩ (-1) (by show 0+1+_≤_;omega) (by rw[hT];exact Filled.start hno) (BestOn.zero hno)
 refine⟨t,h1,?_⟩
 unfold impl_least.f
 refine Ev.bind hask (ev_pos rfl (ev_bind0 hpv h2))
theorem l7Table_ev (s:Int) (l:List S63) (a:Int) (hs:2≤s∧s≤24) (hl:saneC s l) (hn:l.length≤6) (ha:0≤a∧a≤s-1):Ev (fun k=>spec_l7Table.f k s false l a) (tbL s l a (2^l.length)):=by
 have h64:=pow_le64 hn
 have key:=down (P:=fun c=>Ev (fun k=>spec_l7Table.l0 k l a (tbL s l a c) (c:Int) s false) (tbL s l a (2^l.length))) (n:=2^l.length)
  (ev_now (fun k=>by simp only[spec_l7Table.l0];rw[shl_one (by omega),if_neg (Int.lt_irrefl _)]))
  (fun c hc ih=>by
   have k2:=down (P:=fun i=>Ev (fun k=>spec_l7Table.l1 k l a (tbL s l a c) (c:Int) (cellF s l a (tbL s l a c) c i) (i:Int) s false) (tbL s l a (2^l.length))) (n:=l.length)
    (by
     refine Ev.step (fun k=>?_) ih
     simp only[spec_l7Table.l1]
     rw[if_neg (by omega),tbL_len,if_pos (by omega),w64s hc (by omega)]
     rfl)
    (fun i hi ih2=>by
     by_cases hb:bitA c i=1
     ·have hle:=bit_le hb
      have hpos:=Nat.two_pow_pos i
      have e1:cellF s l a (tbL s l a c) c (i+1)=mx (cellF s l a (tbL s l a c) c i) (stp s (l.getD i z63) (rd (tbL s l a c) ((c-2^i:Nat):Int))):=by
       show(if bitA c i=1 then _ else _)=_
       rw[if_pos hb]
      rw[e1]at ih2
      have hv:=V_in (s:=s) (l:=l) (a:=a) hn ha (c-2^i) (by omega)
      have er:rd (tbL s l a c) ((c-2^i:Nat):Int)=V s l a (c-2^i):=tbL_rd s l a (by omega)
      have hr:=l7Reach_ev s l [(i:Int)] (rd (tbL s l a c) ((c-2^i:Nat):Int)) hs hl ⟨by simp,fun x hx=>⟨i,by simpa using hx,hi⟩⟩ (by rw[er];omega)
      have e2:rch s l [(i:Int)] (rd (tbL s l a c) ((c-2^i:Nat):Int))=stp s (l.getD i z63) (rd (tbL s l a c) ((c-2^i:Nat):Int)):=by
       unfold rch;rw[List.foldl_cons,List.foldl_nil,Int.toNat_natCast]
      rw[e2]at hr
      have hsub:wrap64 ((c:Int)-shl .i64 1 (i:Int))=((c-2^i:Nat):Int):=by
       rw[shl_one (by omega),w64 (by omega) (by omega)];omega
      refine Ev.step (f:=fun k=>(spec_l7Reach.f k s false l [(i:Int)] (rd (tbL s l a c) ((c-2^i:Nat):Int))).bind fun t=>spec_l7Table.l1 k l a (tbL s l a c) (c:Int) (mx (cellF s l a (tbL s l a c) c i) t) ((i+1:Nat):Int) s false) (fun k=>?_) (Ev.bind hr ih2)
      simp only[spec_l7Table.l1,hsub,l1Most_eq,Option.bind_some]
      rw[if_pos (by omega),if_pos (by omega),bit_read (by omega) (by omega),hb,if_pos (by omega),if_pos (by omega),tbL_len,if_pos (by omega),w64s hi (by omega)]
     ·have e1:cellF s l a (tbL s l a c) c (i+1)=cellF s l a (tbL s l a c) c i:=by
       show(if bitA c i=1 then _ else _)=_
       rw[if_neg hb]
      rw[e1]at ih2
      refine Ev.step (fun k=>?_) ih2
      simp only[spec_l7Table.l1]
      rw[if_pos (by omega),if_pos (by omega),bit_read (by omega) (by omega),if_neg (by omega),w64s hi (by omega)])
   refine Ev.step (fun k=>?_) (k2 0 (by omega))
   simp only[spec_l7Table.l0]
   rw[shl_one (by omega),if_pos (by omega)]
   rfl)
 exact key 0 (Nat.zero_le _)
theorem seek_none {p:List Int→Bool} {n:Nat}:∀ {j m},seek p n j m=none→∀ m',m≤m'→m'<m+j→∀ o∈lv n m',p o=false
 | 0,m,_,m',h1,h2,_,_=>by omega
 | j+1,m,h,m',h1,h2,o,ho=>by
  unfold seek at h
  cases hf: (lv n m).find? p with
  | some q=>rw[hf]at h;simp at h
  | none=>
   rw[hf]at h
   by_cases e:m'=m
   ·subst e
    have:=List.find?_eq_none.1 hf o ho
    simpa using this
   ·exact seek_none h m' (by omega) (by omega) o ho
theorem full_iff {s:Int} {l:List S63} {a b:Int} (hn:l.length≤6) (ha:0≤a∧a≤s-1):b≤V s l a (2^l.length-1)↔(seek (fun o=>decide (b≤rch s l o a)) l.length (l.length+1) 0).isSome=true:=by
 have hpos:=Nat.two_pow_pos l.length
 constructor
 ·intro h
  obtain⟨o,⟨h1,h2⟩,h3,h4⟩:=V_mem (s:=s) (l:=l) (a:=a) hn (2^l.length-1) (by omega)
  have hp:=pc_le (2^l.length-1) l.length
  cases hk:seek (fun o=>decide (b≤rch s l o a)) l.length (l.length+1) 0 with
  | some _=>rfl
  | none=>
   have:=seek_none hk o.length (by omega) (by omega) o (lv_mem o.length o rfl h1 (fun x hx=>by obtain⟨i,e,hi,_⟩:=h2 x hx;exact⟨i,e,hi⟩))
   rw[decide_eq_false_iff_not]at this
   omega
 ·intro h
  obtain⟨o,ho⟩:=Option.isSome_iff_exists.1 h
  obtain⟨h1,m',_,h3,h4⟩:=seek_mem ho
  have hb:=of_decide_eq_true h1
  have hok:=lv_ok _ _ _ h4
  have:=V_ge (s:=s) (l:=l) hn ha o.length o rfl (2^l.length-1) (by omega) ⟨lv_nodup m' o h4,fun x hx=>by
   obtain⟨i,e,hi⟩:=hok.2 x hx
   exact⟨i,e,hi,bit_all l.length hn i hi⟩⟩
  omega
theorem implOrder_ev (s:Int) (r:Bool) (l:List S63) (a b:Int) (hl:l.length≤1048576):Ev (fun k=>impl_ReachOrder.f k s r l a b) (orderR s r l a b):=by
 unfold impl_ReachOrder.f orderR
 refine Ev.bind (isCarried_ev s r l a b hl) ?_
 cases hv:asksV s r l a b with
 | false=>
  simp only[Bool.false_eq_true,if_false]
  exact Ev.now _
 | true=>
  obtain⟨hc,hab⟩:=asks_of hv
  obtain⟨⟨hs,rfl⟩,hn,_⟩:=carV_of hc
  obtain⟨r2,h⟩:=reach3_ev s l a b hs (sane_of hc) hn (by omega)
  simp only[if_true]
  refine Ev.bind h ?_
  cases seek (fun o=>decide (b≤rch s l o a)) l.length (l.length+1) 0 with
  | some o=>exact Ev.now _
  | none=>exact Ev.now _
theorem pc_add {c i:Nat} (hc:c<64) (hi:i<6) (hb:bitA c i=0):∀ n,n≤6→pc (c+2^i) n=pc c n+(if i<n then 1 else 0)
 | 0,_=>by simp[pc]
 | n+1,h=>by
  have ih:=pc_add hc hi hb n (by omega)
  have hs:=bit_add c hc i hi hb n (by omega)
  show pc (c+2^i) n+bitA (c+2^i) n=pc c n+bitA c n+_
  rw[hs,ih]
  by_cases e:n=i
  ·subst e
   rw[if_neg (Nat.lt_irrefl _),if_pos rfl,if_pos (by omega),hb]
  ·rw[if_neg e]
   by_cases h2:i<n
   ·rw[if_pos h2,if_pos (by omega)];omega
   ·rw[if_neg h2,if_neg (by omega)];omega
theorem pc_zero (n:Nat):pc 0 n=0:=by
 induction n with
 | zero=>rfl
 | succ n ih=>show pc 0 n+bitA 0 n=0;rw[ih];simp[bitA]
theorem set_of {n:Nat} (hn:n≤6):∀ o:List Int,o.Nodup→(∀ x∈o,∃ i:Nat,x=(i:Int)∧i<n)→∃ c,c<2^n∧pc c n=o.length∧∀ j,j<n→(bitA c j=1↔(j:Int)∈o)
 | [],_,_=>⟨0,Nat.two_pow_pos n,pc_zero n,fun j _=>by simp[bitA]⟩
 | x::o,hd,hx=>by
  obtain⟨i,e,hi⟩:=hx x (List.mem_cons_self ..)
  subst e
  rw[List.nodup_cons]at hd
  obtain⟨c,hc,hp,hb⟩:=set_of hn o hd.2 (fun y hy=>hx y (List.mem_cons_of_mem _ hy))
  have h64:=pow_le64 hn
  have h0:bitA c i=0:=by
   rcases bit_cases c i with h|h
   ·exact h
   ·exact absurd ((hb i hi).1 h) hd.1
  have hs:=bit_add c (by omega) i (by omega) h0
  refine⟨c+2^i,add_lt n hn c hc i hi h0,?_,fun j hj=>?_⟩
  ·rw[pc_add (by omega) (by omega) h0 n hn,if_pos hi,hp];rfl
  ·rw[hs j (by omega)]
   by_cases e:j=i
   ·subst e;simp
   ·rw[if_neg e,hb j hj]
    have:¬(j:Int)=(i:Int):=by omega
    simp[this]
def bst (s:Int) (l:List S63) (a b:Int):Nat→Int
 | 0=> -1
 | c+1=>if b≤V s l a c∧(bst s l a b c<0∨(pc c l.length:Int)<bst s l a b c)then(pc c l.length:Int)else bst s l a b c
theorem bst_spec (s:Int) (l:List S63) (a b:Int):∀ c,(bst s l a b c=-1∧∀ d,d<c→V s l a d<b)∨(∃ d,d<c∧b≤V s l a d∧bst s l a b c=(pc d l.length:Int)∧∀ d',d'<c→b≤V s l a d'→bst s l a b c≤(pc d' l.length:Int))
 | 0=> .inl ⟨rfl,fun d h=>by omega⟩
 | c+1=>by
  have ih:=bst_spec s l a b c
  unfold bst
  by_cases h:b≤V s l a c∧(bst s l a b c<0∨(pc c l.length:Int)<bst s l a b c)
  ·rw[if_pos h]
   refine .inr ⟨c,by omega,h.1,rfl,fun d' hd' hb=>?_⟩
   by_cases e:d'=c
   ·subst e;exact Int.le_refl _
   ·rcases ih with⟨_,h2⟩|⟨d,_,_,h3,h4⟩
    ·have:=h2 d' (by omega);omega
    ·have:=h4 d' (by omega) hb
     rcases h.2 with h5|h5<;>omega
  ·rw[if_neg h]
   rcases ih with⟨h1,h2⟩|⟨d,h1,h2,h3,h4⟩
   ·refine .inl ⟨h1,fun d hd=>?_⟩
    by_cases e:d=c
    ·subst e
     have:¬b≤V s l a d:=fun z=>h ⟨z, .inl (by omega)⟩
     omega
    ·exact h2 d (by omega)
   ·refine .inr ⟨d,by omega,h2,h3,fun d' hd' hb=>?_⟩
    by_cases e:d'=c
    ·subst e
     have:¬((pc d' l.length:Int)<bst s l a b d'):=fun z=>h ⟨hb, .inr z⟩
     omega
    ·exact h4 d' (by omega) hb
theorem seek_min {p:List Int→Bool} {n:Nat}:∀ {j m o},seek p n j m=some o→∃ m',o∈lv n m'∧m≤m'∧m'<m+j∧∀ m'',m≤m''→m''<m'→∀ q∈lv n m'',p q=false
 | 0,_,_,h=>by simp[seek]at h
 | j+1,m,o,h=>by
  unfold seek at h
  cases hf: (lv n m).find? p with
  | some q=>
   rw[hf]at h
   obtain rfl:=Option.some.inj h
   exact⟨m,List.mem_of_find?_eq_some hf,by omega,by omega,fun m'' h1 h2=>by omega⟩
  | none=>
   rw[hf]at h
   obtain⟨m',h1,h2,h3,h4⟩:=seek_min h
   refine⟨m',h1,by omega,by omega,fun m'' h5 h6 q hq=>?_⟩
   by_cases e:m''=m
   ·subst e
    have:=List.find?_eq_none.1 hf q hq
    simpa using this
   ·exact h4 m'' (by omega) h6 q hq
def fewR (s:Int) (r:Bool) (l:List S63) (a b:Int):Int × Bool:=(((orderR s r l a b).1.length:Int),(orderR s r l a b).2)
theorem few_eq {s:Int} {l:List S63} {a b:Int} (hn:l.length≤6) (ha:0≤a∧a≤s-1): (mx (bst s l a b (2^l.length)) 0,decide (bst s l a b (2^l.length)≥0))=(match seek (fun o=>decide (b≤rch s l o a)) l.length (l.length+1) 0 with|some o=>((o.length:Int),true)|none=>(0,false)):=by
 have hpos:=Nat.two_pow_pos l.length
 have att:∀ d,d<2^l.length→b≤V s l a d→∃ o,o∈lv l.length o.length∧o.length≤pc d l.length∧o.length≤l.length∧b≤rch s l o a:=by
  intro d hd hb
  obtain⟨o,⟨h1,h2⟩,h3,h4⟩:=V_mem (s:=s) (l:=l) (a:=a) hn d hd
  have hp:=pc_le d l.length
  exact⟨o,lv_mem o.length o rfl h1 (fun x hx=>by obtain⟨i,e,hi,_⟩:=h2 x hx;exact⟨i,e,hi⟩),h3,by omega,by omega⟩
 cases hk:seek (fun o=>decide (b≤rch s l o a)) l.length (l.length+1) 0 with
 | none=>
  have hno:bst s l a b (2^l.length)=-1:=by
   rcases bst_spec s l a b (2^l.length)with⟨h,_⟩|⟨d,h1,h2,_⟩
   ·exact h
   ·obtain⟨o,h3,_,h5,h6⟩:=att d h1 h2
    have:=seek_none hk o.length (by omega) (by omega) o h3
    rw[decide_eq_false_iff_not]at this
    omega
  rw[hno]
  rfl
 | some o=>
  obtain⟨m',h1,_,h3,h4⟩:=seek_min hk
  have hb:=of_decide_eq_true (seek_mem hk).1
  have hok:=lv_ok _ _ _ h1
  obtain⟨c,hc,hp,hbits⟩:=set_of hn o (lv_nodup m' o h1) hok.2
  have hV:=V_ge (s:=s) (l:=l) hn ha o.length o rfl c hc ⟨lv_nodup m' o h1,fun x hx=>by
   obtain⟨i,e,hi⟩:=hok.2 x hx
   subst e
   exact⟨i,rfl,hi,(hbits i hi).2 hx⟩⟩
  have hres:bst s l a b (2^l.length)=(o.length:Int):=by
   rcases bst_spec s l a b (2^l.length)with⟨_,h⟩|⟨d,hd,hd2,h5,h6⟩
   ·have:=h c hc;omega
   ·have u:=h6 c hc (by omega)
    obtain⟨q,hq,hq2,_,hq4⟩:=att d hd hd2
    have:m'≤q.length:=by
     rcases Nat.lt_or_ge q.length m' with z|z
     ·have:=h4 q.length (by omega) z q hq
      rw[decide_eq_false_iff_not]at this
      omega
     ·exact z
    have:=hok.1
    omega
  rw[hres]
  have hm:=mx_ge (o.length:Int) 0
  have e1:mx (o.length:Int) 0=(o.length:Int):=by omega
  rw[e1,decide_eq_true (show(o.length:Int)≥0 by omega)]
theorem specFew_ev (s:Int) (r:Bool) (l:List S63) (a b:Int) (hl:l.length≤1048576):Ev (fun k=>spec_FewestCarriers.f k s r l a b) (fewR s r l a b):=by
 unfold spec_FewestCarriers.f fewR orderR
 refine Ev.bind (l7Asks_ev s r l a b hl) ?_
 cases hv:asksV s r l a b with
 | false=>
  simp only[Bool.false_eq_true,if_false]
  exact Ev.now _
 | true=>
  obtain⟨hc,hab⟩:=asks_of hv
  obtain⟨⟨hs,rfl⟩,hn,_⟩:=carV_of hc
  simp only[if_true]
  have h64:=pow_le64 hn
  have fe:=few_eq (s:=s) (l:=l) (a:=a) (b:=b) hn (by omega)
  have key:=down (P:=fun c=>Ev (fun k=>spec_FewestCarriers.l0 k l b (tbL s l a (2^l.length)) (bst s l a b c) (c:Int)) (mx (bst s l a b (2^l.length)) 0,decide (bst s l a b (2^l.length)≥0))) (n:=2^l.length)
   (ev_now (fun k=>by
    simp only[spec_FewestCarriers.l0,tbL_len,spec_l7Told.f,l1Most_eq,Option.bind_some]
    rw[if_neg (Int.lt_irrefl _)]))
   (fun c hcN ih=>by
    have k2:=down (P:=fun i=>Ev (fun k=>spec_FewestCarriers.l1 k l b (tbL s l a (2^l.length)) (bst s l a b c) (c:Int) ((pc c i:Nat):Int) (i:Int)) (mx (bst s l a b (2^l.length)) 0,decide (bst s l a b (2^l.length)≥0))) (n:=l.length)
     (by
      refine Ev.step (fun k=>?_) ih
      simp only[spec_FewestCarriers.l1,tbL_len]
      rw[if_neg (by omega),if_pos (by omega),if_pos (by omega),tbL_rd s l a hcN,w64s hcN (by omega)]
      show(if V s l a c≥b then _ else _)=_
      by_cases h1:b≤V s l a c
      ·rw[if_pos h1]
       by_cases h2:bst s l a b c<0
       ·rw[if_pos h2]
        have:bst s l a b (c+1)=(pc c l.length:Int):=by show(if _ then _ else _)=_;rw[if_pos ⟨h1, .inl h2⟩]
        rw[this]
       ·rw[if_neg h2]
        by_cases h3: (pc c l.length:Int)<bst s l a b c
        ·rw[if_pos h3]
         have:bst s l a b (c+1)=(pc c l.length:Int):=by show(if _ then _ else _)=_;rw[if_pos ⟨h1, .inr h3⟩]
         rw[this]
        ·rw[if_neg h3]
         have:bst s l a b (c+1)=bst s l a b c:=by show(if _ then _ else _)=_;rw[if_neg (fun z=>z.2.elim h2 h3)]
         rw[this]
      ·rw[if_neg h1]
       have:bst s l a b (c+1)=bst s l a b c:=by show(if _ then _ else _)=_;rw[if_neg (fun z=>h1 z.1)]
       rw[this])
     (fun i hi ih2=>by
      have hp:=pc_le c i
      have hbc:=bit_cases c i
      refine Ev.step (fun k=>?_) ih2
      simp only[spec_FewestCarriers.l1]
      rw[if_pos (by omega),if_pos (by omega),bit_read (by omega) (by omega),w64s hi (by omega),w64 (by omega) (by omega)]
      rfl)
    refine Ev.step (fun k=>?_) (k2 0 (Nat.zero_le _))
    simp only[spec_FewestCarriers.l0,tbL_len]
    rw[if_pos (by omega)]
    rfl)
  refine Ev.bind (l7Table_ev s l a hs (sane_of hc) hn (by omega)) ?_
  have k0:=key 0 (Nat.zero_le _)
  rw[fe]at k0
  cases hk:seek (fun o=>decide (b≤rch s l o a)) l.length (l.length+1) 0 with
  | some o=>rw[hk]at k0;exact k0
  | none=>rw[hk]at k0;exact k0
theorem implFew_ev (s:Int) (r:Bool) (l:List S63) (a b:Int) (hl:l.length≤1048576):Ev (fun k=>impl_FewestCarriers.f k s r l a b) (fewR s r l a b):=by
 unfold impl_FewestCarriers.f fewR
 exact Ev.bind (implOrder_ev s r l a b hl) (Ev.now _)
theorem rch_in {s:Int} {l:List S63}:∀ (o:List Int) (a:Int),0≤a∧a≤s-1→a≤rch s l o a∧rch s l o a≤s-1
 | [],a,h=>⟨Int.le_refl _,h.2⟩
 | x::o,a,h=>by
  have h1:=stp_in (s:=s) (c:=l.getD x.toNat z63) h
  have h2:=rch_in (s:=s) (l:=l) o (stp s (l.getD x.toNat z63) a) (by omega)
  show a≤rch s l o (stp s (l.getD x.toNat z63) a)∧rch s l o (stp s (l.getD x.toNat z63) a)≤s-1
  omega
theorem leg_stp {s:Int} {l:List S63} {i:Nat} {x y:Int} (hxy:x<y) (hy:y≤s-1):legE l i x y↔y≤stp s (l.getD i z63) x:=by
 unfold legE stp gapv
 have h1:=mx_ge 0 ((l.getD i z63).f1-mx ((l.getD i z63).f0-x) (x-(l.getD i z63).f0))
 have h2:=mn_le (s-1) (x+mx 0 ((l.getD i z63).f1-mx ((l.getD i z63).f0-x) (x-(l.getD i z63).f0)))
 omega
theorem way_reach {fast:Bool} {s:Int} {l:List S63} {a b:Int} {hv:carV s false l=true} (ha:0≤a) (hab:a≤b) (hb:b≤s-1) {c:Nat} {y v:Int} (hw:Way (mkLegs fast l a b hv) c y v):y≤V s l a c:=by
 have hn:=(carV_of hv).2.1
 have h64:=pow_le64 hn
 induction hw with
 | start=>exact(V_in (s:=s) (l:=l) hn ⟨ha,by omega⟩ 0 (Nat.two_pow_pos _)).1
 | @leg c x v i y hw hi hbit hxy hyb he ih=>
  have hc:c<2^l.length:=hw.set
  have hi':i<l.length:=hi
  have hc2:c+2^i<2^l.length:=bit_lt hc hi hbit
  have hpos:=Nat.two_pow_pos i
  have hyb':y≤b:=hyb
  have hbits:=bit_add c (by omega) i (by omega) hbit i (by omega)
  rw[if_pos rfl]at hbits
  have hg:=(cellF_ge s l a (tbL s l a (c+2^i)) (c+2^i) l.length).2 i hi hbits
  have e:c+2^i-2^i=c:=by omega
  rw[e,tbL_rd s l a (by omega)]at hg
  have h1:=(leg_stp (s:=s) (l:=l) (i:=i) hxy (by omega)).1 he
  have hv2:=V_in (s:=s) (l:=l) (a:=a) hn ⟨ha,by omega⟩ c hc
  have h2:stp s (l.getD i z63) x≤stp s (l.getD i z63) (V s l a c):=stp_mono ih hv2.2
  exact Int.le_trans h1 (Int.le_trans h2 hg)
theorem order_way {fast:Bool} {s:Int} {l:List S63} {a b:Int} (hv:carV s false l=true) (ha:0≤a) (hab:a≤b) (hb:b≤s-1):∀ (m:Nat) (o:List Int),o.length=m→o.Nodup→(∀ x∈o,∃ i:Nat,x=(i:Int)∧i<l.length)→∀ y,a≤y→y≤b→y≤rch s l o a→∃ c v,Way (mkLegs fast l a b hv) c y v∧∀ j,j<l.length→bitA c j=1→(j:Int)∈o:=by
 have hn:=(carV_of hv).2.1
 have h64:=pow_le64 hn
 intro m
 induction m with
 | zero=>
  intro o h _ _ y h1 _ h3
  have:o=[]:=List.length_eq_zero_iff.1 h
  subst this
  have e:y=a:=by
   have e0:rch s l [] a=a:=rfl
   omega
  subst e
  exact⟨0,0,Way.start,fun j _ hj=>by unfold bitA at hj;simp at hj⟩
 | succ m ih=>
  intro o h hd hx y h1 h2 h3
  have hne:o≠[]:=fun e=>by rw[e]at h;simp at h
  have eo:=List.dropLast_concat_getLast hne
  obtain⟨i,ei,hi⟩:=hx _ (List.getLast_mem hne)
  rw[ei]at eo
  generalize o.dropLast=p at eo
  subst eo
  rw[List.nodup_append]at hd
  have hp:p.length=m:=by simp at h;exact h
  have hxp:∀ x∈p,∃ i:Nat,x=(i:Int)∧i<l.length:=fun x hm=>hx x (List.mem_append_left _ hm)
  rw[rch_snoc]at h3
  by_cases hy:y≤rch s l p a
  ·obtain⟨c,v,hw,hb2⟩:=ih p hp hd.1 hxp y h1 h2 hy
   exact⟨c,v,hw,fun j hj hj1=>List.mem_append_left _ (hb2 j hj hj1)⟩
  ·have hr:=rch_in (s:=s) (l:=l) p a ⟨ha,by omega⟩
   obtain⟨c,v,hw,hb2⟩:=ih p hp hd.1 hxp (rch s l p a) hr.1 (by omega) (Int.le_refl _)
   have hc:c<2^l.length:=hw.set
   have hbit:bitA c i=0:=by
    rcases bit_cases c i with h|h
    ·exact h
    ·exact absurd rfl (hd.2.2 _ (hb2 i hi h) _ (List.mem_singleton.2 rfl))
   have hE:=(leg_stp (s:=s) (l:=l) (i:=i) (show rch s l p a<y by omega) (by omega)).2 h3
   refine⟨c+2^i,_,Way.leg (G:=mkLegs fast l a b hv) hw hi hbit (by omega) h2 hE,fun j hj hj1=>?_⟩
   have hs:=bit_add c (by omega) i (by omega) hbit j (by omega)
   by_cases e:j=i
   ·subst e;exact List.mem_append_right _ (List.mem_singleton.2 rfl)
   ·rw[if_neg e]at hs
    rw[hs]at hj1
    exact List.mem_append_left _ (hb2 j hj hj1)
theorem best_iff {fast:Bool} {s:Int} {l:List S63} {a b:Int} (hv:carV s false l=true) (ha:0≤a) (hab:a≤b) (hb:b≤s-1) {t:Int} (h:IsBest (mkLegs fast l a b hv) t):0≤t↔(seek (fun o=>decide (b≤rch s l o a)) l.length (l.length+1) 0).isSome=true:=by
 have hn:=(carV_of hv).2.1
 have hfull:=full_iff (s:=s) (l:=l) (a:=a) (b:=b) hn ⟨ha,by omega⟩
 constructor
 ·intro ht
  rcases h with⟨e,_⟩|⟨⟨c,hw⟩,_⟩
  ·omega
  ·have hr:=way_reach ha hab hb hw
   have hr':b≤V s l a c:=hr
   obtain⟨o,⟨h1,h2⟩,h3,h4⟩:=V_mem (s:=s) (l:=l) (a:=a) hn c hw.set
   have hp:=pc_le c l.length
   cases hk:seek (fun o=>decide (b≤rch s l o a)) l.length (l.length+1) 0 with
   | some _=>rfl
   | none=>
    have:=seek_none hk o.length (by omega) (by omega) o (lv_mem o.length o rfl h1 (fun x hx=>by obtain⟨i,e,hi,_⟩:=h2 x hx;exact⟨i,e,hi⟩))
    rw[decide_eq_false_iff_not]at this
    omega
 ·intro hs
  obtain⟨o,ho⟩:=Option.isSome_iff_exists.1 hs
  obtain⟨h1,m',_,h3,h4⟩:=seek_mem ho
  have hb2:=of_decide_eq_true h1
  have hok:=lv_ok _ _ _ h4
  obtain⟨c,v,hw,_⟩:=order_way (fast:=fast) hv ha hab hb o.length o rfl (lv_nodup m' o h4) hok.2 b hab (Int.le_refl _) hb2
  rcases h with⟨_,hno⟩|⟨⟨c2,hw2⟩,_⟩
  ·exact absurd hw (hno c v)
  ·exact hw2.pos
theorem legL_far {l:List S63} (i:Nat) (v x y:Int):v+(y-x)≤legL true l i v x y:=by
 unfold legL
 simp only[if_true]
 have:=mx_ge v (gapv (l.getD i z63).f0 x)
 omega
def told (t:Int):Int × Bool:=(mx t 0,decide (t≥0))
theorem told_rI (t:Int):rI t=told t:=by
 unfold rI told
 have h1:=mx_ge 0 t
 have h2:=mx_ge t 0
 rw[Prod.mk.injEq]
 exact⟨by omega,rfl⟩
theorem best_ev {fast:Bool} {s:Int} {l:List S63} {a b:Int} (hv:carV s false l=true) (ha:0≤a) (hab:a≤b) (hb:b≤s-1) (hl:l.length≤1048576):∃ t,IsBest (mkLegs fast l a b hv) t∧Ev (fun k=>impl_least.f k s false l a b (lgc fast s)) (told t)∧Ev (fun k=>spec_l7Best.f k s false l a b fast) t:=by
 have hask:asksV s false l a b=true:=by
  unfold asksV
  rw[hv,Bool.true_and,inR_iff.2 ⟨by omega,hb⟩,inR_iff.2 ⟨ha,hab⟩]
  rfl
 have hc:=isCarried_ev s false l a b hl
 rw[hask]at hc
 obtain⟨t,h1,h2⟩:=specBest_good (fast:=fast) hv ha hab hb
 obtain⟨t',h1',h2'⟩:=implLeastM_good (fast:=fast) hv ha hab hb hc
 obtain rfl:=h1.eq h1'
 rw[told_rI]at h2'
 exact⟨t,h1,h2',h2⟩
theorem price_ev (s:Int) (r:Bool) (l:List S63) (a b:Int) (hl:l.length≤1048576):∃ R:Int × Bool,Ev (fun k=>impl_LeastPrice.f k s r l a b) R∧Ev (fun k=>spec_LeastPrice.f k s r l a b) R∧R.2=(orderR s r l a b).2∧∀ hv:carV s false l=true,asksV s r l a b=true→∃ t,IsBest (mkLegs false l a b hv) t∧R=told t:=by
 cases hask:asksV s r l a b with
 | false=>
  refine⟨(0,false),?_,?_,?_,fun _ h=>absurd h (by simp)⟩
  ·unfold impl_LeastPrice.f mkLeg0.f
   simp only[Option.bind_some]
   refine Ev.bind (a:=(0,false)) ?_ (Ev.now _)
   unfold impl_least.f
   refine Ev.bind (isCarried_ev s r l a b hl) ?_
   rw[hask]
   exact Ev.now _
  ·unfold spec_LeastPrice.f
   refine Ev.bind (l7Asks_ev s r l a b hl) ?_
   rw[hask]
   exact Ev.now _
  ·unfold orderR
   rw[hask]
   rfl
 | true=>
  obtain⟨hc,h0,hab,hb⟩:=asks_of hask
  obtain⟨⟨hs,rfl⟩,hn,_⟩:=carV_of hc
  obtain⟨t,h1,h2,h3⟩:=best_ev (fast:=false) hc h0 hab hb hl
  refine⟨told t,?_,?_,?_,fun _ _=>⟨t,h1,rfl⟩⟩
  ·unfold impl_LeastPrice.f mkLeg0.f
   simp only[Option.bind_some]
   exact Ev.bind h2 (Ev.now _)
  ·unfold spec_LeastPrice.f
   refine Ev.bind (l7Asks_ev s false l a b hl) ?_
   rw[hask]
   refine ev_pos rfl (Ev.bind h3 ?_)
   simp only[spec_l7Told.f,l1Most_eq,Option.bind_some]
   exact Ev.now _
  ·have hi:=best_iff hc h0 hab hb h1
   unfold orderR told
   rw[if_pos hask]
   cases hk:seek (fun o=>decide (b≤rch s l o a)) l.length (l.length+1) 0 with
   | some o=>exact decide_eq_true (hi.2 (by rw[hk];rfl))
   | none=>exact decide_eq_false (fun h=>by have:=hi.1 h;rw[hk]at this;cases this)
theorem arrival_ev (s:Int) (r:Bool) (l:List S63) (a b:Int) (hl:l.length≤1048576):∃ R:Int × Bool,Ev (fun k=>impl_FirstArrival.f k s r l a b) R∧Ev (fun k=>spec_FirstArrival.f k s r l a b) R∧R.2=(orderR s r l a b).2∧∀ hv:carV s false l=true,asksV s r l a b=true→∃ t,IsBest (mkLegs true l a b hv) t∧R=told t:=by
 cases hask:asksV s r l a b with
 | false=>
  refine⟨(0,false),?_,?_,?_,fun _ h=>absurd h (by simp)⟩
  ·unfold impl_FirstArrival.f mkLeg1.f
   simp only[Option.bind_some]
   refine Ev.bind (a:=(0,false)) ?_ (Ev.now _)
   unfold impl_least.f
   refine Ev.bind (isCarried_ev s r l a b hl) ?_
   rw[hask]
   exact Ev.now _
  ·unfold spec_FirstArrival.f
   refine Ev.bind (l7Asks_ev s r l a b hl) ?_
   rw[hask]
   exact Ev.now _
  ·unfold orderR
   rw[hask]
   rfl
 | true=>
  obtain⟨hc,h0,hab,hb⟩:=asks_of hask
  obtain⟨⟨hs,rfl⟩,hn,_⟩:=carV_of hc
  obtain⟨t,h1,h2,h3⟩:=best_ev (fast:=true) hc h0 hab hb hl
  refine⟨told t,?_,?_,?_,fun _ _=>⟨t,h1,rfl⟩⟩
  ·unfold impl_FirstArrival.f mkLeg1.f
   simp only[Option.bind_some]
   exact Ev.bind h2 (Ev.now _)
  ·unfold spec_FirstArrival.f
   refine Ev.bind (l7Asks_ev s false l a b hl) ?_
   rw[hask]
   refine ev_pos rfl (Ev.bind h3 ?_)
   simp only[spec_l7Told.f,l1Most_eq,Option.bind_some]
   exact Ev.now _
  ·have hi:=best_iff hc h0 hab hb h1
   unfold orderR told
   rw[if_pos hask]
   cases hk:seek (fun o=>decide (b≤rch s l o a)) l.length (l.length+1) 0 with
   | some o=>exact decide_eq_true (hi.2 (by rw[hk];rfl))
   | none=>exact decide_eq_false (fun h=>by have:=hi.1 h;rw[hk]at this;cases this)
theorem isCarried1_ev (s:Int) (r:Bool) (l:List S63) (a:Int) (hl:l.length≤1048576):Ev (fun k=>impl_isCarried.f k s r l [a]) (carV s r l&&inR 0 (s-1) a):=by
 unfold impl_isCarried.f
 simp only[isLine_eq,Option.bind_some]
 cases hL:lineV s r with
 | false=>
  have:carV s r l=false:=by unfold carV;rw[hL];simp
  rw[this]
  simp only[Bool.false_eq_true,if_false,Bool.false_and]
  exact Ev.now _
 | true=>
  obtain⟨hs,rfl⟩:=line_of hL
  have e:carV s false l=(decide ((l.length:Int)≤6)&&allF l.length (carC s l) 0):=by unfold carV;rw[hL];rfl
  simp only[if_true]
  refine Ev.bind (areCarriers_ev s false l hl hs) ?_
  rw[←e]
  cases carV s false l with
  | false=>
   simp only[Bool.false_eq_true,if_false,Bool.false_and]
   exact Ev.now _
  | true=>
   simp only[if_true,Bool.true_and]
   have hh:Ev (fun k=>impl_Road_has.f k s false [a]) (inR 0 (s-1) a):=by
    unfold impl_Road_has.f
    rw[w64 (by omega) (by omega)]
    have:=allWithin_ev [a] 0 (s-1) (by simp)
    have e:inAll 0 (s-1) [a]=inR 0 (s-1) a:=by simp[inAll]
    rw[e]at this
    exact Ev.bind this (Ev.now _)
   refine Ev.bind hh ?_
   have es:Ev (fun k=>slices_IsSorted_int_int.f k [a]) true:=by
    unfold slices_IsSorted_int_int.f
    have e1:wrap64 ((([a]:List Int).length:Int)-1)=0:=by rw[w64 (by simp) (by simp)];simp
    rw[e1]
    refine ev_now (fun k=>?_)
    simp only[slices_IsSorted_int_int.l0]
    rw[if_neg (by omega)]
   cases inR 0 (s-1) a with
   | true=>exact ev_pos rfl (Ev.bind es (Ev.now _))
   | false=>exact ev_neg (by decide) (Ev.now _)
theorem l2Place_eq (s a:Int) (hs:2≤s∧s≤24):spec_l2Place.f s false a=some (inR 0 (s-1) a):=by
 simp only[spec_l2Place.f,l2Road_eq,l1In_eq,Option.bind_some]
 rw[inR_iff.2 hs,w64 (by omega) (by omega)]
 rfl
def bl (s:Int) (l:List S63) (a:Int) (os:List (List Int)) (t:Int):Int:=os.foldl (fun t o=>mx t (rch s l o a)) t
theorem bl_spec (s:Int) (l:List S63) (a:Int):∀ (os:List (List Int)) (t:Int),t≤bl s l a os t∧(∀ o∈os,rch s l o a≤bl s l a os t)∧(bl s l a os t=t∨∃ o∈os,bl s l a os t=rch s l o a)
 | [],t=>⟨Int.le_refl _,fun o h=>by simp at h,Or.inl rfl⟩
 | p::os,t=>by
  have h:=bl_spec s l a os (mx t (rch s l p a))
  have hm:=mx_ge t (rch s l p a)
  have e:bl s l a (p::os) t=bl s l a os (mx t (rch s l p a)):=rfl
  rw[e]
  refine⟨by omega,fun o ho=>?_,?_⟩
  ·rcases List.mem_cons.1 ho with rfl|ho
   ·omega
   ·exact h.2.1 o ho
  ·rcases h.2.2 with h2|⟨o,ho,h2⟩
   ·rcases hm.2.2 with h3|h3
    ·exact Or.inl (by omega)
    ·exact Or.inr ⟨p,List.mem_cons_self ..,by omega⟩
   ·exact Or.inr ⟨o,List.mem_cons_of_mem _ ho,h2⟩
def lvB (s:Int) (l:List S63) (a:Int):Nat→Nat→Int→Int
 | 0,_,t=>t
 | j+1,m,t=>lvB s l a j (m+1) (bl s l a (lv l.length m) t)
theorem lvB_spec (s:Int) (l:List S63) (a:Int):∀ (j m:Nat) (t:Int),t≤lvB s l a j m t∧(∀ m',m≤m'→m'<m+j→∀ o∈lv l.length m',rch s l o a≤lvB s l a j m t)∧(lvB s l a j m t=t∨∃ m',m'<m+j∧∃ o∈lv l.length m',lvB s l a j m t=rch s l o a)
 | 0,m,t=>⟨Int.le_refl _,fun m' h1 h2=>by omega,Or.inl rfl⟩
 | j+1,m,t=>by
  have h:=lvB_spec s l a j (m+1) (bl s l a (lv l.length m) t)
  have hb:=bl_spec s l a (lv l.length m) t
  have e:lvB s l a (j+1) m t=lvB s l a j (m+1) (bl s l a (lv l.length m) t):=rfl
  rw[e]
  refine⟨by omega,fun m' h1 h2 o ho=>?_,?_⟩
  ·by_cases em:m'=m
   ·subst em
    have:=hb.2.1 o ho
    omega
   ·exact h.2.1 m' (by omega) (by omega) o ho
  ·rcases h.2.2 with h2|⟨m',h3,o,ho,h2⟩
   ·rcases hb.2.2 with h3|⟨o,ho,h3⟩
    ·exact Or.inl (by omega)
    ·exact Or.inr ⟨m,by omega,o,ho,by omega⟩
   ·exact Or.inr ⟨m',by omega,o,ho,h2⟩
theorem lvB_full {s:Int} {l:List S63} {a:Int} (hn:l.length≤6) (ha:0≤a∧a≤s-1):lvB s l a (l.length+1) 0 a=V s l a (2^l.length-1):=by
 have hpos:=Nat.two_pow_pos l.length
 have h:=lvB_spec s l a (l.length+1) 0 a
 have hv:=V_in (s:=s) (l:=l) hn ha (2^l.length-1) (by omega)
 refine Int.le_antisymm ?_ ?_
 ·rcases h.2.2 with h2|⟨m',hm',o,ho,h2⟩
  ·omega
  ·have hok:=lv_ok _ _ _ ho
   have:=V_ge (s:=s) (l:=l) hn ha o.length o rfl (2^l.length-1) (by omega) ⟨lv_nodup m' o ho,fun x hx=>by
    obtain⟨i,e,hi⟩:=hok.2 x hx
    exact⟨i,e,hi,bit_all l.length hn i hi⟩⟩
   omega
 ·obtain⟨o,⟨h1,h2⟩,h3,h4⟩:=V_mem (s:=s) (l:=l) (a:=a) hn (2^l.length-1) (by omega)
  have hp:=pc_le (2^l.length-1) l.length
  rw[h4]
  exact h.2.1 o.length (Nat.zero_le _) (by omega) o (lv_mem o.length o rfl h1 (fun x hx=>by obtain⟨i,e,hi,_⟩:=h2 x hx;exact⟨i,e,hi⟩))
theorem reachBest_ev (s:Int) (l:List S63) (a:Int) (hs:2≤s∧s≤24) (hl:saneC s l) (hn:l.length≤6) (hab:0≤a∧a≤s-1):
  Ev (fun k=>impl_Road_reachOrder.f k s false l a s) ([],V s l a (2^l.length-1)):=by
 have key:=down (P:=fun m=>∀ best:Int,Ev (fun k=>impl_Road_reachOrder.l0 k l a s best (lv l.length m) s false) ([],lvB s l a (l.length+1-m) m best)) (n:=l.length+1)
  (fun best=>ev_now (fun k=>by
   have:=(lv_sizes l.length hn).2.2
   simp only[impl_Road_reachOrder.l0]
   rw[if_neg (by omega),Nat.sub_self]
   rfl))
  (fun m hm ih best=>by
   have e:l.length+1-m=(l.length+1-(m+1))+1:=by omega
   rw[e]
   have hz:=(lv_sizes l.length hn).1 m (by omega)
   have hz0:=(lv_sizes l.length hn).2.1 m (by omega)
   have k2:=down (P:=fun i=>∀ (best:Int) (acc:List (List Int)),acc.length+((lv l.length m).length-i)*6≤1000000→acc++((lv l.length m).drop i).flatMap (fun o=>exO l.length o 0)=lv l.length (m+1)→Ev (fun k=>impl_Road_reachOrder.l1 k l a s best acc (lv l.length m) ((lv l.length m).length:Int) (i:Int) s false) ([],lvB s l a (l.length+1-(m+1)) (m+1) (bl s l a ((lv l.length m).drop i) best))) (n:=(lv l.length m).length)
    (fun best acc _ hacc=>by
     rw[List.drop_length,List.flatMap_nil,List.append_nil]at hacc
     rw[List.drop_length]
     refine Ev.step (fun k=>?_) (ih best)
     simp only[impl_Road_reachOrder.l1]
     rw[if_neg (by omega),hacc])
    (fun i hi ih2 best acc hb hacc=>by
     have hg: (lv l.length m).getD i []∈lv l.length m:=by rw[List.getD_eq_getElem?_getD,List.getElem?_eq_getElem hi];exact List.getElem_mem hi
     have hok:okO l.length ((lv l.length m).getD i []):=lv_okO (by omega) hg
     have hr:=orderReach_ev s l _ a hs hl hok hab
     have hx:=exO_len l.length ((lv l.length m).getD i []) 0
     have hin:=rch_in (s:=s) (l:=l) ((lv l.length m).getD i []) a hab
     refine Ev.step (f:=fun k=>(impl_Road_orderReach.f k s false l ((lv l.length m).getD i []) a).bind fun t=>if t≥s then(impl_copied.f ((lv l.length m).getD i [])).bind (fun c=>some (c,t))else impl_Road_reachOrder.l2 k l a s (mx best t) acc ((lv l.length m).getD i []) (lv l.length m) ((lv l.length m).length:Int) (i:Int) (l.length:Int) ((0:Nat):Int) s false) (fun k=>?_) (Ev.bind hr (ev_neg (by omega) ?_))
     ·simp only[impl_Road_reachOrder.l1,show rd_L2 (lv l.length m) (i:Int)=(lv l.length m).getD i []from rfl]
      rw[if_pos (by omega),if_pos (by omega),if_pos (by omega)]
      rfl
     ·have hd:bl s l a ((lv l.length m).drop i) best=bl s l a ((lv l.length m).drop (i+1)) (mx best (rch s l ((lv l.length m).getD i []) a)):=by
       rw[drop_consG [] hi]
       rfl
      rw[hd]
      rw[drop_consG [] hi,List.flatMap_cons,←List.append_assoc]at hacc
      have h2:=ih2 (mx best (rch s l ((lv l.length m).getD i []) a)) (acc++exO l.length ((lv l.length m).getD i []) 0) (by rw[List.length_append];omega) hacc
      refine ext_impl l a s _ s _ _ i hn hok.1 hi _ 0 (by omega) acc (by omega) ?_
      rw[w64s hi (by omega)]
      exact h2)
   have h2:=k2 0 (by omega) best [] (by simp;omega) (by simp[lv])
   rw[List.drop_zero]at h2
   refine Ev.step (f:=fun k=>impl_Road_reachOrder.l1 k l a s best [] (lv l.length m) ((lv l.length m).length:Int) ((0:Nat):Int) s false) (fun k=>?_) h2
   simp only[impl_Road_reachOrder.l0]
   rw[if_pos (by omega)]
   rfl)
 have k0:=key 0 (Nat.zero_le _) a
 rw[Nat.sub_zero,lvB_full hn hab]at k0
 exact k0
def greatR (s:Int) (r:Bool) (l:List S63) (a:Int):Int × Bool:=if(carV s r l&&inR 0 (s-1) a)=true then(V s l a (2^l.length-1),true)else(0,false)
theorem implGreat_ev (s:Int) (r:Bool) (l:List S63) (a:Int) (hl:l.length≤1048576):Ev (fun k=>impl_GreatestReach.f k s r l a) (greatR s r l a):=by
 unfold impl_GreatestReach.f greatR
 refine Ev.bind (isCarried1_ev s r l a hl) ?_
 cases hv: (carV s r l&&inR 0 (s-1) a)with
 | false=>exact Ev.now _
 | true=>
  rw[Bool.and_eq_true,inR_iff]at hv
  obtain⟨⟨hs,rfl⟩,hn,_⟩:=carV_of hv.1
  exact ev_pos rfl (Ev.bind (reachBest_ev s l a hs (sane_of hv.1) hn hv.2) (Ev.now _))
theorem specGreat_ev (s:Int) (r:Bool) (l:List S63) (a:Int) (hl:l.length≤1048576):Ev (fun k=>spec_GreatestReach.f k s r l a) (greatR s r l a):=by
 unfold spec_GreatestReach.f greatR
 refine Ev.bind (l7Carriers_ev s r l hl) ?_
 cases hc:carV s r l with
 | false=>exact Ev.now _
 | true=>
  obtain⟨⟨hs,rfl⟩,hn,_⟩:=carV_of hc
  refine ev_pos rfl ?_
  refine ev_bind0 (l2Place_eq s a hs) ?_
  cases hi:inR 0 (s-1) a with
  | false=>exact Ev.now _
  | true=>
   have h64:=pow_le64 hn
   have hpos:=Nat.two_pow_pos l.length
   refine ev_pos rfl (Ev.bind (l7Table_ev s l a hs (sane_of hc) hn (inR_iff.1 hi)) ?_)
   have hw:wrap64 (((2^l.length:Nat):Int)-1)=((2^l.length-1:Nat):Int):=by rw[w64 (by omega) (by omega)];omega
   rw[tbL_len,hw,tbL_rd s l a (show 2^l.length-1<2^l.length by omega)]
   exact ev_pos (by omega) (ev_pos (by omega) (Ev.now _))
theorem great_in {s:Int} {r:Bool} {l:List S63} {a:Int} (h: (greatR s r l a).2=true):a≤(greatR s r l a).1∧(greatR s r l a).1≤s-1:=by
 unfold greatR at*
 split at h
 ·rename_i hv
  rw[if_pos hv]
  rw[Bool.and_eq_true,inR_iff]at hv
  have hn:=(carV_of hv.1).2.1
  have hpos:=Nat.two_pow_pos l.length
  exact V_in hn hv.2 _ (by omega)
 ·cases h
theorem l1Has_ev (o:List Int) (x:Int) (h:o.length≤1000):Ev (fun k=>spec_l1Has.f k o x) (decide (x∈o)):=by
 have key:=down (P:=fun i=>Ev (fun k=>spec_l1Has.l0 k o x (i:Int)) (decide (x∈o.drop i))) (n:=o.length)
  (ev_now (fun k=>by simp only[spec_l1Has.l0];rw[if_neg (by omega)];simp))
  (fun i hi ih=>by
   rw[drop_cons hi]
   by_cases e:rd o (i:Int)=x
   ·refine ev_now (fun k=>?_)
    simp only[spec_l1Has.l0]
    rw[if_pos (by omega),if_pos (by omega),if_pos e]
    simp[e]
   ·have e2:decide (x∈rd o (i:Int)::o.drop (i+1))=decide (x∈o.drop (i+1)):=by
     have:¬x=rd o (i:Int):=fun z=>e z.symm
     simp[this]
    rw[e2]
    refine Ev.step (fun k=>?_) ih
    simp only[spec_l1Has.l0]
    rw[if_pos (by omega),if_pos (by omega),if_neg e,w64s hi (by omega)])
 exact key 0 (by omega)
def difF (o:List Int):Bool:=allF o.length (fun i=>¬rd o (i:Int)∈o.take i) 0
theorem difF_nodup {o:List Int} (h:difF o=true):o.Nodup:=by
 have h':=allF_of h
 rw[List.nodup_iff_pairwise_ne,List.pairwise_iff_getElem]
 intro i j hi hj hij e
 refine h' j hj ?_
 have e1:rd o (j:Int)=o[i]:=by
  unfold rd
  rw[Int.toNat_natCast,List.getD_eq_getElem?_getD,List.getElem?_eq_getElem hj,Option.getD_some,e]
 rw[e1,List.mem_take_iff_getElem]
 exact⟨i,by omega,rfl⟩
def ordV (n:Nat) (o:List Int):Bool:=inAll 0 ((n:Int)-1) o&&difF o
theorem l7Order_ev (n:Nat) (o:List Int) (hn:n≤1000) (ho:o.length≤1000):Ev (fun k=>spec_l7Order.f k (n:Int) o) (ordV n o):=by
 have hw:wrap64 ((n:Int)-1)=(n:Int)-1:=w64 (by omega) (by omega)
 have key:=down (P:=fun i=>Ev (fun k=>spec_l7Order.l0 k (n:Int) o (i:Int)) (allF o.length (fun i=>(0≤rd o (i:Int)∧rd o (i:Int)≤(n:Int)-1)∧¬rd o (i:Int)∈o.take i) i)) (n:=o.length)
  (ev_now (fun k=>by
   simp only[spec_l7Order.l0]
   rw[if_neg (by omega),allF_end]))
  (fun i hi ih=>by
   have ht: (o.take i).length≤1000:=by rw[List.length_take];omega
   rw[allF_step hi]
   have eb:∀ k,spec_l7Order.l0 (k+1) (n:Int) o (i:Int)=if inR 0 ((n:Int)-1) (rd o (i:Int))=true then(spec_l1Has.f k (o.take i) (rd o (i:Int))).bind (fun t=>if t=true then some false else spec_l7Order.l0 k (n:Int) o ((i+1:Nat):Int))else some false:=by
    intro k
    simp only[spec_l7Order.l0,l1In_eq,Option.bind_some,w64s hi (show o.length≤1152921504606846976 by omega)]
    rw[if_pos (by omega),if_pos (by omega),hw,if_pos (show(i:Int)≤(o.length:Int)by omega),Int.toNat_natCast]
   by_cases q1:inR 0 ((n:Int)-1) (rd o (i:Int))=true
   ·have r1:=inR_iff.1 q1
    refine Ev.step (fun k=>by rw[eb,if_pos q1]) (Ev.bind (l1Has_ev (o.take i) (rd o (i:Int)) ht) ?_)
    by_cases q2:rd o (i:Int)∈o.take i
    ·rw[decide_eq_false (p:=(0≤rd o (i:Int)∧rd o (i:Int)≤(n:Int)-1)∧¬rd o (i:Int)∈o.take i) (fun h=>h.2 q2),Bool.false_and]
     exact ev_pos (decide_eq_true q2) (Ev.now _)
    ·rw[decide_eq_true (p:=(0≤rd o (i:Int)∧rd o (i:Int)≤(n:Int)-1)∧¬rd o (i:Int)∈o.take i) ⟨r1,q2⟩,Bool.true_and]
     exact ev_neg (by simpa using q2) ih
   ·rw[decide_eq_false (p:=(0≤rd o (i:Int)∧rd o (i:Int)≤(n:Int)-1)∧¬rd o (i:Int)∈o.take i) (fun h=>q1 (inR_iff.2 h.1)),Bool.false_and]
    exact ev_now (fun k=>by rw[eb,if_neg q1]))
 have k0:=key 0 (Nat.zero_le _)
 have e:allF o.length (fun i=>(0≤rd o (i:Int)∧rd o (i:Int)≤(n:Int)-1)∧¬rd o (i:Int)∈o.take i) 0=ordV n o:=by
  unfold ordV difF
  rw[Bool.eq_iff_iff,Bool.and_eq_true,allF_iff,allF_iff,inAll_iff]
  constructor
  ·intro h
   exact⟨all_of_rd (fun i hi=>(h i hi).1),fun j hj=>(h j hj).2⟩
  ·intro h j hj
   exact⟨h.1 _ (mem_of_rd hj),h.2 j hj⟩
 rw[e]at k0
 unfold spec_l7Order.f
 exact k0
def ordReachR (s:Int) (r:Bool) (l:List S63) (o:List Int) (a:Int):Int × Bool:=if(carV s r l&&inR 0 (s-1) a)=true then(if ordV l.length o=true then(rch s l o a,true)else(0,false))else(0,false)
theorem ordV_ok {n:Nat} {o:List Int} (ho:o.length≤1000) (h:ordV n o=true):okO n o∧o.Nodup:=by
 unfold ordV at h
 rw[Bool.and_eq_true,inAll_iff]at h
 refine⟨⟨ho,fun x hx=>?_⟩,difF_nodup h.2⟩
 have:=h.1 x hx
 obtain⟨i,rfl⟩:=Int.eq_ofNat_of_zero_le this.1
 exact⟨i,rfl,by omega⟩
theorem specOrdReach_ev (s:Int) (r:Bool) (l:List S63) (o:List Int) (a:Int) (hl:l.length≤1048576) (ho:o.length≤1000):Ev (fun k=>spec_OrderReach.f k s r l o a) (ordReachR s r l o a):=by
 unfold spec_OrderReach.f ordReachR
 refine Ev.bind (l7Carriers_ev s r l hl) ?_
 cases hc:carV s r l with
 | false=>exact Ev.now _
 | true=>
  obtain⟨⟨hs,rfl⟩,hn,_⟩:=carV_of hc
  refine ev_pos rfl (Ev.bind (l7Order_ev l.length o (by omega) ho) ?_)
  cases hv:ordV l.length o with
  | false=>
   have e: (if(true&&inR 0 (s-1) a)=true then(if(false:Bool)=true then(rch s l o a,true)else((0:Int),false))else(0,false))=(0,false):=by
    cases inR 0 (s-1) a<;>rfl
   rw[e]
   exact Ev.now _
  | true=>
   refine ev_pos rfl (ev_bind0 (l2Place_eq s a hs) ?_)
   cases hi:inR 0 (s-1) a with
   | false=>exact Ev.now _
   | true=>exact ev_pos rfl (Ev.bind (l7Reach_ev s l o a hs (sane_of hc) (ordV_ok ho hv).1 (inR_iff.1 hi)) (Ev.now _))
theorem implOrdReach_ev (s:Int) (r:Bool) (l:List S63) (o:List Int) (a:Int) (hl:l.length≤1048576) (ho:o.length≤1000):Ev (fun k=>impl_OrderReach.f k s r l o a) (ordReachR s r l o a):=by
 unfold impl_OrderReach.f ordReachR
 refine Ev.bind (isCarried1_ev s r l a hl) ?_
 have bad:Ev (fun k=>impl_OrderReach.j0 k l o a true s r) (0,false):=ev_now (fun k=>by simp only[impl_OrderReach.j0];rw[if_pos True.intro])
 cases hv: (carV s r l&&inR 0 (s-1) a)with
 | false=>exact ev_neg (by decide) bad
 | true=>
  have hv':=hv
  rw[Bool.and_eq_true,inR_iff]at hv'
  obtain⟨⟨hs,rfl⟩,hn,_⟩:=carV_of hv'.1
  refine ev_pos rfl ?_
  have hw:wrap64 ((l.length:Int)-1)=(l.length:Int)-1:=w64 (by omega) (by omega)
  rw[hw]
  refine Ev.bind (allWithin_ev o 0 ((l.length:Int)-1) (by omega)) ?_
  unfold ordV
  cases hA:inAll 0 ((l.length:Int)-1) o with
  | false=>exact bad
  | true=>
   have key:=down (P:=fun i=>(allF o.length (fun i=>¬rd o (i:Int)∈o.take i) i=true→difF o=true)→Ev (fun k=>impl_OrderReach.l0 k l o a o (o.length:Int) (i:Int) s false) (if allF o.length (fun i=>¬rd o (i:Int)∈o.take i) i=true then(rch s l o a,true)else(0,false))) (n:=o.length)
    (fun hd=>by
     have hd':=hd (allF_end _ _)
     have hok:=ordV_ok (n:=l.length) ho (by unfold ordV;rw[hA,hd'];rfl)
     rw[allF_end,if_pos rfl]
     refine Ev.step (f:=fun k=>(impl_Road_orderReach.f k s false l o a).bind fun t=>some (t,true)) (fun k=>?_) (Ev.bind (orderReach_ev s l o a hs (sane_of hv'.1) hok.1 hv'.2) (Ev.now _))
     simp only[impl_OrderReach.l0]
     rw[if_neg (by omega)])
    (fun i hi ih hd=>by
     have ht: (o.take i).length≤1000:=by rw[List.length_take];omega
     rw[allF_step hi]at hd⊢
     refine Ev.step (f:=fun k=>(slices_Contains_int_int.f k (o.take i) (rd o (i:Int))).bind fun t=>if t=true then some (0,false)else impl_OrderReach.l0 k l o a o (o.length:Int) ((i+1:Nat):Int) s false) (fun k=>?_) (Ev.bind (contains_ev (o.take i) (rd o (i:Int)) ht) ?_)
     ·simp only[impl_OrderReach.l0,w64s hi (show o.length≤1152921504606846976 by omega)]
      rw[if_pos (by omega),if_pos (by omega),if_pos (by omega),if_pos (by omega),Int.toNat_natCast]
     ·by_cases q:rd o (i:Int)∈o.take i
      ·rw[decide_eq_false (p:=¬rd o (i:Int)∈o.take i) (fun h=>h q),Bool.false_and]
       exact ev_pos (decide_eq_true q) (Ev.now _)
      ·rw[decide_eq_true (p:=¬rd o (i:Int)∈o.take i) q,Bool.true_and]at hd⊢
       exact ev_neg (by simpa using q) (ih hd))
   have k0:=key 0 (Nat.zero_le _) (fun h=>h)
   rw[Bool.true_and]
   exact Ev.step (fun k=>by simp only[impl_OrderReach.j0];rw[if_neg (by decide)];rfl) k0
theorem ordReach_in {s:Int} {r:Bool} {l:List S63} {o:List Int} {a:Int} (ho:o.length≤1000) (h: (ordReachR s r l o a).2=true): (greatR s r l a).2=true∧(ordReachR s r l o a).1≤(greatR s r l a).1∧a≤(ordReachR s r l o a).1:=by
 unfold ordReachR at*
 split at h
 ·rename_i hv
  rw[if_pos hv]
  split at h
  ·rename_i h2
   rw[if_pos h2]
   unfold greatR
   rw[if_pos hv]
   rw[Bool.and_eq_true,inR_iff]at hv
   have hn:=(carV_of hv.1).2.1
   have hpos:=Nat.two_pow_pos l.length
   have hok:=ordV_ok ho h2
   have:=V_ge (s:=s) (l:=l) hn hv.2 o.length o rfl (2^l.length-1) (by omega) ⟨hok.2,fun x hx=>by
    obtain⟨i,e,hi⟩:=hok.1.2 x hx
    exact⟨i,e,hi,bit_all l.length hn i hi⟩⟩
   exact⟨rfl,this,(rch_in o a hv.2).1⟩
  ·cases h
 ·cases h
def moreC (l:List S63) (e:Int):List S63:=tg l.length (fun q=>⟨(l.getD q z63).f0,(l.getD q z63).f1+e,(l.getD q z63).f2⟩)
theorem moreC_len (l:List S63) (e:Int): (moreC l e).length=l.length:=tg_len _ _
theorem more_sane {s:Int} {r:Bool} {l:List S63} {e:Int} (h:carV s r l=true) (he:0≤e∧e≤100):saneC s (moreC l e):=by
 intro j hj
 rw[moreC_len]at hj
 have:=(carV_of h).2.2 j hj
 have h2:=this.2.1
 unfold moreC
 rw[tg_get hj]
 exact⟨this.1,by show 0≤_+e;omega,by show _+e≤1000;omega⟩
theorem l7More_ev (s:Int) (r:Bool) (l:List S63) (e:Int) (h:carV s r l=true) (he:0≤e∧e≤100):Ev (fun k=>spec_l7More.f k l e) (moreC l e):=by
 have hn:=(carV_of h).2.1
 have key:=down (P:=fun i=>Ev (fun k=>spec_l7More.l0 k l e (tg i (fun q=>⟨(l.getD q z63).f0,(l.getD q z63).f1+e,(l.getD q z63).f2⟩)) (i:Int)) (moreC l e)) (n:=l.length)
  (ev_now (fun k=>by simp only[spec_l7More.l0];rw[if_neg (by omega)];rfl))
  (fun i hi ih=>by
   have hc:=((carV_of h).2.2 i hi).2.1
   refine Ev.step (fun k=>?_) ih
   simp only[spec_l7More.l0,rdC_nat]
   rw[if_pos (by omega),if_pos (by omega),tg_len,if_pos (by omega),w64s hi (by omega),w64 (by omega) (by omega),tg_snoc i (fun q=>(⟨(l.getD q z63).f0,(l.getD q z63).f1+e,(l.getD q z63).f2⟩:S63))])
 exact key 0 (by omega)
def hitE (s:Int) (l:List S63) (a b:Int) (e:Nat):Bool:=(seek (fun o=>decide (b≤rch s (moreC l (e:Int)) o a)) l.length (l.length+1) 0).isSome
def seekE (p:Nat→Bool):Nat→Nat→Int × Bool
 | 0,_=>(0,false)
 | j+1,e=>if p e=true then((e:Int),true)else seekE p j (e+1)
def extraR (s:Int) (r:Bool) (l:List S63) (a b:Int):Int × Bool:=if asksV s r l a b=true then seekE (hitE s l a b) 49 0 else(0,false)
theorem specExtra_ev (s:Int) (r:Bool) (l:List S63) (a b:Int) (hl:l.length≤1048576):Ev (fun k=>spec_ExtraRange.f k s r l a b) (extraR s r l a b):=by
 unfold spec_ExtraRange.f extraR
 refine Ev.bind (l7Asks_ev s r l a b hl) ?_
 cases hv:asksV s r l a b with
 | false=>
  simp only[Bool.false_eq_true,if_false]
  exact Ev.now _
 | true=>
  obtain⟨hc,hab⟩:=asks_of hv
  obtain⟨⟨hs,rfl⟩,hn,_⟩:=carV_of hc
  simp only[if_true]
  have hpos:=Nat.two_pow_pos l.length
  have h64:=pow_le64 hn
  have key:=down (P:=fun e=>Ev (fun k=>spec_ExtraRange.l0 k l a b (e:Int) s false) (seekE (hitE s l a b) (49-e) e)) (n:=49)
   (ev_now (fun k=>by simp only[spec_ExtraRange.l0];rw[if_neg (by omega)];rfl))
   (fun e he ih=>by
    have e49:49-e=(49-(e+1))+1:=by omega
    rw[e49]
    have ht:=l7Table_ev s (moreC l (e:Int)) a hs (more_sane hc (by omega)) (by rw[moreC_len];exact hn) (by omega)
    rw[moreC_len]at ht
    have hw:wrap64 (((2^l.length:Nat):Int)-1)=((2^l.length-1:Nat):Int):=by rw[w64 (by omega) (by omega)];omega
    refine Ev.step (f:=fun k=>(spec_l7More.f k l (e:Int)).bind fun t=>(spec_l7Table.f k s false t a).bind fun u=>if 0≤wrap64 ((u.length:Int)-1)then(if wrap64 ((u.length:Int)-1)<(u.length:Int)then(if rd u (wrap64 ((u.length:Int)-1))≥b then some ((e:Int),true)else spec_ExtraRange.l0 k l a b ((e+1:Nat):Int) s false)else none)else none) (fun k=>?_) (Ev.bind (l7More_ev s false l (e:Int) hc (by omega)) (Ev.bind ht ?_))
    ·simp only[spec_ExtraRange.l0]
     rw[if_pos (by omega),w64s (n:=49) he (by omega)]
    ·rw[tbL_len,hw,tbL_rd s (moreC l (e:Int)) a (show 2^l.length-1<2^l.length by omega)]
     refine ev_pos (by omega) (ev_pos (by omega) ?_)
     have hf:=full_iff (s:=s) (l:=moreC l (e:Int)) (a:=a) (b:=b) (by rw[moreC_len];exact hn) (by omega)
     rw[moreC_len]at hf
     unfold seekE
     by_cases hh:b≤V s (moreC l (e:Int)) a (2^l.length-1)
     ·rw[if_pos (show hitE s l a b e=true from hf.1 hh)]
      exact ev_pos hh (Ev.now _)
     ·rw[if_neg (show ¬hitE s l a b e=true from fun z=>hh (hf.2 z))]
      exact ev_neg hh ih)
  exact key 0 (by omega)
theorem implExtra_ev (s:Int) (r:Bool) (l:List S63) (a b:Int) (hl:l.length≤1048576):Ev (fun k=>impl_ExtraRange.f k s r l a b) (extraR s r l a b):=by
 unfold impl_ExtraRange.f extraR
 refine Ev.bind (isCarried_ev s r l a b hl) ?_
 cases hv:asksV s r l a b with
 | false=>
  simp only[Bool.false_eq_true,if_false]
  exact Ev.now _
 | true=>
  obtain⟨hc,hab⟩:=asks_of hv
  obtain⟨⟨hs,rfl⟩,hn,_⟩:=carV_of hc
  simp only[if_true]
  have key:=down (P:=fun e=>Ev (fun k=>impl_ExtraRange.l0 k l a b (e:Int) s false) (seekE (hitE s l a b) (49-e) e)) (n:=49)
   (ev_now (fun k=>by simp only[impl_ExtraRange.l0];rw[if_neg (by omega)];rfl))
   (fun e he ih=>by
    have e49:49-e=(49-(e+1))+1:=by omega
    rw[e49]
    obtain⟨r2,h3⟩:=reach3_ev s (moreC l (e:Int)) a b hs (more_sane hc (by omega)) (by rw[moreC_len];exact hn) (by omega)
    rw[moreC_len]at h3
    have k2:=down (P:=fun i=>Ev (fun k=>impl_ExtraRange.l1 k l a b (e:Int) (tg i (fun q=>⟨(l.getD q z63).f0,(l.getD q z63).f1+(e:Int),(l.getD q z63).f2⟩)) (e:Int) l (l.length:Int) (i:Int) s false) (seekE (hitE s l a b) (49-(e+1)+1) e)) (n:=l.length)
     (by
      refine Ev.step (f:=fun k=>(reachOrder3.f k s false (moreC l (e:Int)) a b).bind fun t=>if t.2.2=true then some ((e:Int),true)else impl_ExtraRange.l0 k l a b ((e+1:Nat):Int) s false) (fun k=>?_) (Ev.bind h3 ?_)
      ·simp only[impl_ExtraRange.l1]
       rw[if_neg (by omega),w64s (n:=49) he (by omega)]
       rfl
      ·unfold seekE
       by_cases hh:hitE s l a b e=true
       ·rw[if_pos hh]
        exact ev_pos hh (Ev.now _)
       ·rw[if_neg hh]
        exact ev_neg hh ih)
     (fun i hi ih2=>by
      have hcc:=((carV_of hc).2.2 i hi).2.1
      refine Ev.step (fun k=>?_) ih2
      simp only[impl_ExtraRange.l1,rdC_nat]
      rw[if_pos (by omega),if_pos (by omega),if_pos (by omega),tg_len,if_pos (by omega),w64s hi (by omega),w64 (by omega) (by omega),tg_snoc i (fun q=>(⟨(l.getD q z63).f0,(l.getD q z63).f1+(e:Int),(l.getD q z63).f2⟩:S63))])
    refine Ev.step (fun k=>?_) (k2 0 (by omega))
    simp only[impl_ExtraRange.l0]
    rw[if_pos (by omega)]
    rfl)
  exact key 0 (by omega)
theorem l1Own_eq (l:List Int) (h:l.length≤1048576):spec_l1Own.f l=some l:=by
 unfold spec_l1Own.f
 simp only[Option.bind_some,List.length_nil,List.nil_append]
 rw[if_pos (by omega)]
theorem ext_spec (n m many:Nat) (out:List (List Int)) (i:Nat) (hi:i<out.length) (ho: (out.getD i []).length≤1000) (hn:n≤6) (hlo:out.length≤720) (R):
  ∀ x,x≤n→∀ acc:List (List Int),acc.length+(n-x)≤1000000→Ev (fun k=>spec_l7Orders.l1 k (n:Int) (m:Int) out (many:Int) (acc++exO n (out.getD i []) x) ((i+1:Nat):Int)) R→
   Ev (fun k=>spec_l7Orders.l2 k (n:Int) (m:Int) out (many:Int) acc (i:Int) (x:Int)) R:=by
 have hr:rd_L2 out (i:Int)=out.getD i []:=rfl
 refine down (P:=fun x=>∀ acc:List (List Int),acc.length+(n-x)≤1000000→Ev (fun k=>spec_l7Orders.l1 k (n:Int) (m:Int) out (many:Int) (acc++exO n (out.getD i []) x) ((i+1:Nat):Int)) R→Ev (fun k=>spec_l7Orders.l2 k (n:Int) (m:Int) out (many:Int) acc (i:Int) (x:Int)) R) ?_ ?_
 ·intro acc _ h
  rw[exO_end,List.append_nil]at h
  refine Ev.step (fun k=>?_) h
  simp only[spec_l7Orders.l2]
  rw[if_neg (by omega),w64 (by omega) (by omega)]
  rfl
 ·intro x hx ih acc hb h
  rw[exO_step _ hx]at h
  refine Ev.step (f:=fun k=>(spec_l1Has.f k (out.getD i []) (x:Int)).bind fun t=>if t=true then spec_l7Orders.l2 k (n:Int) (m:Int) out (many:Int) acc (i:Int) ((x+1:Nat):Int)else spec_l7Orders.l2 k (n:Int) (m:Int) out (many:Int) (acc++[out.getD i []++[(x:Int)]]) (i:Int) ((x+1:Nat):Int)) (fun k=>?_) (Ev.bind (l1Has_ev _ _ ho) ?_)
  ·simp only[spec_l7Orders.l2,hr,l1Own_eq _ (show(out.getD i []).length≤1048576 by omega),Option.bind_some]
   rw[if_pos (by omega),if_pos (by omega),if_pos (by omega),if_pos (by omega),if_pos (by omega),w64s hx (by omega)]
  ·by_cases hm: (x:Int)∈out.getD i []
   ·rw[if_pos hm]at h
    exact ev_pos (decide_eq_true hm) (ih acc (by omega) h)
   ·rw[if_neg hm]at h
    refine ev_neg (by simpa using hm) (ih _ (by simp;omega) ?_)
    rw[List.append_assoc,List.singleton_append]
    exact h
theorem level_spec (n m many:Nat) (out:List (List Int)) (ho:∀ o∈out,okO n o) (hn:n≤6) (hl:out.length≤720) (R)
  (h:Ev (fun k=>spec_l7Orders.l0 k (n:Int) (m:Int) (out.flatMap (fun o=>exO n o 0)) (wrap64 ((many:Int)+1))) R):
  Ev (fun k=>spec_l7Orders.l1 k (n:Int) (m:Int) out (many:Int) [] 0) R:=by
 have key:=down (P:=fun i=>∀ acc:List (List Int),acc.length+(out.length-i)*6≤1000000→Ev (fun k=>spec_l7Orders.l0 k (n:Int) (m:Int) (acc++(out.drop i).flatMap (fun o=>exO n o 0)) (wrap64 ((many:Int)+1))) R→Ev (fun k=>spec_l7Orders.l1 k (n:Int) (m:Int) out (many:Int) acc (i:Int)) R) (n:=out.length)
  (fun acc _ h=>by
   rw[List.drop_length,List.flatMap_nil,List.append_nil]at h
   refine Ev.step (fun k=>?_) h
   simp only[spec_l7Orders.l1]
   rw[if_neg (by omega)])
  (fun i hi ih acc hb h=>by
   have hg:out.getD i []∈out:=by rw[List.getD_eq_getElem?_getD,List.getElem?_eq_getElem hi];exact List.getElem_mem hi
   have hok:=ho _ hg
   have hx:=exO_len n (out.getD i []) 0
   refine Ev.step (f:=fun k=>spec_l7Orders.l2 k (n:Int) (m:Int) out (many:Int) acc (i:Int) ((0:Nat):Int)) (fun k=>?_) ?_
   ·simp only[spec_l7Orders.l1]
    rw[if_pos (by omega)]
    rfl
   ·refine ext_spec n m many out i hi hok.1 hn hl R 0 (by omega) acc (by omega) (ih _ (by rw[List.length_append];omega) ?_)
    rw[drop_consG [] hi,List.flatMap_cons]at h
    rw[List.append_assoc]
    exact h)
 refine key 0 (by omega) [] (by simp;omega) ?_
 simpa using h
theorem l7Orders_ev (n m:Nat) (hn:n≤6) (hm:m≤n):Ev (fun k=>spec_l7Orders.f k (n:Int) (m:Int)) (lv n m):=by
 have key:=down (P:=fun j=>Ev (fun k=>spec_l7Orders.l0 k (n:Int) (m:Int) (lv n j) (j:Int)) (lv n m)) (n:=m)
  (ev_now (fun k=>by simp only[spec_l7Orders.l0];rw[if_neg (by omega)]))
  (fun j hj ih=>by
   refine Ev.step (f:=fun k=>spec_l7Orders.l1 k (n:Int) (m:Int) (lv n j) (j:Int) [] 0) (fun k=>by simp only[spec_l7Orders.l0];rw[if_pos (show(j:Int)<(m:Int)by omega)]) ?_
   refine level_spec n m j (lv n j) (fun o h=>lv_okO (by omega) h) hn ((lv_sizes n hn).1 j (by omega)) _ ?_
   rw[w64s hj (by omega)]
   exact ih)
 exact key 0 (by omega)
theorem specOrder_ev (s:Int) (r:Bool) (l:List S63) (a b:Int) (hl:l.length≤1048576):Ev (fun k=>spec_ReachOrder.f k s r l a b) (orderR s r l a b):=by
 unfold spec_ReachOrder.f orderR
 refine Ev.bind (l7Asks_ev s r l a b hl) ?_
 cases hv:asksV s r l a b with
 | false=>
  simp only[Bool.false_eq_true,if_false]
  exact Ev.now _
 | true=>
  obtain⟨hc,hab⟩:=asks_of hv
  obtain⟨⟨hs,rfl⟩,hn,_⟩:=carV_of hc
  simp only[if_true]
  have key:=down (P:=fun m=>Ev (fun k=>spec_ReachOrder.l0 k l a b (m:Int) s false) (match seek (fun o=>decide (b≤rch s l o a)) l.length (l.length+1-m) m with|some o=>(o,true)|none=>([],false))) (n:=l.length+1)
   (ev_now (fun k=>by simp only[spec_ReachOrder.l0];rw[if_neg (by omega),Nat.sub_self];rfl))
   (fun m hm ih=>by
    have e:l.length+1-m=(l.length+1-(m+1))+1:=by omega
    rw[e]
    refine Ev.step (f:=fun k=>(spec_l7Orders.f k (l.length:Int) (m:Int)).bind fun t=>spec_ReachOrder.l1 k l a b (m:Int) t 0 s false) (fun k=>by simp only[spec_ReachOrder.l0];rw[if_pos (show(m:Int)≤(l.length:Int)by omega)]) (Ev.bind (l7Orders_ev l.length m hn (by omega)) ?_)
    have k2:=down (P:=fun i=>Ev (fun k=>spec_ReachOrder.l1 k l a b (m:Int) (lv l.length m) (i:Int) s false) (match((lv l.length m).drop i).find? (fun o=>decide (b≤rch s l o a))with|some o=>(o,true)|none=>(match seek (fun o=>decide (b≤rch s l o a)) l.length (l.length+1-(m+1)) (m+1)with|some o=>(o,true)|none=>([],false)))) (n:=(lv l.length m).length)
     (by
      rw[List.drop_length,List.find?_nil]
      refine Ev.step (fun k=>?_) ih
      simp only[spec_ReachOrder.l1]
      rw[if_neg (by omega),w64s (n:=l.length+1) hm (by omega)])
     (fun i hi ih2=>by
      have hz:=(lv_sizes l.length hn).1 m (by omega)
      have hg: (lv l.length m).getD i []∈lv l.length m:=by rw[List.getD_eq_getElem?_getD,List.getElem?_eq_getElem hi];exact List.getElem_mem hi
      have hr:=l7Reach_ev s l _ a hs (sane_of hc) (lv_okO (by omega) hg) (by omega)
      rw[drop_consG [] hi,List.find?_cons]
      refine Ev.step (f:=fun k=>(spec_l7Reach.f k s false l ((lv l.length m).getD i []) a).bind fun t=>if t≥b then some ((lv l.length m).getD i [],true)else spec_ReachOrder.l1 k l a b (m:Int) (lv l.length m) ((i+1:Nat):Int) s false) (fun k=>?_) (Ev.bind hr ?_)
      ·simp only[spec_ReachOrder.l1,show rd_L2 (lv l.length m) (i:Int)=(lv l.length m).getD i []from rfl]
       rw[if_pos (by omega),if_pos (by omega),w64s hi (by omega)]
      ·by_cases hh:b≤rch s l ((lv l.length m).getD i []) a
       ·rw[decide_eq_true hh]
        exact ev_pos hh (Ev.now _)
       ·rw[decide_eq_false hh]
        exact ev_neg hh ih2)
    have k20:=k2 0 (by omega)
    rw[List.drop_zero]at k20
    unfold seek
    cases hf: (lv l.length m).find? (fun o=>decide (b≤rch s l o a))with
    | some o=>rw[hf]at k20;exact k20
    | none=>rw[hf]at k20;exact k20)
  exact key 0 (by omega)
theorem and255w (x:Int):0≤wrap64 (Go.bits .and .u64 (IntKind.u64.wrap x/ 1099511627776) 255)∧wrap64 (Go.bits .and .u64 (IntKind.u64.wrap x/ 1099511627776) 255)≤255:=by
 have:=and255 x
 rw[w64 (by omega) (by omega)]
 exact this
theorem cur_next {l:List Int} (hb:∀ x∈l,0≤x∧x≤255) (s1 s2:Int) (h0:0≤s1) (h1:s1≤1000000):∃ v s,spec_l1Cur_next.f l s1 s2=some (v,s1+1,s)∧0≤v∧v≤255:=by
 unfold spec_l1Cur_next.f
 rw[w64 (x:=s1+1) (by omega) (by omega)]
 by_cases c:s1<(l.length:Int)
 ·have hm:rd l s1∈l:=by
   obtain⟨n,rfl⟩:=Int.eq_ofNat_of_zero_le h0
   unfold rd
   rw[Int.toNat_natCast,List.getD_eq_getElem?_getD,List.getElem?_eq_getElem (by omega)]
   exact List.getElem_mem _
  have hv:=hb _ hm
  rw[if_pos c,if_pos h0,if_pos (by omega)]
  exact⟨_,_,rfl,by rw[w64 (by omega) (by omega)];exact hv⟩
 ·rw[if_neg c,if_neg (by omega)]
  exact⟨_,_,rfl,and255w _⟩
theorem cur_pick {l:List Int} (hb:∀ x∈l,0≤x∧x≤255) (s1 s2 a:Int) (h0:0≤s1) (h1:s1≤1000000) (ha:2≤a∧a≤200):∃ v s,spec_l1Cur_pick.f l s1 s2 a=some (v,s1+1,s)∧0≤v∧v<a:=by
 obtain⟨v,s,h,v0,v1⟩:=cur_next hb s1 s2 h0 h1
 unfold spec_l1Cur_pick.f
 rw[if_neg (by omega),h]
 simp only[Option.bind_some]
 rw[if_neg (by omega),if_neg (by omega)]
 exact⟨_,_,rfl,Int.tmod_nonneg _ v0,Int.tmod_lt_of_pos _ (by omega)⟩
theorem cur_among {l:List Int} (hb:∀ x∈l,0≤x∧x≤255) (s1 s2:Int) (L:List Int) (h0:0≤s1) (h1:s1≤1000000) (ha:2≤L.length∧L.length≤200):∃ v s,spec_l1Cur_among.f l s1 s2 L=some (v,s1+1,s)∧v∈L:=by
 obtain⟨v,s,h,v0,v1⟩:=cur_pick hb s1 s2 (L.length:Int) h0 h1 (by omega)
 unfold spec_l1Cur_among.f
 rw[h]
 simp only[Option.bind_some]
 rw[if_pos v0,if_pos v1]
 refine⟨_,_,rfl,?_⟩
 obtain⟨n,rfl⟩:=Int.eq_ofNat_of_zero_le v0
 unfold rd
 rw[Int.toNat_natCast,List.getD_eq_getElem?_getD,List.getElem?_eq_getElem (by omega)]
 exact List.getElem_mem _
theorem cur_one {l:List Int} (hb:∀ x∈l,0≤x∧x≤255) (s1 s2 a:Int) (h0:0≤s1) (h1:s1≤1000000) (ha:2≤a∧a≤200):∃ b s,spec_l1Cur_one.f l s1 s2 a=some (b,s1+1,s):=by
 obtain⟨v,s,h,v0,v1⟩:=cur_pick hb s1 s2 a h0 h1 ha
 unfold spec_l1Cur_one.f
 rw[h]
 exact⟨_,_,rfl⟩
theorem dr_pickn {l:List Int} (hb:∀ x∈l,0≤x∧x≤255) (s1 s2 a:Int) (h0:0≤s1) (h1:s1≤100000) (ha:1≤a∧a≤200):∃ v t s,spec_l1Cur_pick.f l s1 s2 a=some (v,t,s)∧(s1≤t∧t≤s1+1)∧0≤v∧v<a:=by
 by_cases c:a≤1
 ·unfold spec_l1Cur_pick.f
  rw[if_pos c]
  exact⟨0,s1,s2,rfl,by omega,by omega⟩
 ·obtain⟨v,s,h,hv⟩:=cur_pick hb s1 s2 a h0 (by omega) (by omega)
  exact⟨v,s1+1,s,h,by omega,hv⟩
theorem dr_size {l:List Int} (hb:∀ x∈l,0≤x∧x≤255) (s1 s2:Int) (h0:0≤s1) (h1:s1≤90000):∃ v s,spec_l1Cur_size.f l s1 s2=some (v,s1+2,s):=by
 obtain⟨b,s,ho⟩:=cur_one hb s1 s2 40 h0 (by omega) (by omega)
 unfold spec_l1Cur_size.f
 simp only[ho,Option.bind_some]
 cases b with
 | true=>
  obtain⟨u,t,ha,_⟩:=cur_among hb (s1+1) s [1,2,24,25,0,(-1),4611686018427387904] (by omega) (by omega) (by simp)
  rw[if_pos rfl,ha]
  exact⟨u,t,by simp only[Option.bind_some];rw[show s1+1+1=s1+2 by omega]⟩
 | false=>
  obtain⟨u,t,ha,_⟩:=cur_among hb (s1+1) s [5,6,4,8,3,10,7,13,24,2] (by omega) (by omega) (by simp)
  rw[if_neg (by decide),ha]
  exact⟨u,t,by simp only[Option.bind_some];rw[show s1+1+1=s1+2 by omega]⟩
theorem dr_line {l:List Int} (hb:∀ x∈l,0≤x∧x≤255) (s1 s2:Int) (h0:0≤s1) (h1:s1≤90000):∃ v s,spec_l1Cur_line.f l s1 s2=some (v,false,s1+2,s):=by
 obtain⟨v,s,h⟩:=dr_size hb s1 s2 h0 h1
 unfold spec_l1Cur_line.f
 rw[h]
 exact⟨v,s,rfl⟩
theorem dr_road {l:List Int} (hb:∀ x∈l,0≤x∧x≤255) (s1 s2:Int) (h0:0≤s1) (h1:s1≤80000):∃ v r t s,spec_l1Cur_road.f l s1 s2=some (v,r,t,s)∧s1≤t∧t≤s1+10:=by
 obtain⟨b,s,ho⟩:=cur_one hb s1 s2 2 h0 (by omega) (by omega)
 unfold spec_l1Cur_road.f
 simp only[ho,Option.bind_some]
 cases b with
 | true=>
  obtain⟨v,t,hs⟩:=dr_line hb (s1+1) s (by omega) (by omega)
  rw[if_pos rfl]
  simp only[hs,Option.bind_some]
  exact⟨v,false,s1+1+2,t,rfl,by omega,by omega⟩
 | false=>
  obtain⟨v,t,hs⟩:=dr_size hb (s1+1) s (by omega) (by omega)
  rw[if_neg (by decide)]
  unfold spec_l1Cur_ring.f
  simp only[hs,Option.bind_some]
  by_cases c:v=2
  ·obtain⟨b2,u,ho2⟩:=cur_one hb (s1+1+2) t 4 (by omega) (by omega) (by omega)
   rw[if_pos c]
   simp only[ho2,Option.bind_some]
   cases b2 with
   | true=>exact⟨v,true,s1+1+2+1,u,by rw[if_pos rfl];rfl,by omega,by omega⟩
   | false=>exact⟨3,true,s1+1+2+1,u,by rw[if_neg (by decide)];rfl,by omega,by omega⟩
  ·rw[if_neg c]
   exact⟨v,true,s1+1+2,t,rfl,by omega,by omega⟩
theorem dr_place {l:List Int} (hb:∀ x∈l,0≤x∧x≤255) (s1 s2:Int) (h0:0≤s1) (h1:s1≤80000) (sz:Int) (rg:Bool):∃ v t s,spec_l1Cur_placeOn.f l s1 s2 sz rg=some (v,t,s)∧s1≤t∧t≤s1+10:=by
 obtain⟨b,s,ho⟩:=cur_one hb s1 s2 30 h0 (by omega) (by omega)
 unfold spec_l1Cur_placeOn.f
 simp only[ho,Option.bind_some]
 cases b with
 | true=>
  obtain⟨u,t,ha,_⟩:=cur_among hb (s1+1) s [(-1),0,sz,wrap64 (sz-1),4611686018427387904] (by omega) (by omega) (by simp)
  rw[if_pos rfl,ha]
  exact⟨u,s1+1+1,t,rfl,by omega,by omega⟩
 | false=>
  have hmn:=mn_le sz 24
  have hmx:=mx_ge (mn sz 24) 1
  obtain⟨v,t,u,hp,t0,_⟩:=dr_pickn hb (s1+1) s (mx (mn sz 24) 1) (by omega) (by omega) (by omega)
  rw[if_neg (by decide)]
  simp only[l1Least_eq,l1Most_eq,hp,Option.bind_some]
  exact⟨v,t,u,rfl,by omega,by omega⟩
def crOk (m:Int) (f:Nat→Option (List S63 × Int × Int)):Prop:=∃ r,Ev f r∧r.1.length≤100∧0≤r.2.1∧r.2.1≤m
theorem cr_l1 (l:List Int) (s1 s2 M:Int) (h0:0≤s1) (h1:s1≤M):∀ (m:Nat) (x:List S63),x.length≤50→7-x.length≤m→crOk M (fun k=>spec_l1Cur_carriers7.l1 k x l s1 s2)
 | 0,x,hl,hm=>⟨(x,s1,s2),ev_now (fun k=>by simp only[spec_l1Cur_carriers7.l1];rw[if_neg (by omega)]),by simp only;omega⟩
 | m+1,x,hl,hm=>by
  by_cases c: (x.length:Int)<7
  ·obtain⟨r,h,hr⟩:=cr_l1 l s1 s2 M h0 h1 m (x++[⟨0,0,0⟩]) (by simp;omega) (by simp;omega)
   exact⟨r,Ev.step (fun k=>by simp only[spec_l1Cur_carriers7.l1];rw[if_pos c,if_pos (by omega)]) h,hr⟩
  ·exact⟨(x,s1,s2),ev_now (fun k=>by simp only[spec_l1Cur_carriers7.l1];rw[if_neg c]),by simp only;omega⟩
theorem cr_l0 {l:List Int} (hb:∀ x∈l,0≤x∧x≤255) (sz:Int) (rg:Bool) (M:Int) (hM:M≤80000):∀ (c:Nat) (x:List S63) (s1 s2:Int),x.length+c≤40→0≤s1→s1+3*c+5≤M→crOk M (fun k=>spec_l1Cur_carriers7.l0 k x (c:Int) l s1 s2 sz rg)
 | 0,x,s1,s2,hx,h0,h1=>by
  obtain⟨v,s,hp,v0,v1⟩:=cur_pick hb s1 s2 30 h0 (by omega) (by omega)
  by_cases c0:v=0
  ·obtain⟨u,t,ha,_⟩:=cur_among hb (s1+1) s [(-1),sz,0] (by omega) (by omega) (by simp)
   obtain⟨u2,t2,ha2,_⟩:=cur_among hb (s1+1+1) t [48,49,(-1)] (by omega) (by omega) (by simp)
   exact⟨(x++[⟨u,u2,0⟩],s1+1+1+1,t2),ev_now (fun k=>by
    simp only[spec_l1Cur_carriers7.l0,hp,Option.bind_some]
    rw[if_neg (by omega),if_pos c0]
    simp only[ha,ha2,Option.bind_some]
    rw[if_pos (by omega)]),by simp;omega⟩
  ·by_cases c1:v=1
   ·obtain⟨r,h,hr⟩:=cr_l1 l (s1+1) s M (by omega) (by omega) 7 x (by omega) (by omega)
    exact⟨r,Ev.step (fun k=>by
     simp only[spec_l1Cur_carriers7.l0,hp,Option.bind_some]
     rw[if_neg (by omega),if_neg c0,if_pos c1]) h,hr⟩
   ·exact⟨(x,s1+1,s),ev_now (fun k=>by
     simp only[spec_l1Cur_carriers7.l0,hp,Option.bind_some]
     rw[if_neg (by omega),if_neg c0,if_neg c1]),by simp only;omega⟩
 | c+1,x,s1,s2,hx,h0,h1=>by
  have hmn:=mn_le sz 24
  have hmx:=mx_ge 1 (mn sz 24)
  obtain⟨v,t,s,hp,t0,_⟩:=dr_pickn hb s1 s2 (mx 1 (mn sz 24)) h0 (by omega) (by omega)
  obtain⟨u,t2,ha,_⟩:=cur_among hb t s [3,5,2,8,0,12] (by omega) (by omega) (by simp)
  obtain⟨u2,t3,ha2,_⟩:=cur_among hb (t+1) t2 [1,2,0,3,20] (by omega) (by omega) (by simp)
  obtain⟨r,h,hr⟩:=cr_l0 hb sz rg M hM c (x++[⟨v,u,u2⟩]) (t+1+1) t3 (by simp;omega) (by omega) (by omega)
  exact⟨r,Ev.step (fun k=>by
   simp only[spec_l1Cur_carriers7.l0,l1Least_eq,l1Most_eq,hp,ha,ha2,Option.bind_some]
   rw[if_pos (by omega),if_pos (by omega),w64 (x:=((c+1:Nat):Int)-1) (by omega) (by omega),show((c+1:Nat):Int)-1=(c:Int)by omega]) h,hr⟩
theorem carriers7_ok {l:List Int} (hb:∀ x∈l,0≤x∧x≤255) (s1 s2:Int) (h0:0≤s1) (h1:s1≤70000) (sz:Int) (rg:Bool):crOk (s1+30) (fun k=>spec_l1Cur_carriers7.f k l s1 s2 sz rg):=by
 obtain⟨n,t2,ha2,hn⟩:=cur_among hb s1 s2 [3,2,4,1,0,5] (by omega) (by omega) (by simp)
 have hn2:0≤n∧n≤5:=by
  simp only[List.mem_cons,List.not_mem_nil,or_false]at hn
  omega
 obtain⟨c,rfl⟩:=Int.eq_ofNat_of_zero_le hn2.1
 obtain⟨r,h,hr⟩:=cr_l0 hb sz rg (s1+30) (by omega) c [] (s1+1) t2 (by simp;omega) (by omega) (by omega)
 refine⟨r,?_,hr⟩
 unfold spec_l1Cur_carriers7.f
 simp only[ha2,Option.bind_some]
 exact h
def askOk (f:Nat→Option (Int × Bool × List S63 × Int × Int × Int × Int)):Prop:=∃ r,Ev f r∧r.2.2.1.length≤100∧0≤r.2.2.2.2.2.1∧r.2.2.2.2.2.1≤1000
theorem ask_j0 {l:List Int} (hb:∀ x∈l,0≤x∧x≤255) (s1 s2:Int) (h0:0≤s1) (h1:s1≤500) (sz:Int) (rg:Bool):askOk (fun k=>spec_l1Cur_ask7.j0 k l s1 s2 sz rg):=by
 have hmn:=mn_le sz 24
 have hmx:=mx_ge 1 (mn sz 24)
 obtain⟨v,t,s,hp,t0,v0,v1⟩:=dr_pickn hb s1 s2 (mx 1 (mn sz 24)) h0 (by omega) (by omega)
 have hw:wrap64 (mx 1 (mn sz 24)-v)=mx 1 (mn sz 24)-v:=w64 (by omega) (by omega)
 obtain⟨v2,t2,s',hp2,t3,_⟩:=dr_pickn hb t s (mx 1 (mn sz 24)-v) (by omega) (by omega) (by omega)
 obtain⟨b,u,ho⟩:=cur_one hb t2 s' 16 (by omega) (by omega) (by omega)
 cases b with
 | true=>
  obtain⟨w,t4,u2,hq,q0,q1⟩:=dr_place hb (t2+1) u (by omega) (by omega) sz rg
  obtain⟨r,h,hr⟩:=carriers7_ok hb t4 u2 (by omega) (by omega) sz rg
  refine⟨(sz,rg,r.1,v,w,r.2.1,r.2.2),Ev.step (f:=fun k=>(spec_l1Cur_carriers7.f k l t4 u2 sz rg).bind fun y=>some (sz,rg,y.1,v,w,y.2.1,y.2.2)) (fun k=>?_) (Ev.bind h (Ev.now _)),hr.1,hr.2.1,by simp only;omega⟩
  simp only[spec_l1Cur_ask7.j0,l1Least_eq,l1Most_eq,hp,hw,hp2,ho,Option.bind_some]
  rw[if_pos True.intro]
  simp only[hq,Option.bind_some]
 | false=>
  obtain⟨r,h,hr⟩:=carriers7_ok hb (t2+1) u (by omega) (by omega) sz rg
  refine⟨(sz,rg,r.1,v,wrap64 (v+v2),r.2.1,r.2.2),Ev.step (f:=fun k=>(spec_l1Cur_carriers7.f k l (t2+1) u sz rg).bind fun y=>some (sz,rg,y.1,v,wrap64 (v+v2),y.2.1,y.2.2)) (fun k=>?_) (Ev.bind h (Ev.now _)),hr.1,hr.2.1,by simp only;omega⟩
  simp only[spec_l1Cur_ask7.j0,l1Least_eq,l1Most_eq,hp,hw,hp2,ho,Option.bind_some]
  rw[if_neg (by decide)]
theorem ask7_ok {l:List Int} (hb:∀ x∈l,0≤x∧x≤255):askOk (fun k=>spec_l1Cur_ask7.f k l 0 0):=by
 obtain⟨v,s,hl⟩:=dr_line hb 0 0 (by omega) (by omega)
 obtain⟨b,u,ho⟩:=cur_one hb (0+2) s 24 (by omega) (by omega) (by omega)
 cases b with
 | true=>
  obtain⟨v2,r2,t,w,hr,q0,q1⟩:=dr_road hb (0+2+1) u (by omega) (by omega)
  obtain⟨r,h,hh⟩:=ask_j0 hb t w (by omega) (by omega) v2 r2
  refine⟨r,Ev.congr (fun k=>?_) h,hh⟩
  unfold spec_l1Cur_ask7.f
  simp only[hl,ho,Option.bind_some]
  rw[if_pos True.intro]
  simp only[hr,Option.bind_some]
 | false=>
  obtain⟨r,h,hh⟩:=ask_j0 hb (0+2+1) u (by omega) (by omega) v false
  refine⟨r,Ev.congr (fun k=>?_) h,hh⟩
  unfold spec_l1Cur_ask7.f
  simp only[hl,ho,Option.bind_some]
  rw[if_neg (by decide)]
theorem drawRO_ok {l:List Int} (hb:∀ x∈l,0≤x∧x≤255):∃ r:Int × Bool × List S63 × Int × Int,Ev (fun k=>spec_DrawReachOrder.f k l) r∧r.2.2.1.length≤100:=by
 obtain⟨r,h,hr⟩:=ask7_ok hb
 refine⟨(r.1,r.2.1,r.2.2.1,r.2.2.2.1,r.2.2.2.2.1),?_,hr.1⟩
 unfold spec_DrawReachOrder.f
 exact Ev.bind h (Ev.now _)
theorem drawGR_ok {l:List Int} (hb:∀ x∈l,0≤x∧x≤255):∃ r:Int × Bool × List S63 × Int,Ev (fun k=>spec_DrawGreatestReach.f k l) r∧r.2.2.1.length≤100:=by
 obtain⟨r,h,hr⟩:=ask7_ok hb
 refine⟨(r.1,r.2.1,r.2.2.1,r.2.2.2.1),?_,hr.1⟩
 unfold spec_DrawGreatestReach.f
 exact Ev.bind h (Ev.now _)
def drOk (f:Nat→Option (Int × Bool × List S63 × List Int × Int)):Prop:=∃ r,Ev f r∧r.2.2.1.length≤100∧r.2.2.2.1.length≤200
theorem dr_j2 {l:List Int} (hb:∀ x∈l,0≤x∧x≤255) (s1 s2:Int) (h0:0≤s1) (h1:s1≤3000) (L:List S63) (a:Int) (o:List Int) (hL:L.length≤100) (ho:o.length≤150) (sz:Int) (rg:Bool):drOk (fun k=>spec_DrawOrderReach.j2 k L a o l s1 s2 sz rg):=by
 obtain⟨b,s,hn⟩:=cur_one hb s1 s2 24 h0 (by omega) (by omega)
 cases b with
 | true=>
  obtain⟨v,t,ha,_⟩:=cur_among hb (s1+1) s [(-1),0,6] (by omega) (by omega) (by simp)
  exact⟨(sz,rg,L,o++[v],a),ev_now (fun k=>by
   simp only[spec_DrawOrderReach.j2,hn,Option.bind_some]
   rw[if_pos True.intro]
   simp only[ha,Option.bind_some]
   rw[if_pos (by omega)]),hL,by simp;omega⟩
 | false=>
  exact⟨(sz,rg,L,o,a),ev_now (fun k=>by
   simp only[spec_DrawOrderReach.j2,hn,Option.bind_some]
   rw[if_neg (by decide)]),hL,by simp only;omega⟩
theorem dr_j1 {l:List Int} (hb:∀ x∈l,0≤x∧x≤255) (s1 s2:Int) (h0:0≤s1) (h1:s1≤3000) (L:List S63) (a:Int) (o:List Int) (b:Bool) (hbo:b=true→1≤o.length) (hL:L.length≤100) (ho:o.length≤150) (sz:Int) (rg:Bool):drOk (fun k=>spec_DrawOrderReach.j1 k L a o b l s1 s2 sz rg):=by
 cases b with
 | true=>
  have:=hbo rfl
  obtain⟨r,h,hr⟩:=dr_j2 hb s1 s2 h0 h1 L a (o.drop (1:Int).toNat) hL (by rw[List.length_drop];omega) sz rg
  exact⟨r,Ev.step (fun k=>by simp only[spec_DrawOrderReach.j1];rw[if_pos True.intro,if_pos (by omega)]) h,hr⟩
 | false=>
  obtain⟨r,h,hr⟩:=dr_j2 hb s1 s2 h0 h1 L a o hL ho sz rg
  exact⟨r,Ev.step (fun k=>by simp only[spec_DrawOrderReach.j1];rw[if_neg (by decide)]) h,hr⟩
theorem dr_l0 {l:List Int} (hb:∀ x∈l,0≤x∧x≤255) (L:List S63) (a:Int) (hL:L.length≤100) (sz:Int) (rg:Bool):∀ (c x:Nat) (o:List Int) (s1 s2:Int),x+c=L.length→o.length=x→0≤s1→s1+c≤2000→drOk (fun k=>spec_DrawOrderReach.l0 k L a o (x:Int) l s1 s2 sz rg)
 | 0,x,o,s1,s2,hx,hox,h0,h1=>by
  by_cases c: (o.length:Int)>0
  ·obtain⟨b,s,hn⟩:=cur_one hb s1 s2 4 h0 (by omega) (by omega)
   obtain⟨r,h,hr⟩:=dr_j1 hb (s1+1) s (by omega) (by omega) L a o b (fun _=>by omega) hL (by omega) sz rg
   exact⟨r,Ev.step (fun k=>by
    simp only[spec_DrawOrderReach.l0]
    rw[if_neg (by omega),if_pos c]
    simp only[hn,Option.bind_some]) h,hr⟩
  ·obtain⟨r,h,hr⟩:=dr_j1 hb s1 s2 (by omega) (by omega) L a o false (fun h=>absurd h (by decide)) hL (by omega) sz rg
   exact⟨r,Ev.step (fun k=>by
    simp only[spec_DrawOrderReach.l0]
    rw[if_neg (by omega),if_neg c]) h,hr⟩
 | c+1,x,o,s1,s2,hx,hox,h0,h1=>by
  have hw:wrap64 ((o.length:Int)+1)=(o.length:Int)+1:=w64 (by omega) (by omega)
  obtain⟨v,t,s,hp,t0,v0,v1⟩:=dr_pickn hb s1 s2 ((o.length:Int)+1) h0 (by omega) (by omega)
  have htl: (o.take v.toNat).length=v.toNat:=by rw[List.length_take];omega
  have hdl: (o.drop v.toNat).length=o.length-v.toNat:=List.length_drop
  have ht: (o.take v.toNat).length≤1048576:=by omega
  obtain⟨r,h,hr⟩:=dr_l0 hb L a hL sz rg c (x+1) (o.take v.toNat++[(x:Int)]++o.drop v.toNat) t s (by omega) (by rw[List.length_append,List.length_append,htl,hdl,List.length_singleton];omega) (by omega) (by omega)
  refine⟨r,Ev.step (fun k=>?_) h,hr⟩
  simp only[spec_DrawOrderReach.l0,hw,hp,l1Own_eq _ ht,Option.bind_some]
  rw[if_pos (by omega),if_pos v0,if_pos (by omega),if_pos (by rw[htl,List.length_singleton];omega),if_pos (by rw[List.length_append,htl,hdl,List.length_singleton];omega),w64 (x:=(x:Int)+1) (by omega) (by omega)]
  rfl
theorem drawOR_ok {l:List Int} (hb:∀ x∈l,0≤x∧x≤255):∃ r:Int × Bool × List S63 × List Int × Int,Ev (fun k=>spec_DrawOrderReach.f k l) r∧r.2.2.1.length≤100∧r.2.2.2.1.length≤200:=by
 obtain⟨r,h,hr⟩:=ask7_ok hb
 obtain⟨q,h2,hq⟩:=dr_l0 hb r.2.2.1 r.2.2.2.1 hr.1 r.1 r.2.1 r.2.2.1.length 0 [] r.2.2.2.2.2.1 r.2.2.2.2.2.2 (by omega) rfl hr.2.1 (by omega)
 refine⟨q,?_,hq⟩
 unfold spec_DrawOrderReach.f
 exact Ev.bind h h2
theorem vCut_ok {l:List Int} (hb:∀ x∈l,0≤x∧x≤255) (hl:l.length≤65536) (a:Int) (ha:0≤a):∃ l',laws_vCut.f l a=some l'∧∀ x∈l',0≤x∧x≤255:=by
 unfold laws_vCut.f
 have hd:∀ n,(l.drop n).length≤65536:=fun n=>by rw[List.length_drop];omega
 have hmem:∀ (n:Nat) (y:Int),0≤y∧y≤255→∀ x∈([]++l.drop n)++[y],0≤x∧x≤255:=fun n y hy x hx=>by
  rcases List.mem_append.1 hx with hx|hx
  ·rw[List.nil_append]at hx
   exact hb x (List.mem_of_mem_drop hx)
  ·rw[List.mem_singleton.1 hx];exact hy
 by_cases c:a>(l.length:Int)
 ·rw[if_pos c]
  have h1:=hd (l.length:Int).toNat
  refine⟨([]++l.drop (l.length:Int).toNat)++[((l.length:Int)) % 256],?_,hmem _ _ (by omega)⟩
  simp only[Option.bind_some]
  rw[if_pos (by omega),if_pos (by omega),if_pos (by simp<;>omega),if_pos (by simp<;>omega)]
 ·rw[if_neg c]
  have h1:=hd a.toNat
  refine⟨([]++l.drop a.toNat)++[a % 256],?_,hmem _ _ (by omega)⟩
  simp only[Option.bind_some]
  rw[if_pos (by omega),if_pos (by omega),if_pos (by simp;omega),if_pos (by simp;omega)]
theorem vInts_self (l:List Int) (hl:l.length≤1048576):Ev (fun k=>laws_vInts.f k l l) true:=by
 unfold laws_vInts.f
 refine ev_pos rfl ?_
 have key:=down (P:=fun i=>Ev (fun k=>laws_vInts.l0 k l l (i:Int)) true) (n:=l.length)
  (ev_now (fun k=>by simp only[laws_vInts.l0];rw[if_neg (by omega)]))
  (fun i hi ih=>Ev.step (fun k=>by
   simp only[laws_vInts.l0]
   rw[if_pos (by omega),if_pos (by omega),if_pos (by omega),w64s hi (by omega)]
   simp) ih)
 exact key 0 (by omega)
theorem nodup_difF {o:List Int} (h:o.Nodup):difF o=true:=by
 refine allF_iff.2 (fun j hj hm=>?_)
 have e:o.take j++(rd o (j:Int)::o.drop (j+1))=o:=by rw[←drop_cons hj,List.take_append_drop]
 rw[←e,List.nodup_append]at h
 exact h.2.2 _ hm _ (List.mem_cons_self ..) rfl
theorem moreC_zero (l:List S63):moreC l 0=l:=by
 refine List.ext_getElem (by rw[moreC_len]) (fun i h1 h2=>?_)
 have e1: (moreC l 0).getD i z63=l.getD i z63:=by
  unfold moreC
  rw[tg_get h2,Int.add_zero]
 rw[List.getD_eq_getElem?_getD,List.getD_eq_getElem?_getD,List.getElem?_eq_getElem h1,List.getElem?_eq_getElem h2,Option.getD_some,Option.getD_some]at e1
 exact e1
theorem seekE_ge (p:Nat→Bool):∀ (j e:Nat),(seekE p j e).2=true→(e:Int)≤(seekE p j e).1
 | 0,e,h=>by simp[seekE]at h
 | j+1,e,h=>by
  unfold seekE at*
  split at h
  ·rename_i hp
   rw[if_pos hp]
   exact Int.le_refl _
  ·rename_i hp
   rw[if_neg hp]
   have:=seekE_ge p j (e+1) h
   omega
theorem extra_ok {s:Int} {r:Bool} {l:List S63} {a b:Int} (h: (extraR s r l a b).2=true): (((extraR s r l a b).1==0) !=(orderR s r l a b).2)=false:=by
 unfold extraR orderR at*
 split at h
 ·rename_i hv
  rw[if_pos hv,if_pos hv]
  have h0:hitE s l a b 0=(seek (fun o=>decide (b≤rch s l o a)) l.length (l.length+1) 0).isSome:=by
   unfold hitE
   rw[show((0:Nat):Int)=0 from rfl,moreC_zero]
  have e:seekE (hitE s l a b) 49 0=if hitE s l a b 0=true then((0:Int),true)else seekE (hitE s l a b) 48 1:=rfl
  rw[e]at h⊢
  cases hk:seek (fun o=>decide (b≤rch s l o a)) l.length (l.length+1) 0 with
  | some o=>
   rw[hk]at h0
   have h0':hitE s l a b 0=true:=h0
   rw[if_pos h0']
   rfl
  | none=>
   rw[hk]at h0
   have h0':¬hitE s l a b 0=true:=by rw[h0];simp
   rw[if_neg h0']at h⊢
   have hg:=seekE_ge (hitE s l a b) 48 1 h
   have hne: ((seekE (hitE s l a b) 48 1).1==0)=false:=by
    rw[beq_eq_false_iff_ne]
    omega
   rw[hne]
   rfl
 ·cases h
theorem implGapOf_ev (s a b:Int) (hs:2≤s∧s≤24) (ha:0≤a) (hab:a≤b) (hb:b≤s-1):Ev (fun k=>impl_GapOf.f k s false a b) (b-a,true):=by
 unfold impl_GapOf.f
 refine ev_bind0 (isRoad_eq s false) ?_
 rw[inR_iff.2 hs]
 refine ev_pos rfl ?_
 have hh:Ev (fun k=>impl_Road_has.f k s false [a,b]) true:=by
  unfold impl_Road_has.f
  rw[w64 (by omega) (by omega)]
  have h:=allWithin_ev [a,b] 0 (s-1) (by simp)
  have e:inAll 0 (s-1) [a,b]=true:=by
   rw[inAll_iff]
   intro x hx
   simp only[List.mem_cons,List.not_mem_nil,or_false]at hx
   omega
  rw[e]at h
  exact Ev.bind h (Ev.now _)
 refine Ev.bind hh (ev_pos rfl (ev_bind0 (gap_eq s a b (by omega) (by omega)) ?_))
 have e:mx (a-b) (b-a)=b-a:=by unfold mx;split<;>omega
 rw[e]
 exact Ev.now _
theorem rch_j3 {s:Int} {r:Bool} {l:List S63} {a b:Int} (hl:l.length≤1048576) {A:Int} (hA: (orderR s r l a b).2=true→b-a≤A):Ev (fun k=>laws_FnReaches.j3 k l a b (orderR s r l a b).1 (orderR s r l a b).2 (fewR s r l a b).1 A false s r) true:=by
 cases hok: (orderR s r l a b).2 with
 | false=>exact ev_now (fun k=>by simp only[laws_FnReaches.j3];rw[if_neg (by decide),if_neg (by decide)])
 | true=>
  have hA':=hA hok
  have hfew: (fewR s r l a b).1=((orderR s r l a b).1.length:Int):=rfl
  have hlen:=orderR_len s r l a b
  rw[hfew]
  unfold orderR at hok⊢
  split at hok
  ·rename_i hask
   rw[if_pos hask]
   obtain⟨hc,h0,hab,hb⟩:=asks_of hask
   obtain⟨⟨hs,rfl⟩,hn,_⟩:=carV_of hc
   cases hk:seek (fun o=>decide (b≤rch s l o a)) l.length (l.length+1) 0 with
   | none=>rw[hk]at hok;cases hok
   | some o=>
    obtain⟨h1,m',_,h3,h4⟩:=seek_mem hk
    have hb2:=of_decide_eq_true h1
    have hno:=lv_ok _ _ _ h4
    have hnd:=lv_nodup m' o h4
    have ho1:o.length≤1000:=by omega
    have hV:ordV l.length o=true:=by
     unfold ordV
     rw[nodup_difF hnd,Bool.and_true,inAll_iff]
     intro x hx
     obtain⟨i,rfl,hi⟩:=hno.2 x hx
     omega
    have hcv: (carV s false l&&inR 0 (s-1) a)=true:=by rw[hc,inR_iff.2 ⟨h0,by omega⟩];rfl
    have hor:ordReachR s false l o a=(rch s l o a,true):=by unfold ordReachR;rw[if_pos hcv,if_pos hV]
    have e1:=implOrdReach_ev s false l o a hl ho1
    have hin:=ordReach_in (s:=s) (r:=false) (l:=l) (o:=o) (a:=a) ho1 (by rw[hor])
    rw[hor]at e1 hin
    have hlt:decide ((o.length:Int)>0)=decide (a<b):=by
     refine decide_eq_decide.2 ⟨fun h=>?_,fun h=>?_⟩
     ·by_cases e:a<b
      ·exact e
      ·have hf: (lv l.length 0).find? (fun o=>decide (b≤rch s l o a))=some []:=by
        show List.find? _ [[]]=some []
        rw[List.find?_cons,decide_eq_true (show b≤rch s l [] a by have e0:rch s l [] a=a:=rfl;omega)]
       unfold seek at hk
       rw[hf]at hk
       have:=Option.some.inj hk
       subst this
       simp at h
     ·cases o with
      | nil=>have e0:rch s l [] a=a:=rfl;omega
      | cons x o=>simp only[List.length_cons];omega
    refine Ev.step (f:=fun k=>(impl_OrderReach.f k s false l o a).bind fun u=>(impl_GreatestReach.f k s false l a).bind fun v=>(impl_GapOf.f k s false a b).bind fun w=>if u.2=true then(if v.2=true then(if w.2=true then(if u.1≥b then(if v.1≥b then(if(o.length:Int)=(o.length:Int)then(if A≥w.1 then(some ((decide ((o.length:Int)>0))==(decide (a<b))))else(some false))else(some false))else(some false))else(some false))else(some false))else(some false))else(some false)) (fun k=>?_) ?_
    ·simp only[laws_FnReaches.j3]
     rw[if_neg (by decide),if_pos True.intro]
    ·refine Ev.bind e1 (Ev.bind (implGreat_ev s false l a hl) (Ev.bind (implGapOf_ev s a b hs h0 hab hb) ?_))
     refine ev_pos rfl (ev_pos hin.1 (ev_pos rfl (ev_pos hb2 (ev_pos ?_ (ev_pos rfl (ev_pos hA' ?_))))))
     ·have:=hin.2.1
      simp only at this
      omega
     ·rw[hlt]
      exact ev_const (by simp)
  ·cases hok
theorem rch_j2 {s:Int} {r:Bool} {l:List S63} {a b:Int} (hl:l.length≤1048576) {A:Int} (hA: (orderR s r l a b).2=true→b-a≤A):Ev (fun k=>laws_FnReaches.j2 k l a b (orderR s r l a b).1 (orderR s r l a b).2 (fewR s r l a b).1 (extraR s r l a b).1 (extraR s r l a b).2 A false s r) true:=by
 refine Ev.step (fun k=>?_) (rch_j3 hl hA)
 simp only[laws_FnReaches.j2]
 rw[if_neg (by decide)]
 cases h: (extraR s r l a b).2 with
 | true=>rw[if_pos rfl,extra_ok h]
 | false=>rw[if_neg (by decide)]
theorem rch_j1 {s:Int} {r:Bool} {l:List S63} {a b:Int} (hl:l.length≤1048576) {A:Int} (hA: (orderR s r l a b).2=true→b-a≤A) (s':Int) (r':Bool) (l':List S63) (c:Int):Ev (fun k=>laws_FnReaches.j1 k l a b (orderR s r l a b).1 (orderR s r l a b).2 (fewR s r l a b).1 (extraR s r l a b).1 (extraR s r l a b).2 A c (greatR s' r' l' c).1 (greatR s' r' l' c).2 s r s' r') true:=by
 refine Ev.step (fun k=>?_) (rch_j2 hl hA)
 simp only[laws_FnReaches.j1]
 cases h: (greatR s' r' l' c).2 with
 | true=>
  have hg:=great_in h
  have hs:2≤s'∧s'≤24:=by
   unfold greatR at h
   split at h
   ·rename_i hv
    rw[Bool.and_eq_true]at hv
    exact(carV_of hv.1).1.1
   ·cases h
  rw[if_pos rfl,if_neg (by omega),w64 (x:=s'-1) (by omega) (by omega),decide_eq_false (by omega)]
 | false=>rw[if_neg (by decide)]
theorem rch_j0 {s:Int} {r:Bool} {l:List S63} {a b:Int} (hl:l.length≤1048576) {A:Int} (hA: (orderR s r l a b).2=true→b-a≤A) (s':Int) (r':Bool) (l':List S63) (c:Int) (u:Int) (ur:Bool) (lo:List S63) (o:List Int) (d:Int) (hlo:lo.length≤1048576) (ho:o.length≤1000):Ev (fun k=>laws_FnReaches.j0 k l a b (orderR s r l a b).1 (orderR s r l a b).2 (fewR s r l a b).1 (extraR s r l a b).1 (extraR s r l a b).2 A c (greatR s' r' l' c).1 (greatR s' r' l' c).2 lo d (ordReachR u ur lo o d).1 (ordReachR u ur lo o d).2 false s r s' r' u ur) true:=by
 have h1:=rch_j1 hl hA s' r' l' c
 cases h: (ordReachR u ur lo o d).2 with
 | false=>exact Ev.step (fun k=>by simp only[laws_FnReaches.j0];rw[if_neg (by decide),if_neg (by decide)]) h1
 | true=>
  have hin:=ordReach_in ho h
  refine Ev.step (f:=fun k=>(impl_GreatestReach.f k u ur lo d).bind fun v=>if v.2=true then(if(ordReachR u ur lo o d).1>v.1 then some false else if(ordReachR u ur lo o d).1<d then some false else laws_FnReaches.j1 k l a b (orderR s r l a b).1 (orderR s r l a b).2 (fewR s r l a b).1 (extraR s r l a b).1 (extraR s r l a b).2 A c (greatR s' r' l' c).1 (greatR s' r' l' c).2 s r s' r')else some false) (fun k=>?_) ?_
  ·simp only[laws_FnReaches.j0]
   rw[if_neg (by decide),if_pos True.intro]
  ·refine Ev.bind (implGreat_ev u ur lo d hlo) (ev_pos hin.1 (ev_neg ?_ (ev_neg ?_ h1)))
   ·have:=hin.2.1;omega
   ·have:=hin.2.2;omega
set_option maxHeartbeats 2000000 in
theorem FnReaches:FnReachesLeft:=by
 intro code _ hwf
 have hb:∀ x∈code,0≤x∧x≤255:=fun x hx=>by
  have:=hwf x hx
  simp[Lit.wf,IntKind.min,IntKind.max,IntKind.signed,IntKind.bits]at this
  omega
 refine Ev.rounds (g:=fun k=>laws_FnReaches.f k code) ?_
 unfold laws_FnReaches.f laws_vBig.f
 simp only[Option.bind_some]
 by_cases hbig: (code.length:Int)>65536
 ·exact ev_pos (decide_eq_true hbig) (Ev.now _)
 refine ev_neg (by rw[decide_eq_false hbig];simp) ?_
 obtain⟨⟨s,r,l,a,b⟩,hd1,hl⟩:=drawRO_ok hb
 obtain⟨code1,hcut1,hb1⟩:=vCut_ok hb (by omega) 1 (by omega)
 obtain⟨code2,hcut2,hb2⟩:=vCut_ok hb (by omega) 2 (by omega)
 obtain⟨⟨s',r',l',c⟩,hd2,hl'⟩:=drawGR_ok hb1
 obtain⟨⟨u,ur,lo,o,d⟩,hd3,hlo,ho⟩:=drawOR_ok hb2
 simp only at hl hl' hlo ho
 have hl2:l.length≤1048576:=by omega
 have hl2':l'.length≤1048576:=by omega
 have hlo2:lo.length≤1048576:=by omega
 have hol:=orderR_len s r l a b
 obtain⟨P,hp1,hp2,hp3,_⟩:=price_ev s r l a b hl2
 obtain⟨A,ha1,ha2,ha3,ha4⟩:=arrival_ev s r l a b hl2
 have hA: (orderR s r l a b).2=true→b-a≤A.1:=by
  intro h
  have hask:asksV s r l a b=true:=by
   unfold orderR at h
   split at h
   ·assumption
   ·cases h
  have hc:=(asks_of hask).1
  obtain⟨⟨hs,rfl⟩,_⟩:=carV_of hc
  obtain⟨t,ht,rfl⟩:=ha4 hc hask
  have h0:0≤t:=by
   rw[h]at ha3
   exact of_decide_eq_true ha3
  have hf:b-a≤t:=ht.far (fun i v x y=>legL_far i v x y) h0
  have:=mx_ge t 0
  unfold told
  simp only
  omega
 have hj0:=rch_j0 hl2 hA s' r' l' c u ur lo o d hlo2 (by omega)
 refine Ev.bind hd1 ?_
 refine Ev.bind (implOrder_ev s r l a b hl2) (Ev.bind (specOrder_ev s r l a b hl2) ?_)
 refine Ev.bind (implFew_ev s r l a b hl2) (Ev.bind (specFew_ev s r l a b hl2) ?_)
 refine Ev.bind (implExtra_ev s r l a b hl2) (Ev.bind (specExtra_ev s r l a b hl2) ?_)
 refine Ev.bind hp1 (Ev.bind hp2 (Ev.bind ha1 (Ev.bind ha2 ?_)))
 refine ev_bind0 hcut1 (Ev.bind hd2 ?_)
 refine Ev.bind (implGreat_ev s' r' l' c hl2') (Ev.bind (specGreat_ev s' r' l' c hl2') ?_)
 refine ev_bind0 hcut2 (Ev.bind hd3 ?_)
 refine Ev.bind (implOrdReach_ev u ur lo o d hlo2 (by omega)) (Ev.bind (specOrdReach_ev u ur lo o d hlo2 (by omega)) ?_)
 refine ev_neg (by simp) (Ev.bind (vInts_self _ hol) (ev_pos rfl (ev_pos rfl (ev_neg (by simp) (ev_pos rfl (ev_neg (by simp) (ev_pos rfl (ev_neg (by simp) (ev_pos rfl (ev_neg (by simp) (ev_pos rfl (ev_neg (by simp) (ev_pos rfl (ev_neg (by simp) ?_))))))))))))))
 have hfo: ((orderR s r l a b).2 !=(fewR s r l a b).2)=false:=by
  have: (fewR s r l a b).2=(orderR s r l a b).2:=rfl
  rw[this];simp
 refine ev_neg (by rw[hfo];decide) ?_
 rw[hp3,ha3]
 refine ev_neg (by simp) ?_
 have hx: ((orderR s r l a b).2 !=(orderR s r l a b).2)=false:=by simp
 rw[hx]
 exact hj0
end Go.Proofs.Ythagkpoinjpmfaa.Pure
