/- FnRelays: the left statement: for every code the law answers true. No condition. -/
import Derived.Test.YthagkpoinjpmfaaQFnRelaysx18
import Derived.Test.YthagkpoinjpmfaaBase
import Derived.Test.YthagkpoinjpmfaaBits
import Derived.Test.YthagkpoinjpmfaaBitsOn
import Derived.Test.YthagkpoinjpmfaaU64
import Derived.Test.YthagkpoinjpmfaaDraw
namespace Go.Proofs.Ythagkpoinjpmfaa.Pure
open Go.RowKit Go.Proofs.Ythagkpoinjpmfaa.QFnRelays Go.Proofs.YthagkpoinjpmfaaW.PrintWords Go.Proofs.YthagkpoinjpmfaaW.PrintLast Go.Proofs.Ythagkpoinjpmfaa.Base
set_option linter.unusedVariables false
set_option linter.unusedSimpArgs false
def FnRelaysLeft:Prop:=∀ (l0:List Int),l0.length≤maxLen→(∀ x∈l0,(Lit.int .u8 x).wf=true)→∃ k,laws_FnRelays.f k l0=some true
theorem and255w (x:Int):0≤wrap64 (Go.bits .and .u64 (IntKind.u64.wrap x/ 1099511627776) 255)∧wrap64 (Go.bits .and .u64 (IntKind.u64.wrap x/ 1099511627776) 255)≤255:=by
 have:=and255 x
 rw[w64 (by omega) (by omega)]
 exact this
theorem cur_next {l:List Int} (hb:∀ x∈l,0≤x∧x≤255) (s1 s2:Int) (h0:0≤s1) (h1:s1≤1000000):∃ v s,spec_l1Cur_next.f l s1 s2=some (v,s1+1,s)∧0≤v∧v≤255:=by
 unfold spec_l1Cur_next.f
 rw[w64 (x:=s1+1) (by omega) (by omega)]
 by_cases c:s1<(l.length:Int)
 ·have hm:rd l s1∈l:=by
   obtain⟨n,rfl⟩:=Int.eq_ofNat_of_zero_le h0
   unfold rd
   rw[Int.toNat_natCast,List.getD_eq_getElem?_getD,List.getElem?_eq_getElem (by omega)]
   exact List.getElem_mem _
  have hv:=hb _ hm
  rw[if_pos c,if_pos h0,if_pos (by omega)]
  exact⟨_,_,rfl,by rw[w64 (by omega) (by omega)];exact hv⟩
 ·rw[if_neg c,if_neg (by omega)]
  exact⟨_,_,rfl,and255w _⟩
theorem cur_pick {l:List Int} (hb:∀ x∈l,0≤x∧x≤255) (s1 s2 a:Int) (h0:0≤s1) (h1:s1≤1000000) (ha:2≤a∧a≤200):∃ v s,spec_l1Cur_pick.f l s1 s2 a=some (v,s1+1,s)∧0≤v∧v<a:=by
 obtain⟨v,s,h,v0,v1⟩:=cur_next hb s1 s2 h0 h1
 unfold spec_l1Cur_pick.f
 rw[if_neg (by omega),h]
 simp only[Option.bind_some]
 rw[if_neg (by omega),if_neg (by omega)]
 exact⟨_,_,rfl,Int.tmod_nonneg _ v0,Int.tmod_lt_of_pos _ (by omega)⟩
theorem cur_among {l:List Int} (hb:∀ x∈l,0≤x∧x≤255) (s1 s2:Int) (L:List Int) (h0:0≤s1) (h1:s1≤1000000) (ha:2≤L.length∧L.length≤200):∃ v s,spec_l1Cur_among.f l s1 s2 L=some (v,s1+1,s)∧v∈L:=by
 obtain⟨v,s,h,v0,v1⟩:=cur_pick hb s1 s2 (L.length:Int) h0 h1 (by omega)
 unfold spec_l1Cur_among.f
 rw[h]
 simp only[Option.bind_some]
 rw[if_pos v0,if_pos v1]
 refine⟨_,_,rfl,?_⟩
 obtain⟨n,rfl⟩:=Int.eq_ofNat_of_zero_le v0
 unfold rd
 rw[Int.toNat_natCast,List.getD_eq_getElem?_getD,List.getElem?_eq_getElem (by omega)]
 exact List.getElem_mem _
theorem cur_one {l:List Int} (hb:∀ x∈l,0≤x∧x≤255) (s1 s2 a:Int) (h0:0≤s1) (h1:s1≤1000000) (ha:2≤a∧a≤200):∃ b s,spec_l1Cur_one.f l s1 s2 a=some (b,s1+1,s):=by
 obtain⟨v,s,h,v0,v1⟩:=cur_pick hb s1 s2 a h0 h1 ha
 unfold spec_l1Cur_one.f
 rw[h]
 exact⟨_,_,rfl⟩
theorem l1Most_eq (a b:Int):spec_l1Most.f a b=some (mx a b):=by
 unfold spec_l1Most.f mx
 by_cases h:a>b
 ·rw[if_pos h,if_neg (by omega)]
 ·rw[if_neg h]
  by_cases h2:a<b
  ·rw[if_pos h2]
  ·rw[if_neg h2];congr 1;omega
theorem l1Least_eq (a b:Int):spec_l1Least.f a b=some (mn a b):=by
 unfold spec_l1Least.f mn
 by_cases h:a<b
 ·rw[if_pos h,if_neg (by omega)]
 ·rw[if_neg h]
  by_cases h2:b<a
  ·rw[if_pos h2]
  ·rw[if_neg h2];congr 1;omega
theorem dr_pickn {l:List Int} (hb:∀ x∈l,0≤x∧x≤255) (s1 s2 a:Int) (h0:0≤s1) (h1:s1≤100000) (ha:1≤a∧a≤200):∃ v t s,spec_l1Cur_pick.f l s1 s2 a=some (v,t,s)∧(s1≤t∧t≤s1+1)∧0≤v∧v<a:=by
 by_cases c:a≤1
 ·unfold spec_l1Cur_pick.f
  rw[if_pos c]
  exact⟨0,s1,s2,rfl,by omega,by omega⟩
 ·obtain⟨v,s,h,hv⟩:=cur_pick hb s1 s2 a h0 (by omega) (by omega)
  exact⟨v,s1+1,s,h,by omega,hv⟩
theorem dr_size {l:List Int} (hb:∀ x∈l,0≤x∧x≤255) (s1 s2:Int) (h0:0≤s1) (h1:s1≤90000):∃ v s,spec_l1Cur_size.f l s1 s2=some (v,s1+2,s):=by
 obtain⟨b,s,ho⟩:=cur_one hb s1 s2 40 h0 (by omega) (by omega)
 unfold spec_l1Cur_size.f
 simp only[ho,Option.bind_some]
 cases b with
 | true=>
  obtain⟨u,t,ha,_⟩:=cur_among hb (s1+1) s [1,2,24,25,0,(-1),4611686018427387904] (by omega) (by omega) (by simp)
  rw[if_pos rfl,ha]
  exact⟨u,t,by simp only[Option.bind_some];rw[show s1+1+1=s1+2 by omega]⟩
 | false=>
  obtain⟨u,t,ha,_⟩:=cur_among hb (s1+1) s [5,6,4,8,3,10,7,13,24,2] (by omega) (by omega) (by simp)
  rw[if_neg (by decide),ha]
  exact⟨u,t,by simp only[Option.bind_some];rw[show s1+1+1=s1+2 by omega]⟩
theorem dr_line {l:List Int} (hb:∀ x∈l,0≤x∧x≤255) (s1 s2:Int) (h0:0≤s1) (h1:s1≤90000):∃ v s,spec_l1Cur_line.f l s1 s2=some (v,false,s1+2,s):=by
 obtain⟨v,s,h⟩:=dr_size hb s1 s2 h0 h1
 unfold spec_l1Cur_line.f
 rw[h]
 exact⟨v,s,rfl⟩
theorem dr_road {l:List Int} (hb:∀ x∈l,0≤x∧x≤255) (s1 s2:Int) (h0:0≤s1) (h1:s1≤80000):∃ v r t s,spec_l1Cur_road.f l s1 s2=some (v,r,t,s)∧s1≤t∧t≤s1+10:=by
 obtain⟨b,s,ho⟩:=cur_one hb s1 s2 2 h0 (by omega) (by omega)
 unfold spec_l1Cur_road.f
 simp only[ho,Option.bind_some]
 cases b with
 | true=>
  obtain⟨v,t,hs⟩:=dr_line hb (s1+1) s (by omega) (by omega)
  rw[if_pos rfl]
  simp only[hs,Option.bind_some]
  exact⟨v,false,s1+1+2,t,rfl,by omega,by omega⟩
 | false=>
  obtain⟨v,t,hs⟩:=dr_size hb (s1+1) s (by omega) (by omega)
  rw[if_neg (by decide)]
  unfold spec_l1Cur_ring.f
  simp only[hs,Option.bind_some]
  by_cases c:v=2
  ·obtain⟨b2,u,ho2⟩:=cur_one hb (s1+1+2) t 4 (by omega) (by omega) (by omega)
   rw[if_pos c]
   simp only[ho2,Option.bind_some]
   cases b2 with
   | true=>exact⟨v,true,s1+1+2+1,u,by rw[if_pos rfl];rfl,by omega,by omega⟩
   | false=>exact⟨3,true,s1+1+2+1,u,by rw[if_neg (by decide)];rfl,by omega,by omega⟩
  ·rw[if_neg c]
   exact⟨v,true,s1+1+2,t,rfl,by omega,by omega⟩
theorem dr_place {l:List Int} (hb:∀ x∈l,0≤x∧x≤255) (s1 s2:Int) (h0:0≤s1) (h1:s1≤80000) (sz:Int) (rg:Bool):∃ v t s,spec_l1Cur_placeOn.f l s1 s2 sz rg=some (v,t,s)∧s1≤t∧t≤s1+10:=by
 obtain⟨b,s,ho⟩:=cur_one hb s1 s2 30 h0 (by omega) (by omega)
 unfold spec_l1Cur_placeOn.f
 simp only[ho,Option.bind_some]
 cases b with
 | true=>
  obtain⟨u,t,ha,_⟩:=cur_among hb (s1+1) s [(-1),0,sz,wrap64 (sz-1),4611686018427387904] (by omega) (by omega) (by simp)
  rw[if_pos rfl,ha]
  exact⟨u,s1+1+1,t,rfl,by omega,by omega⟩
 | false=>
  have hmn:=mn_le sz 24
  have hmx:=mx_ge (mn sz 24) 1
  obtain⟨v,t,u,hp,t0,_⟩:=dr_pickn hb (s1+1) s (mx (mn sz 24) 1) (by omega) (by omega) (by omega)
  rw[if_neg (by decide)]
  simp only[l1Least_eq,l1Most_eq,hp,Option.bind_some]
  exact⟨v,t,u,rfl,by omega,by omega⟩
def crOk (m:Int) (f:Nat→Option (List S63 × Int × Int)):Prop:=∃ r,Ev f r∧r.1.length≤100∧0≤r.2.1∧r.2.1≤m
theorem cr_l1 (l:List Int) (s1 s2 M:Int) (h0:0≤s1) (h1:s1≤M):∀ (m:Nat) (x:List S63),x.length≤50→7-x.length≤m→crOk M (fun k=>spec_l1Cur_carriers7.l1 k x l s1 s2)
 | 0,x,hl,hm=>⟨(x,s1,s2),ev_now (fun k=>by simp only[spec_l1Cur_carriers7.l1];rw[if_neg (by omega)]),by simp only;omega⟩
 | m+1,x,hl,hm=>by
  by_cases c: (x.length:Int)<7
  ·obtain⟨r,h,hr⟩:=cr_l1 l s1 s2 M h0 h1 m (x++[⟨0,0,0⟩]) (by simp;omega) (by simp;omega)
   exact⟨r,Ev.step (fun k=>by simp only[spec_l1Cur_carriers7.l1];rw[if_pos c,if_pos (by omega)]) h,hr⟩
  ·exact⟨(x,s1,s2),ev_now (fun k=>by simp only[spec_l1Cur_carriers7.l1];rw[if_neg c]),by simp only;omega⟩
theorem cr_l0 {l:List Int} (hb:∀ x∈l,0≤x∧x≤255) (sz:Int) (rg:Bool) (M:Int) (hM:M≤80000):∀ (c:Nat) (x:List S63) (s1 s2:Int),x.length+c≤40→0≤s1→s1+3*c+5≤M→crOk M (fun k=>spec_l1Cur_carriers7.l0 k x (c:Int) l s1 s2 sz rg)
 | 0,x,s1,s2,hx,h0,h1=>by
  obtain⟨v,s,hp,v0,v1⟩:=cur_pick hb s1 s2 30 h0 (by omega) (by omega)
  by_cases c0:v=0
  ·obtain⟨u,t,ha,_⟩:=cur_among hb (s1+1) s [(-1),sz,0] (by omega) (by omega) (by simp)
   obtain⟨u2,t2,ha2,_⟩:=cur_among hb (s1+1+1) t [48,49,(-1)] (by omega) (by omega) (by simp)
   exact⟨(x++[⟨u,u2,0⟩],s1+1+1+1,t2),ev_now (fun k=>by
    simp only[spec_l1Cur_carriers7.l0,hp,Option.bind_some]
    rw[if_neg (by omega),if_pos c0]
    simp only[ha,ha2,Option.bind_some]
    rw[if_pos (by omega)]),by simp;omega⟩
  ·by_cases c1:v=1
   ·obtain⟨r,h,hr⟩:=cr_l1 l (s1+1) s M (by omega) (by omega) 7 x (by omega) (by omega)
    exact⟨r,Ev.step (fun k=>by
     simp only[spec_l1Cur_carriers7.l0,hp,Option.bind_some]
     rw[if_neg (by omega),if_neg c0,if_pos c1]) h,hr⟩
   ·exact⟨(x,s1+1,s),ev_now (fun k=>by
     simp only[spec_l1Cur_carriers7.l0,hp,Option.bind_some]
     rw[if_neg (by omega),if_neg c0,if_neg c1]),by simp only;omega⟩
 | c+1,x,s1,s2,hx,h0,h1=>by
  have hmn:=mn_le sz 24
  have hmx:=mx_ge 1 (mn sz 24)
  obtain⟨v,t,s,hp,t0,_⟩:=dr_pickn hb s1 s2 (mx 1 (mn sz 24)) h0 (by omega) (by omega)
  obtain⟨u,t2,ha,_⟩:=cur_among hb t s [3,5,2,8,0,12] (by omega) (by omega) (by simp)
  obtain⟨u2,t3,ha2,_⟩:=cur_among hb (t+1) t2 [1,2,0,3,20] (by omega) (by omega) (by simp)
  obtain⟨r,h,hr⟩:=cr_l0 hb sz rg M hM c (x++[⟨v,u,u2⟩]) (t+1+1) t3 (by simp;omega) (by omega) (by omega)
  exact⟨r,Ev.step (fun k=>by
   simp only[spec_l1Cur_carriers7.l0,l1Least_eq,l1Most_eq,hp,ha,ha2,Option.bind_some]
   rw[if_pos (by omega),if_pos (by omega),w64 (x:=((c+1:Nat):Int)-1) (by omega) (by omega),show((c+1:Nat):Int)-1=(c:Int)by omega]) h,hr⟩
theorem carriers7_ok {l:List Int} (hb:∀ x∈l,0≤x∧x≤255) (s1 s2:Int) (h0:0≤s1) (h1:s1≤70000) (sz:Int) (rg:Bool):crOk (s1+30) (fun k=>spec_l1Cur_carriers7.f k l s1 s2 sz rg):=by
 obtain⟨n,t2,ha2,hn⟩:=cur_among hb s1 s2 [3,2,4,1,0,5] (by omega) (by omega) (by simp)
 have hn2:0≤n∧n≤5:=by
  simp only[List.mem_cons,List.not_mem_nil,or_false]at hn
  omega
 obtain⟨c,rfl⟩:=Int.eq_ofNat_of_zero_le hn2.1
 obtain⟨r,h,hr⟩:=cr_l0 hb sz rg (s1+30) (by omega) c [] (s1+1) t2 (by simp;omega) (by omega) (by omega)
 refine⟨r,?_,hr⟩
 unfold spec_l1Cur_carriers7.f
 simp only[ha2,Option.bind_some]
 exact h
def askOk (f:Nat→Option (Int × Bool × List S63 × Int × Int × Int × Int)):Prop:=∃ r,Ev f r∧r.2.2.1.length≤100∧0≤r.2.2.2.2.2.1∧r.2.2.2.2.2.1≤1000
theorem ask_j0 {l:List Int} (hb:∀ x∈l,0≤x∧x≤255) (s1 s2:Int) (h0:0≤s1) (h1:s1≤500) (sz:Int) (rg:Bool):askOk (fun k=>spec_l1Cur_ask7.j0 k l s1 s2 sz rg):=by
 have hmn:=mn_le sz 24
 have hmx:=mx_ge 1 (mn sz 24)
 obtain⟨v,t,s,hp,t0,v0,v1⟩:=dr_pickn hb s1 s2 (mx 1 (mn sz 24)) h0 (by omega) (by omega)
 have hw:wrap64 (mx 1 (mn sz 24)-v)=mx 1 (mn sz 24)-v:=w64 (by omega) (by omega)
 obtain⟨v2,t2,s',hp2,t3,_⟩:=dr_pickn hb t s (mx 1 (mn sz 24)-v) (by omega) (by omega) (by omega)
 obtain⟨b,u,ho⟩:=cur_one hb t2 s' 16 (by omega) (by omega) (by omega)
 cases b with
 | true=>
  obtain⟨w,t4,u2,hq,q0,q1⟩:=dr_place hb (t2+1) u (by omega) (by omega) sz rg
  obtain⟨r,h,hr⟩:=carriers7_ok hb t4 u2 (by omega) (by omega) sz rg
  refine⟨(sz,rg,r.1,v,w,r.2.1,r.2.2),Ev.step (f:=fun k=>(spec_l1Cur_carriers7.f k l t4 u2 sz rg).bind fun y=>some (sz,rg,y.1,v,w,y.2.1,y.2.2)) (fun k=>?_) (Ev.bind h (Ev.now _)),hr.1,hr.2.1,by simp only;omega⟩
  simp only[spec_l1Cur_ask7.j0,l1Least_eq,l1Most_eq,hp,hw,hp2,ho,Option.bind_some]
  rw[if_pos True.intro]
  simp only[hq,Option.bind_some]
 | false=>
  obtain⟨r,h,hr⟩:=carriers7_ok hb (t2+1) u (by omega) (by omega) sz rg
  refine⟨(sz,rg,r.1,v,wrap64 (v+v2),r.2.1,r.2.2),Ev.step (f:=fun k=>(spec_l1Cur_carriers7.f k l (t2+1) u sz rg).bind fun y=>some (sz,rg,y.1,v,wrap64 (v+v2),y.2.1,y.2.2)) (fun k=>?_) (Ev.bind h (Ev.now _)),hr.1,hr.2.1,by simp only;omega⟩
  simp only[spec_l1Cur_ask7.j0,l1Least_eq,l1Most_eq,hp,hw,hp2,ho,Option.bind_some]
  rw[if_neg (by decide)]
theorem ask7_ok {l:List Int} (hb:∀ x∈l,0≤x∧x≤255):askOk (fun k=>spec_l1Cur_ask7.f k l 0 0):=by
 obtain⟨v,s,hl⟩:=dr_line hb 0 0 (by omega) (by omega)
 obtain⟨b,u,ho⟩:=cur_one hb (0+2) s 24 (by omega) (by omega) (by omega)
 cases b with
 | true=>
  obtain⟨v2,r2,t,w,hr,q0,q1⟩:=dr_road hb (0+2+1) u (by omega) (by omega)
  obtain⟨r,h,hh⟩:=ask_j0 hb t w (by omega) (by omega) v2 r2
  refine⟨r,Ev.congr (fun k=>?_) h,hh⟩
  unfold spec_l1Cur_ask7.f
  simp only[hl,ho,Option.bind_some]
  rw[if_pos True.intro]
  simp only[hr,Option.bind_some]
 | false=>
  obtain⟨r,h,hh⟩:=ask_j0 hb (0+2+1) u (by omega) (by omega) v false
  refine⟨r,Ev.congr (fun k=>?_) h,hh⟩
  unfold spec_l1Cur_ask7.f
  simp only[hl,ho,Option.bind_some]
  rw[if_neg (by decide)]
structure Legs where
 n:Nat
 a:Int
 b:Int
 E:Nat→Int→Int→Prop
 L:Nat→Int→Int→Int→Int
 Lm:∀ i v v' x y,v≤v'→L i v x y≤L i v' x y
 Lp:∀ i v x y,0≤v→x<y→i<n→E i x y→0≤L i v x y
inductive Way (G:Legs):Nat→Int→Int→Prop
 | start:Way G 0 G.a 0
 | leg {c:Nat} {x v:Int} {i:Nat} {y:Int}:Way G c x v→i<G.n→c/ 2^i % 2=0→x<y→y≤G.b→G.E i x y→Way G (c+2^i) y (G.L i v x y)
theorem Way.pos {G:Legs} {c:Nat} {y v:Int} (h:Way G c y v):0≤v:=by
 induction h with
 | start=>omega
 | leg h hi _ hxy _ he ih=>exact G.Lp _ _ _ _ ih hxy hi he
theorem Way.place {G:Legs} {c:Nat} {y v:Int} (hab:G.a≤G.b) (h:Way G c y v):G.a≤y∧y≤G.b:=by
 induction h with
 | start=>omega
 | leg _ _ _ hxy hy _ ih=>omega
theorem bit_lt {c i n:Nat} (hc:c<2^n) (hi:i<n) (hb:c/ 2^i % 2=0):c+2^i<2^n:=by
 obtain⟨m,rfl⟩:∃ m,n=i+m+1:=⟨n-i-1,by omega⟩
 have e:2^ (i+m+1)=2^i*(2^m*2):=by rw[Nat.pow_succ,Nat.pow_add,Nat.mul_assoc]
 have hp:0<2^i:=Nat.two_pow_pos i
 rw[e]at hc⊢
 have h1:c/ 2^i<2^m*2:=Nat.div_lt_of_lt_mul hc
 have h2:c/ 2^i+1<2^m*2:=by omega
 have h3: (c+2^i)/ 2^i=c/ 2^i+1:=Nat.add_div_right c hp
 have h4: (c+2^i)/ 2^i<2^m*2:=by omega
 exact(Nat.div_lt_iff_lt_mul hp).mp h4|>fun h=>by rw[Nat.mul_comm];exact h
theorem Way.set {G:Legs} {c:Nat} {y v:Int} (h:Way G c y v):c<2^G.n:=by
 induction h with
 | start=>exact Nat.two_pow_pos _
 | leg _ hi hb _ _ _ ih=>exact bit_lt ih hi hb
def IsLeast (G:Legs) (c:Nat) (y t:Int):Prop:=(t=-1∧∀ v,¬Way G c y v)∨(Way G c y t∧∀ v,Way G c y v→t≤v)
structure Filled (G:Legs) (D:Nat→Int→Prop) (T:Nat→Int→Int):Prop where
 told:∀ c y,T c y=-1∨Way G c y (T c y)
 zero:T 0 G.a=0
 on:∀ c x,D c x→0≤T c x→∀ i y,i<G.n→c/ 2^i % 2=0→x<y→y≤G.b→G.E i x y→0≤T (c+2^i) y∧T (c+2^i) y≤G.L i (T c x) x y
 least:∀ c x,D c x→IsLeast G c x (T c x)
theorem Filled.pos {G:Legs} {D:Nat→Int→Prop} {T:Nat→Int→Int} (h:Filled G D T) {c:Nat} {y:Int}:T c y=-1∨0≤T c y:=by
 rcases h.told c y with e|w
 ·exact Or.inl e
 ·exact Or.inr w.pos
theorem Filled.isLeast {G:Legs} {D:Nat→Int→Prop} {T:Nat→Int→Int} (h:Filled G D T) {c':Nat} {y:Int} (hp:∀ c i x v,Way G c x v→c'=c+2^i→i<G.n→c/ 2^i % 2=0→x<y→D c x):IsLeast G c' y (T c' y):=by
 have key:∀ v,Way G c' y v→0≤T c' y∧T c' y≤v:=by
  intro v hv
  cases hv with
  | start=>rw[h.zero];omega
  | @leg c x v0 i _ hw hi hb hxy hy he=>
   have hd:=hp c i x v0 hw rfl hi hb hxy
   rcases h.least c x hd with⟨_,hn⟩|⟨hw',hm⟩
   ·exact absurd hw (hn _)
   ·obtain⟨h1,h2⟩:=h.on c x hd hw'.pos i y hi hb hxy hy he
    exact⟨h1,Int.le_trans h2 (G.Lm i _ _ x y (hm _ hw))⟩
 rcases h.told c' y with e|w
 ·refine Or.inl ⟨e,fun v hv=>?_⟩
  have:=(key v hv).1
  omega
 ·exact Or.inr ⟨w,fun v hv=>(key v hv).2⟩
def IsBest (G:Legs) (t:Int):Prop:=(t=-1∧∀ c v,¬Way G c G.b v)∨(∃ c,Way G c G.b t)∧∀ c v,Way G c G.b v→t≤v
def relax (T:Nat→Int→Int) (c:Nat) (y v:Int):Nat→Int→Int:=fun c' y'=>if c'=c∧y'=y then(if T c y<0∨v<T c y then v else T c y)else T c' y'
theorem relax_same (T:Nat→Int→Int) (c:Nat) (y v:Int):relax T c y v c y=if T c y<0∨v<T c y then v else T c y:=by simp[relax]
theorem relax_ne {T:Nat→Int→Int} {c:Nat} {y v:Int} {c':Nat} {y':Int} (h:¬(c'=c∧y'=y)):relax T c y v c' y'=T c' y':=by simp only[relax,if_neg h]
theorem relax_skip {T:Nat→Int→Int} {c:Nat} {y v:Int} (h:¬(T c y<0∨v<T c y)):relax T c y v=T:=by
 funext c' y'
 by_cases e:c'=c∧y'=y
 ·simp only[relax,if_pos e,if_neg h]
  rw[e.1,e.2]
 ·simp only[relax,if_neg e]
theorem relax_le {T:Nat→Int→Int} {c:Nat} {y v:Int} (hv:0≤v) {c':Nat} {y':Int} (h:0≤T c' y'):0≤relax T c y v c' y'∧relax T c y v c' y'≤T c' y':=by
 by_cases e:c'=c∧y'=y
 ·obtain⟨rfl,rfl⟩:=e
  rw[relax_same]
  split<;>omega
 ·rw[relax_ne e]
  omega
theorem relax_at {T:Nat→Int→Int} {c:Nat} {y v:Int} (hv:0≤v):0≤relax T c y v c y∧relax T c y v c y≤v:=by
 rw[relax_same]
 split<;>omega
theorem Filled.hand {G:Legs} {D:Nat→Int→Prop} {T:Nat→Int→Int} (h:Filled G D T) {c i:Nat} {x y:Int} (h0:0≤T c x) (hw:Way G c x (T c x)) (hi:i<G.n) (hb:c/ 2^i % 2=0) (hxy:x<y) (hy:y≤G.b) (he:G.E i x y)
  (hn:¬D (c+2^i) y):Filled G D (relax T (c+2^i) y (G.L i (T c x) x y)):=by
 have hp:0<2^i:=Nat.two_pow_pos i
 have hv:=G.Lp i (T c x) x y h0 hxy hi he
 have hD:∀ c' x',D c' x'→relax T (c+2^i) y (G.L i (T c x) x y) c' x'=T c' x':=by
  intro c' x' hd
  refine relax_ne fun e=>hn ?_
  rw[←e.1,←e.2]
  exact hd
 refine⟨fun c' y'=>?_,?_,fun c' x' hd h0' j y' hj hbj hxy' hy' he'=>?_,fun c' x' hd=>?_⟩
 ·by_cases e:c'=c+2^i∧y'=y
  ·obtain⟨rfl,rfl⟩:=e
   rw[relax_same]
   split
   ·exact Or.inr (Way.leg hw hi hb hxy hy he)
   ·exact h.told _ _
  ·rw[relax_ne e]
   exact h.told _ _
 ·rw[relax_ne (by omega)]
  exact h.zero
 ·rw[hD _ _ hd]at h0'⊢
  obtain⟨h1,h2⟩:=h.on c' x' hd h0' j y' hj hbj hxy' hy' he'
  obtain⟨h3,h4⟩:=relax_le (c:=c+2^i) (y:=y) hv h1
  exact⟨h3,Int.le_trans h4 h2⟩
 ·rw[hD _ _ hd]
  exact h.least _ _ hd
theorem Filled.add {G:Legs} {D D':Nat→Int→Prop} {T:Nat→Int→Int} (h:Filled G D T) {c:Nat} {x:Int} (hl:IsLeast G c x (T c x)) (hD:∀ c' x',D' c' x'→D c' x'∨(c'=c∧x'=x))
  (ho:0≤T c x→∀ i y,i<G.n→c/ 2^i % 2=0→x<y→y≤G.b→G.E i x y→0≤T (c+2^i) y∧T (c+2^i) y≤G.L i (T c x) x y):Filled G D' T:=by
 refine⟨h.told,h.zero,fun c' x' hd=>?_,fun c' x' hd=>?_⟩
 ·rcases hD _ _ hd with hd|⟨rfl,rfl⟩
  ·exact h.on _ _ hd
  ·exact ho
 ·rcases hD _ _ hd with hd|⟨rfl,rfl⟩
  ·exact h.least _ _ hd
  ·exact hl
structure Handing (G:Legs) (D:Nat→Int→Prop) (T:Nat→Int→Int) (c:Nat) (x:Int) (H:Nat→Int→Prop):Prop where
 fill:Filled G D T
 way:Way G c x (T c x)
 least:IsLeast G c x (T c x)
 done:∀ i y,H i y→i<G.n→c/ 2^i % 2=0→x<y→y≤G.b→G.E i x y→0≤T (c+2^i) y∧T (c+2^i) y≤G.L i (T c x) x y
theorem Handing.pos {G:Legs} {D:Nat→Int→Prop} {T:Nat→Int→Int} {c:Nat} {x:Int} {H:Nat→Int→Prop} (h:Handing G D T c x H):0≤T c x:=h.way.pos
theorem Handing.same {G:Legs} {T:Nat→Int→Int} {c:Nat} {x:Int} {i:Nat} {y v:Int}:relax T (c+2^i) y v c x=T c x:=by
 have hp:0<2^i:=Nat.two_pow_pos i
 exact relax_ne (by omega)
theorem Handing.put {G:Legs} {D:Nat→Int→Prop} {T:Nat→Int→Int} {c:Nat} {x:Int} {H H':Nat→Int→Prop} (h:Handing G D T c x H) {i:Nat} {y:Int} (hi:i<G.n) (hb:c/ 2^i % 2=0) (hxy:x<y) (hy:y≤G.b) (he:G.E i x y)
  (hn:¬D (c+2^i) y) (hH:∀ j z,H' j z→H j z∨(j=i∧z=y)):Handing G D (relax T (c+2^i) y (G.L i (T c x) x y)) c x H':=by
 have hs:relax T (c+2^i) y (G.L i (T c x) x y) c x=T c x:=Handing.same (G:=G)
 have hv:=G.Lp i (T c x) x y h.pos hxy hi he
 refine⟨h.fill.hand h.pos h.way hi hb hxy hy he hn,by rw[hs];exact h.way,by rw[hs];exact h.least,fun j z hj hjn hjb hxz hz hez=>?_⟩
 rw[hs]
 rcases hH j z hj with hj|⟨rfl,rfl⟩
 ·obtain⟨h1,h2⟩:=h.done j z hj hjn hjb hxz hz hez
  obtain⟨h3,h4⟩:=relax_le (c:=c+2^i) (y:=y) hv h1
  exact⟨h3,Int.le_trans h4 h2⟩
 ·exact relax_at hv
theorem Handing.mono {G:Legs} {D:Nat→Int→Prop} {T:Nat→Int→Int} {c:Nat} {x:Int} {H H':Nat→Int→Prop} (h:Handing G D T c x H) (hH:∀ j z,H' j z→j<G.n→c/ 2^j % 2=0→x<z→z≤G.b→G.E j x z→H j z):Handing G D T c x H':=
 ⟨h.fill,h.way,h.least,fun j z a b d e f g=>h.done j z (hH j z a b d e f g) b d e f g⟩
theorem Handing.over {G:Legs} {D D':Nat→Int→Prop} {T:Nat→Int→Int} {c:Nat} {x:Int} {H:Nat→Int→Prop} (h:Handing G D T c x H) (hH:∀ j z,j<G.n→c/ 2^j % 2=0→x<z→z≤G.b→G.E j x z→H j z) (hD:∀ c' x',D' c' x'→D c' x'∨(c'=c∧x'=x)):Filled G D' T:=
 h.fill.add h.least hD (fun _ i y a b d e f=>h.done i y (hH i y a b d e f) a b d e f)
theorem Filled.skip {G:Legs} {D D':Nat→Int→Prop} {T:Nat→Int→Int} (h:Filled G D T) {c:Nat} {x:Int} (hl:IsLeast G c x (T c x)) (h0:T c x<0) (hD:∀ c' x',D' c' x'→D c' x'∨(c'=c∧x'=x)):Filled G D' T:=
 h.add hl hD (fun h1=>by omega)
theorem Filled.begin {G:Legs} {D:Nat→Int→Prop} {T:Nat→Int→Int} (h:Filled G D T) {c:Nat} {x:Int} (hl:IsLeast G c x (T c x)) (h0:0≤T c x):Handing G D T c x (fun _ _=>False):=by
 rcases h.told c x with e|w
 ·omega
 ·exact⟨h,w,hl,fun _ _ hf=>hf.elim⟩
def BestOn (G:Legs) (D:Nat→Int→Prop) (t:Int):Prop:=(t=-1∧∀ c v,D c G.b→¬Way G c G.b v)∨(∃ c,Way G c G.b t)∧∀ c v,D c G.b→Way G c G.b v→t≤v
def nb (t v:Int):Int:=if t<0∨v<t then v else t
theorem BestOn.other {G:Legs} {D D':Nat→Int→Prop} {t:Int} (h:BestOn G D t) {c:Nat} {x:Int} (hx:x≠G.b) (hD:∀ c' x',D' c' x'→D c' x'∨(c'=c∧x'=x)):BestOn G D' t:=by
 have hk:∀ c',D' c' G.b→D c' G.b:=fun c' hd=>(hD _ _ hd).elim id (fun e=>absurd e.2.symm hx)
 rcases h with⟨e,h⟩|⟨hw,h⟩
 ·exact Or.inl ⟨e,fun c' v hd=>h c' v (hk _ hd)⟩
 ·exact Or.inr ⟨hw,fun c' v hd=>h c' v (hk _ hd)⟩
theorem BestOn.none {G:Legs} {D D':Nat→Int→Prop} {t:Int} (h:BestOn G D t) {c:Nat} {x v:Int} (hl:IsLeast G c x v) (h0:v<0) (hD:∀ c' x',D' c' x'→D c' x'∨(c'=c∧x'=x)):BestOn G D' t:=by
 by_cases hx:x=G.b
 ·subst hx
  have hn:∀ u,¬Way G c G.b u:=by
   rcases hl with⟨_,hn⟩|⟨hw,_⟩
   ·exact hn
   ·have:=hw.pos;omega
  rcases h with⟨e,h⟩|⟨hw,h⟩
  ·exact Or.inl ⟨e,fun c' u hd=>(hD _ _ hd).elim (h c' u) (fun e=>e.1▸hn u)⟩
  ·exact Or.inr ⟨hw,fun c' u hd hu=>(hD _ _ hd).elim (fun d=>h c' u d hu) (fun e=>absurd (e.1▸hu) (hn u))⟩
 ·exact h.other hx hD
theorem BestOn.take {G:Legs} {D D':Nat→Int→Prop} {t:Int} (h:BestOn G D t) {c:Nat} {v:Int} (hl:IsLeast G c G.b v) (h0:0≤v) (hD:∀ c' x',D' c' x'→D c' x'∨(c'=c∧x'=G.b)):BestOn G D' (nb t v):=by
 have hw:Way G c G.b v∧∀ u,Way G c G.b u→v≤u:=by
  rcases hl with⟨e,_⟩|h
  ·omega
  ·exact h
 unfold nb
 rcases h with⟨e,h⟩|⟨⟨c0,hw0⟩,h⟩
 ·rw[if_pos (by omega)]
  exact Or.inr ⟨⟨c,hw.1⟩,fun c' u hd hu=>(hD _ _ hd).elim (fun d=>absurd hu (h c' u d)) (fun e=>hw.2 u (e.1▸hu))⟩
 ·have:=hw0.pos
  by_cases q:v<t
  ·rw[if_pos (Or.inr q)]
   exact Or.inr ⟨⟨c,hw.1⟩,fun c' u hd hu=>(hD _ _ hd).elim (fun d=>by have:=h c' u d hu;omega) (fun e=>hw.2 u (e.1▸hu))⟩
  ·rw[if_neg (by omega)]
   exact Or.inr ⟨⟨c0,hw0⟩,fun c' u hd hu=>(hD _ _ hd).elim (fun d=>h c' u d hu) (fun e=>by have:=hw.2 u (e.1▸hu);omega)⟩
theorem BestOn.all {G:Legs} {D:Nat→Int→Prop} {t:Int} (hD:∀ c,c<2^G.n→D c G.b) (h:BestOn G D t):IsBest G t:=by
 rcases h with⟨e,h⟩|⟨hw,h⟩
 ·exact Or.inl ⟨e,fun c v hv=>h c v (hD c hv.set) hv⟩
 ·exact Or.inr ⟨hw,fun c v hv=>h c v (hD c hv.set) hv⟩
theorem BestOn.zero {G:Legs} {D:Nat→Int→Prop} (hD:∀ c x,¬D c x):BestOn G D (-1):=Or.inl ⟨rfl,fun c _ hd=>absurd hd (hD c _)⟩
def tab0 (G:Legs):Nat→Int→Int:=fun c y=>if c=0∧y=G.a then 0 else-1
theorem Filled.start {G:Legs} {D:Nat→Int→Prop} (hD:∀ c x,¬D c x):Filled G D (tab0 G):=by
 refine⟨fun c y=>?_,by simp[tab0],fun c x hd=>absurd hd (hD c x),fun c x hd=>absurd hd (hD c x)⟩
 unfold tab0
 by_cases e:c=0∧y=G.a
 ·rw[if_pos e,e.1,e.2];exact Or.inr Way.start
 ·rw[if_neg e];exact Or.inl rfl
def DP (G:Legs) (c:Nat) (x:Int):Nat→Int→Prop:=fun c' x'=>c'<2^G.n∧G.a≤x'∧x'≤G.b∧(x'<x∨x'=x∧c'<c)
theorem DP_next {G:Legs} {c:Nat} {x:Int}:∀ c' x',DP G (c+1) x c' x'→DP G c x c' x'∨(c'=c∧x'=x):=by
 intro c' x' h
 unfold DP at*
 by_cases e:c'=c∧x'=x
 ·exact Or.inr e
 ·exact Or.inl ⟨h.1,h.2.1,h.2.2.1,by omega⟩
theorem DP_row {G:Legs} {x:Int}:∀ c' x',DP G 0 (x+1) c' x'→DP G (2^G.n) x c' x':=by
 intro c' x' h
 unfold DP at*
 exact⟨h.1,h.2.1,h.2.2.1,by omega⟩
theorem Filled.sub {G:Legs} {D D':Nat→Int→Prop} {T:Nat→Int→Int} (h:Filled G D T) (hD:∀ c x,D' c x→D c x):Filled G D' T:=
 ⟨h.told,h.zero,fun c x hd=>h.on c x (hD c x hd),fun c x hd=>h.least c x (hD c x hd)⟩
theorem BestOn.sub {G:Legs} {D D':Nat→Int→Prop} {t:Int} (h:BestOn G D t) (hD:∀ c x,D' c x→D c x):BestOn G D' t:=by
 rcases h with⟨e,h⟩|⟨hw,h⟩
 ·exact Or.inl ⟨e,fun c v hd=>h c v (hD _ _ hd)⟩
 ·exact Or.inr ⟨hw,fun c v hd=>h c v (hD _ _ hd)⟩
theorem DP_least {G:Legs} {T:Nat→Int→Int} {c:Nat} {x:Int} (hab:G.a≤G.b) (h:Filled G (DP G c x) T):IsLeast G c x (T c x):=by
 refine h.isLeast fun c0 i x0 v hw hc hi hb hx=>?_
 have:=hw.place hab
 exact⟨hw.set,this.1,this.2,by omega⟩
theorem DP_not {G:Legs} {c:Nat} {x:Int} {d:Nat} {y:Int} (h:x<y):¬DP G c x d y:=by
 unfold DP
 omega
theorem l1In_eq (a b c:Int):spec_l1In.f a b c=some (inR b c a):=by
 unfold spec_l1In.f inR
 by_cases h:a≥b
 ·have h':b≤a:=h
  rw[if_pos h];simp[h']
 ·have h':¬b≤a:=h
  rw[if_neg h];simp[h']
theorem within_eq (a b c:Int):impl_within.f a b c=some (inR b c a):=by
 unfold impl_within.f inR
 by_cases h:a≥b
 ·have h':b≤a:=h
  rw[if_pos h];simp[h']
 ·have h':¬b≤a:=h
  rw[if_neg h];simp[h']
def lineV (s:Int) (r:Bool):Bool:=inR 2 24 s&& !r
theorem line_of {s:Int} {r:Bool} (h:lineV s r=true): (2≤s∧s≤24)∧r=false:=by
 unfold lineV at h
 rw[Bool.and_eq_true,inR_iff]at h
 exact⟨h.1,by simpa using h.2⟩
theorem l2Road_eq (s:Int) (r:Bool):spec_l2Road.f s r=some (inR 2 24 s&& (!r||decide (s>2))):=by
 unfold spec_l2Road.f
 simp only[l1In_eq,Option.bind_some]
 cases inR 2 24 s<;>cases r<;>simp
theorem isRoad_eq (s:Int) (r:Bool):impl_IsRoad.f s r=some (inR 2 24 s&& (!r||decide (s>2))):=by
 unfold impl_IsRoad.f
 simp only[within_eq,Option.bind_some]
 cases h:inR 2 24 s<;>cases r<;>simp<;>omega
theorem isLine_eq (s:Int) (r:Bool):impl_isLine.f s r=some (lineV s r):=by
 unfold impl_isLine.f lineV
 simp only[isRoad_eq,Option.bind_some]
 cases inR 2 24 s<;>cases r<;>simp
theorem gap_eq (s a p:Int) (h0:0≤a∧a≤1000000) (h1:0≤p∧p≤1000000):impl_Road_gap.f s false a p=some (mx (a-p) (p-a)):=by
 unfold impl_Road_gap.f
 simp only[Bool.false_eq_true,if_false]
 rw[mx_abs (s:=s) h0 h1]
theorem l2Gap_eq (s a p:Int) (h0:0≤a∧a≤1000000) (h1:0≤p∧p≤1000000):spec_l2Gap.f s false a p=some (mx (a-p) (p-a)):=by
 unfold spec_l2Gap.f
 simp only[l1Most_eq,Option.bind_some,Bool.false_eq_true,if_false]
 rw[mx_abs (s:=s) h0 h1]
def gapv (p q:Int):Int:=mx (p-q) (q-p)
theorem l7Steps_eq (s:Int) (c0 c1 c2 a t:Int) (h0:0≤c0∧c0≤1000) (h1:0≤a∧a≤1000) (h2:0≤t∧t≤1000):spec_l7Steps.f s false c0 c1 c2 a t=some (gapv c0 a+(t-a)):=by
 unfold spec_l7Steps.f gapv
 rw[l2Gap_eq s c0 a (by omega) (by omega)]
 simp only[Option.bind_some]
 have:0≤mx (c0-a) (a-c0)∧mx (c0-a) (a-c0)≤1000:=by unfold mx;split<;>omega
 rw[w64 (x:=mx (c0-a) (a-c0)+t) (by omega) (by omega),w64 (by omega) (by omega)]
 congr 1
 omega
theorem steps_eq (s:Int) (c0 c1 c2 a t:Int) (h0:0≤c0∧c0≤1000) (h1:0≤a∧a≤1000) (h2:a≤t∧t≤1000):impl_Road_steps.f s false c0 c1 c2 a t=some (gapv c0 a+(t-a)):=by
 unfold impl_Road_steps.f gapv
 rw[gap_eq s c0 a (by omega) (by omega),gap_eq s a t (by omega) (by omega)]
 simp only[Option.bind_some]
 have:0≤mx (c0-a) (a-c0)∧mx (c0-a) (a-c0)≤1000:=by unfold mx;split<;>omega
 have e:mx (a-t) (t-a)=t-a:=by unfold mx;split<;>omega
 rw[e,w64 (by omega) (by omega)]
theorem l3Line_eq (s:Int) (r:Bool) (a:Int):spec_l3Line.f s r a=some (lineV s r&&inR 0 (s-1) a):=by
 unfold spec_l3Line.f lineV
 simp only[l2Road_eq,l1In_eq,Option.bind_some]
 cases h:inR 2 24 s with
 | false=>simp
 | true=>
  have hs:=inR_iff.1 h
  rw[w64 (by omega) (by omega)]
  cases r<;>simp
theorem allWithin_ev (l:List Int) (a b:Int) (hl:l.length≤1152921504606846976):Ev (fun k=>impl_allWithin.f k l a b) (inAll a b l):=by
 have key:=down (P:=fun i=>Ev (fun k=>impl_allWithin.l0 k a b l (l.length:Int) (i:Int)) (inAll a b (l.drop i))) (n:=l.length)
  (ev_now (fun k=>by
   simp only[impl_allWithin.l0]
   rw[if_neg (by omega)]
   simp[inAll_nil]))
  (fun i hi ih=>by
   rw[drop_cons hi,inAll_cons]
   cases hc:inR a b (rd l (i:Int))with
   | true=>
    rw[Bool.true_and]
    refine Ev.step (fun k=>?_) ih
    simp only[impl_allWithin.l0,within_eq,Option.bind_some,hc,if_true]
    rw[if_pos (by omega),if_pos (by omega),if_pos (by omega),w64s hi hl]
   | false=>
    refine ev_now (fun k=>?_)
    simp only[impl_allWithin.l0,within_eq,Option.bind_some,hc,Bool.false_eq_true,if_false]
    rw[if_pos (by omega),if_pos (by omega),if_pos (by omega)]
    simp)
 exact key 0 (by omega)
def carC (s:Int) (l:List S63) (j:Nat):Prop:=(0≤(l.getD j z63).f0∧(l.getD j z63).f0≤s-1)∧(0≤(l.getD j z63).f1∧(l.getD j z63).f1≤48)∧0≤(l.getD j z63).f2∧(l.getD j z63).f2≤20
instance (s:Int) (l:List S63):DecidablePred (carC s l):=fun j=>by unfold carC;infer_instance
def carV (s:Int) (r:Bool) (l:List S63):Bool:=(lineV s r&&decide ((l.length:Int)≤6))&&allF l.length (carC s l) 0
theorem carV_of {s:Int} {r:Bool} {l:List S63} (h:carV s r l=true): ((2≤s∧s≤24)∧r=false)∧l.length≤6∧∀ j,j<l.length→carC s l j:=by
 unfold carV at h
 rw[Bool.and_eq_true,Bool.and_eq_true]at h
 have:=of_decide_eq_true h.1.2
 exact⟨line_of h.1.1,by omega,allF_of h.2⟩
theorem rdC_nat (l:List S63) (j:Nat):rd_T63 l (j:Int)=l.getD j z63:=rfl
theorem l7Carriers_ev (s:Int) (r:Bool) (l:List S63) (hl:l.length≤1048576):Ev (fun k=>spec_l7Carriers.f k s r l) (carV s r l):=by
 have key:=down (P:=fun i=>Ev (fun k=>spec_l7Carriers.l0 k l (i:Int) s r) ((lineV s r&&decide ((l.length:Int)≤6))&&allF l.length (carC s l) i)) (n:=l.length)
  (ev_now (fun k=>by
   simp only[spec_l7Carriers.l0,l2Road_eq,Option.bind_some]
   rw[if_neg (by omega),allF_end]
   unfold lineV
   cases inR 2 24 s<;>cases r<;>simp))
  (fun i hi ih=>by
   rw[allF_step hi]
   have e3:∀ k,spec_l7Carriers.l0 (k+1) l (i:Int) s r=if((lineV s r&&inR 0 (s-1) (l.getD i z63).f0)&& (inR 0 48 (l.getD i z63).f1&&inR 0 20 (l.getD i z63).f2))=true then spec_l7Carriers.l0 k l ((i+1:Nat):Int) s r else some false:=by
    intro k
    simp only[spec_l7Carriers.l0,spec_l7Carrier.f,l3Line_eq,l1In_eq,Option.bind_some,rdC_nat]
    rw[if_pos (by omega),if_pos (by omega),w64s hi (by omega)]
    cases(lineV s r&&inR 0 (s-1) (l.getD i z63).f0)<;>cases inR 0 48 (l.getD i z63).f1<;>cases inR 0 20 (l.getD i z63).f2<;>rfl
   cases hL:lineV s r with
   | false=>
    refine ev_now (fun k=>?_)
    rw[e3,hL];simp
   | true=>
    rw[hL]at ih
    by_cases hc:carC s l i
    ·rw[decide_eq_true hc,Bool.true_and]
     refine Ev.step (fun k=>?_) ih
     rw[e3,hL,Bool.true_and,inR_iff.2 hc.1,inR_iff.2 hc.2.1,inR_iff.2 hc.2.2]
     rfl
    ·rw[decide_eq_false hc,Bool.false_and,Bool.and_false]
     refine ev_now (fun k=>?_)
     rw[e3,hL,Bool.true_and,if_neg]
     intro h
     simp only[Bool.and_eq_true,inR_iff]at h
     exact hc ⟨h.1,h.2.1,h.2.2⟩)
 exact key 0 (by omega)
theorem areCarriers_ev (s:Int) (r:Bool) (l:List S63) (hl:l.length≤1048576) (hs:2≤s∧s≤24):Ev (fun k=>impl_Road_areCarriers.f k s r l) (decide ((l.length:Int)≤6)&&allF l.length (carC s l) 0):=by
 have key:=down (P:=fun i=>Ev (fun k=>impl_Road_areCarriers.l0 k l l (l.length:Int) (i:Int) s r) (decide ((l.length:Int)≤6)&&allF l.length (carC s l) i)) (n:=l.length)
  (ev_now (fun k=>by
   simp only[impl_Road_areCarriers.l0]
   rw[if_neg (by omega),allF_end,Bool.and_true]))
  (fun i hi ih=>by
   rw[allF_step hi]
   have hh:Ev (fun k=>impl_Road_has.f k s r [(l.getD i z63).f0]) (inR 0 (s-1) (l.getD i z63).f0):=by
    unfold impl_Road_has.f
    rw[w64 (by omega) (by omega)]
    have:=allWithin_ev [(l.getD i z63).f0] 0 (s-1) (by simp)
    have e:inAll 0 (s-1) [(l.getD i z63).f0]=inR 0 (s-1) (l.getD i z63).f0:=by simp[inAll]
    rw[e]at this
    exact Ev.bind this (Ev.now _)
   refine Ev.step (f:=fun k=>(impl_Road_has.f k s r [(l.getD i z63).f0]).bind fun t=>if t=true then(if(inR 0 48 (l.getD i z63).f1&&inR 0 20 (l.getD i z63).f2)=true then impl_Road_areCarriers.l0 k l l (l.length:Int) ((i+1:Nat):Int) s r else some false)else some false) (fun k=>?_) (Ev.bind hh ?_)
   ·simp only[impl_Road_areCarriers.l0,within_eq,Option.bind_some,rdC_nat]
    rw[if_pos (by omega),if_pos (by omega),if_pos (by omega),w64s hi (by omega)]
    cases inR 0 48 (l.getD i z63).f1<;>cases inR 0 20 (l.getD i z63).f2<;>rfl
   ·by_cases hc:carC s l i
    ·rw[decide_eq_true hc,Bool.true_and]
     exact ev_pos (inR_iff.2 hc.1) (ev_pos (by rw[inR_iff.2 hc.2.1,inR_iff.2 hc.2.2];rfl) ih)
    ·rw[decide_eq_false hc,Bool.false_and,Bool.and_false]
     by_cases h1:inR 0 (s-1) (l.getD i z63).f0=true
     ·exact ev_pos h1 (ev_neg (fun h2=>by
       simp only[Bool.and_eq_true,inR_iff]at h2
       exact hc ⟨inR_iff.1 h1,h2.1,h2.2⟩) (Ev.now _))
     ·exact ev_neg h1 (Ev.now _))
 exact key 0 (by omega)
def asksV (s:Int) (r:Bool) (l:List S63) (a b:Int):Bool:=carV s r l&& (inR 0 (s-1) b&&inR 0 b a)
theorem asks_of {s:Int} {r:Bool} {l:List S63} {a b:Int} (h:asksV s r l a b=true):carV s r l=true∧(0≤a∧a≤b∧b≤s-1):=by
 unfold asksV at h
 simp only[Bool.and_eq_true,inR_iff]at h
 exact⟨h.1,by omega⟩
theorem l7Asks_ev (s:Int) (r:Bool) (l:List S63) (a b:Int) (hl:l.length≤1048576):Ev (fun k=>spec_l7Asks.f k s r l a b) (asksV s r l a b):=by
 unfold spec_l7Asks.f asksV
 refine Ev.bind (l7Carriers_ev s r l hl) ?_
 cases hv:carV s r l with
 | true=>
  obtain⟨⟨hs,rfl⟩,_⟩:=carV_of hv
  simp only[if_true,spec_l2Place.f,l2Road_eq,l1In_eq,Option.bind_some]
  rw[inR_iff.2 hs,w64 (by omega) (by omega)]
  cases inR 0 (s-1) b<;>simp<;>exact Ev.now _
 | false=>
  simp only[Bool.false_eq_true,if_false,Bool.false_and]
  exact Ev.now _
theorem isCarried_ev (s:Int) (r:Bool) (l:List S63) (a b:Int) (hl:l.length≤1048576):Ev (fun k=>impl_isCarried.f k s r l [a,b]) (asksV s r l a b):=by
 unfold impl_isCarried.f asksV
 simp only[isLine_eq,Option.bind_some]
 cases hL:lineV s r with
 | false=>
  have:carV s r l=false:=by unfold carV;rw[hL];simp
  rw[this]
  simp only[Bool.false_eq_true,if_false,Bool.false_and]
  exact Ev.now _
 | true=>
  obtain⟨hs,rfl⟩:=line_of hL
  have e:carV s false l=(decide ((l.length:Int)≤6)&&allF l.length (carC s l) 0):=by unfold carV;rw[hL];rfl
  simp only[if_true]
  refine Ev.bind (areCarriers_ev s false l hl hs) ?_
  rw[←e]
  cases carV s false l with
  | false=>
   simp only[Bool.false_eq_true,if_false,Bool.false_and]
   exact Ev.now _
  | true=>
   simp only[if_true,Bool.true_and]
   have hh:Ev (fun k=>impl_Road_has.f k s false [a,b]) (inAll 0 (s-1) [a,b]):=by
    unfold impl_Road_has.f
    rw[w64 (by omega) (by omega)]
    exact Ev.bind (allWithin_ev [a,b] 0 (s-1) (by simp)) (Ev.now _)
   refine Ev.bind hh ?_
   have es:Ev (fun k=>slices_IsSorted_int_int.f k [a,b]) (decide (a≤b)):=by
    unfold slices_IsSorted_int_int.f
    have e1:wrap64 ((([a,b]:List Int).length:Int)-1)=1:=by rw[w64 (by simp) (by simp)];simp
    rw[e1]
    have e0:wrap64 (1-1)=0:=by rw[w64 (by omega) (by omega)];rfl
    refine Ev.step (f:=fun k=>if b<a then some false else slices_IsSorted_int_int.l0 k [a,b] 0) (fun k=>?_) ?_
    ·simp only[slices_IsSorted_int_int.l0,e0,cmp_Less_int.f,cmp_isNaN_int.f,Option.bind_some]
     have r0:rd [a,b] 0=a:=rfl
     have r1:rd [a,b] 1=b:=rfl
     rw[if_pos (by omega),if_pos (by omega),if_pos (by simp),if_pos (by omega),if_pos (by simp),r0,r1]
     by_cases h:b<a<;>simp[h]
    ·by_cases h:b<a
     ·refine ev_pos h ?_
      rw[decide_eq_false (by omega)]
      exact Ev.now _
     ·refine ev_neg h (ev_now (fun k=>?_))
      simp only[slices_IsSorted_int_int.l0]
      rw[if_neg (by omega),decide_eq_true (by omega)]
   by_cases hA:inAll 0 (s-1) [a,b]=true
   ·refine ev_pos hA (Ev.bind es ?_)
    have hA': (0≤a∧a≤s-1)∧(0≤b∧b≤s-1):=by simpa [inAll,inR]using hA
    have: (inR 0 (s-1) b&&inR 0 b a)=decide (a≤b):=by
     rw[inR_iff.2 hA'.2,Bool.true_and]
     unfold inR
     exact decide_eq_decide.2 (by omega)
    rw[this]
    exact Ev.now _
   ·refine ev_neg hA ?_
    have: (inR 0 (s-1) b&&inR 0 b a)=false:=by
     rw[Bool.eq_false_iff]
     intro h
     simp only[Bool.and_eq_true,inR_iff]at h
     exact hA (inAll_iff.2 (fun x hx=>by
      simp only[List.mem_cons,List.mem_nil_iff,or_false]at hx
      rcases hx with rfl|rfl<;>omega))
    rw[this]
    exact Ev.now _
theorem copied_eq (l:List Int) (h:l.length≤1048576):impl_copied.f l=some l:=by
 unfold impl_copied.f
 simp only[Option.bind_some,List.length_nil,List.nil_append]
 rw[if_pos (by omega)]
def stp (s:Int) (c:S63) (x:Int):Int:=mn (s-1) (x+mx 0 (c.f1-mx (c.f0-x) (x-c.f0)))
def rch (s:Int) (l:List S63) (o:List Int) (a:Int):Int:=o.foldl (fun x i=>stp s (l.getD i.toNat z63) x) a
theorem stp_in {s:Int} {c:S63} {x:Int} (hx:0≤x∧x≤s-1):x≤stp s c x∧stp s c x≤s-1:=by
 have h1:=mx_ge 0 (c.f1-mx (c.f0-x) (x-c.f0))
 have h2:=mn_le (s-1) (x+mx 0 (c.f1-mx (c.f0-x) (x-c.f0)))
 unfold stp
 omega
def okO (n:Nat) (o:List Int):Prop:=o.length≤1000∧∀ x∈o,∃ i:Nat,x=(i:Int)∧i<n
theorem legEnd_eq (s:Int) (c:S63) (x:Int) (hs:2≤s∧s≤24) (hx:0≤x∧x≤s-1) (hc: (0≤c.f0∧c.f0≤s-1)∧(0≤c.f1∧c.f1≤1000)):∃ b,impl_Road_legEnd.f s false c.f0 c.f1 c.f2 x=some (stp s c x,b):=by
 unfold impl_Road_legEnd.f
 rw[gap_eq s _ _ (by omega) (by omega),Option.bind_some]
 have h1:=mx_ge (c.f0-x) (x-c.f0)
 have h2:=mx_ge 0 (c.f1-mx (c.f0-x) (x-c.f0))
 rw[w64 (x:=c.f1-mx (c.f0-x) (x-c.f0)) (by omega) (by omega),w64 (x:=s-1) (by omega) (by omega),w64 (by omega) (by omega)]
 exact⟨_,rfl⟩
def saneC (s:Int) (l:List S63):Prop:=∀ j,j<l.length→(0≤(l.getD j z63).f0∧(l.getD j z63).f0≤s-1)∧(0≤(l.getD j z63).f1∧(l.getD j z63).f1≤1000)
theorem sane_of {s:Int} {r:Bool} {l:List S63} (h:carV s r l=true):saneC s l:=fun j hj=>by
 have:=(carV_of h).2.2 j hj
 exact⟨this.1,this.2.1.1,by have:=this.2.1.2;omega⟩
theorem orderReach_ev (s:Int) (l:List S63) (o:List Int) (a:Int) (hs:2≤s∧s≤24) (hl:saneC s l) (ho:okO l.length o) (ha:0≤a∧a≤s-1):Ev (fun k=>impl_Road_orderReach.f k s false l o a) (rch s l o a):=by
 obtain⟨ho1,ho2⟩:=ho
 have key:=down (P:=fun i=>∀ x:Int,0≤x∧x≤s-1→Ev (fun k=>impl_Road_orderReach.l0 k l x o (o.length:Int) (i:Int) s false) (rch s l (o.drop i) x)) (n:=o.length)
  (fun x _=>ev_now (fun k=>by simp only[impl_Road_orderReach.l0];rw[if_neg (by omega)];simp[rch]))
  (fun i hi ih x hx=>by
   obtain⟨j,e,hj⟩:=ho2 _ (mem_of_rd hi)
   obtain⟨b,eb⟩:=legEnd_eq s (l.getD j z63) x hs hx (hl j hj)
   have hst:=stp_in (s:=s) (c:=l.getD j z63) hx
   rw[drop_cons hi]
   refine Ev.step (fun k=>?_) (ih (stp s (l.getD j z63) x) (by omega)|>fun z=>by
    have e2:rch s l (rd o (i:Int)::o.drop (i+1)) x=rch s l (o.drop (i+1)) (stp s (l.getD j z63) x):=by
     unfold rch;rw[List.foldl_cons,e,Int.toNat_natCast]
    rw[e2];exact z)
   simp only[impl_Road_orderReach.l0]
   rw[if_pos (by omega),if_pos (by omega),if_pos (by omega),e,if_pos (by omega),if_pos (by omega),rdC_nat,eb,Option.bind_some,w64s hi (by omega)])
 exact key 0 (by omega) a ha
def exO (n:Nat) (o:List Int) (x:Nat):List (List Int):=(((List.range n).drop x).filter (fun y:Nat=>decide ((y:Int) ∉ o))).map (fun y:Nat=>o++[(y:Int)])
theorem exO_end (n:Nat) (o:List Int):exO n o n=[]:=by unfold exO;rw[List.drop_eq_nil_of_le (by simp)];rfl
theorem exO_step {n x:Nat} (o:List Int) (h:x<n):exO n o x=if(x:Int)∈o then exO n o (x+1)else(o++[(x:Int)])::exO n o (x+1):=by
 unfold exO
 rw[List.drop_eq_getElem_cons (by simpa using h),List.getElem_range,List.filter_cons]
 by_cases hm: (x:Int)∈o
 ·simp[hm]
 ·simp[hm]
theorem exO_len (n:Nat) (o:List Int) (x:Nat): (exO n o x).length≤n-x:=by
 unfold exO
 rw[List.length_map]
 refine Nat.le_trans (List.length_filter_le _ _) ?_
 simp
def lv (n:Nat):Nat→List (List Int)
 | 0=>[[]]
 | m+1=>(lv n m).flatMap (fun o=>exO n o 0)
theorem exO_mem {n:Nat} {o p:List Int} (h:p∈exO n o 0):∃ y:Nat,y<n∧p=o++[(y:Int)]:=by
 unfold exO at h
 simp only[List.drop_zero,List.mem_map,List.mem_filter,List.mem_range]at h
 obtain⟨y,⟨hy,_⟩,rfl⟩:=h
 exact⟨y,hy,rfl⟩
theorem lv_ok (n:Nat):∀ m,∀ o∈lv n m,o.length=m∧∀ x∈o,∃ i:Nat,x=(i:Int)∧i<n
 | 0=>by intro o ho;simp only[lv,List.mem_singleton]at ho;subst ho;simp
 | m+1=>by
  intro o ho
  simp only[lv,List.mem_flatMap]at ho
  obtain⟨p,hp,ho⟩:=ho
  obtain⟨h1,h2⟩:=lv_ok n m p hp
  obtain⟨y,hy,rfl⟩:=exO_mem ho
  refine⟨by simp[h1],fun x hx=>?_⟩
  simp only[List.mem_append,List.mem_singleton]at hx
  rcases hx with hx|rfl
  ·exact h2 x hx
  ·exact⟨y,rfl,hy⟩
theorem lv_okO {n m:Nat} (hm:m≤1000) {o:List Int} (h:o∈lv n m):okO n o:=⟨by have:=(lv_ok n m o h).1;omega,(lv_ok n m o h).2⟩
theorem lv_sizes:∀ n:Nat,n≤6→(∀ m:Nat,m≤7→(lv n m).length≤720)∧(∀ m:Nat,m≤n→(lv n m).length≠0)∧(lv n (n+1)).length=0:=by decide+kernel
theorem contains_ev (o:List Int) (x:Int) (h:o.length≤1000):Ev (fun k=>slices_Contains_int_int.f k o x) (decide (x∈o)):=by
 have key:=down (P:=fun i=>∃ r:Int,Ev (fun k=>slices_Index_int_int.l0 k o x (o.length:Int) (i:Int)) r∧decide (r≥0)=decide (x∈o.drop i)) (n:=o.length)
  ⟨-1,ev_now (fun k=>by simp only[slices_Index_int_int.l0];rw[if_neg (by omega)]),by simp⟩
  (fun i hi ih=>by
   rw[drop_cons hi]
   by_cases e:x=rd o (i:Int)
   ·refine⟨(i:Int),ev_now (fun k=>?_),by simp[←e]⟩
    simp only[slices_Index_int_int.l0]
    rw[if_pos (by omega),if_pos (by omega),if_pos (by omega),if_pos e]
   ·obtain⟨r,h1,h2⟩:=ih
    refine⟨r,Ev.step (fun k=>?_) h1,by rw[h2];simp[e]⟩
    simp only[slices_Index_int_int.l0]
    rw[if_pos (by omega),if_pos (by omega),if_pos (by omega),if_neg e,w64s hi (by omega)])
 obtain⟨r,h1,h2⟩:=key 0 (by omega)
 unfold slices_Contains_int_int.f
 refine Ev.bind (g:=fun k=>slices_Index_int_int.f k o x) (a:=r) h1 ?_
 rw[h2]
 exact Ev.now _
def seek (p:List Int→Bool) (n:Nat):Nat→Nat→Option (List Int)
 | 0,_=>none
 | j+1,m=>match(lv n m).find? p with
  | some o=>some o
  | none=>seek p n j (m+1)
def orderR (s:Int) (r:Bool) (l:List S63) (a b:Int):List Int × Bool:=
 if asksV s r l a b=true then(match seek (fun o=>decide (b≤rch s l o a)) l.length (l.length+1) 0 with|some o=>(o,true)|none=>([],false))else([],false)
theorem seek_mem {p:List Int→Bool} {n:Nat}:∀ {j m o},seek p n j m=some o→p o=true∧∃ m',m≤m'∧m'<m+j∧o∈lv n m'
 | 0,_,_,h=>by simp[seek]at h
 | j+1,m,o,h=>by
  unfold seek at h
  cases hf: (lv n m).find? p with
  | some q=>
   rw[hf]at h
   obtain rfl:=Option.some.inj h
   exact⟨List.find?_some hf,m,by omega,by omega,List.mem_of_find?_eq_some hf⟩
  | none=>
   rw[hf]at h
   obtain⟨h1,m',h2,h3,h4⟩:=seek_mem h
   exact⟨h1,m',by omega,by omega,h4⟩
theorem ext_impl (l:List S63) (a b best s:Int) (os:List (List Int)) (o:List Int) (i:Nat) (hn:l.length≤6) (ho:o.length≤1000) (hi:i<os.length) (R):
  ∀ x,x≤l.length→∀ acc:List (List Int),acc.length+(l.length-x)≤1000000→Ev (fun k=>impl_Road_reachOrder.l1 k l a b best (acc++exO l.length o x) os (os.length:Int) (wrap64 ((i:Int)+1)) s false) R→
   Ev (fun k=>impl_Road_reachOrder.l2 k l a b best acc o os (os.length:Int) (i:Int) (l.length:Int) (x:Int) s false) R:=by
 refine down (P:=fun x=>∀ acc:List (List Int),acc.length+(l.length-x)≤1000000→Ev (fun k=>impl_Road_reachOrder.l1 k l a b best (acc++exO l.length o x) os (os.length:Int) (wrap64 ((i:Int)+1)) s false) R→Ev (fun k=>impl_Road_reachOrder.l2 k l a b best acc o os (os.length:Int) (i:Int) (l.length:Int) (x:Int) s false) R) ?_ ?_
 ·intro acc _ h
  rw[exO_end,List.append_nil]at h
  refine Ev.step (fun k=>?_) h
  simp only[impl_Road_reachOrder.l2]
  rw[if_neg (by omega)]
 ·intro x hx ih acc hb h
  rw[exO_step _ hx]at h
  refine Ev.step (f:=fun k=>(slices_Contains_int_int.f k o (x:Int)).bind fun t=>if t=true then impl_Road_reachOrder.l2 k l a b best acc o os (os.length:Int) (i:Int) (l.length:Int) ((x+1:Nat):Int) s false else impl_Road_reachOrder.l2 k l a b best (acc++[o++[(x:Int)]]) o os (os.length:Int) (i:Int) (l.length:Int) ((x+1:Nat):Int) s false) (fun k=>?_) (Ev.bind (contains_ev _ _ ho) ?_)
  ·simp only[impl_Road_reachOrder.l2,copied_eq _ (show o.length≤1048576 by omega),Option.bind_some]
   rw[if_pos (by omega),if_pos (by omega),if_pos (by omega),w64s hx (by omega)]
  ·by_cases hm: (x:Int)∈o
   ·rw[if_pos hm]at h
    exact ev_pos (decide_eq_true hm) (ih acc (by omega) h)
   ·rw[if_neg hm]at h
    refine ev_neg (by simpa using hm) (ih _ (by simp;omega) ?_)
    rw[List.append_assoc,List.singleton_append]
    exact h
theorem reachOrder_ev (s:Int) (l:List S63) (a b:Int) (hs:2≤s∧s≤24) (hl:saneC s l) (hn:l.length≤6) (hab:0≤a∧a≤s-1):
  ∃ r2,Ev (fun k=>impl_Road_reachOrder.f k s false l a b) ((seek (fun o=>decide (b≤rch s l o a)) l.length (l.length+1) 0).getD [],r2):=by
 have key:=down (P:=fun m=>∀ best:Int,∃ r2,Ev (fun k=>impl_Road_reachOrder.l0 k l a b best (lv l.length m) s false) ((seek (fun o=>decide (b≤rch s l o a)) l.length (l.length+1-m) m).getD [],r2)) (n:=l.length+1)
  (fun best=>⟨best,ev_now (fun k=>by
   have:=(lv_sizes l.length hn).2.2
   simp only[impl_Road_reachOrder.l0]
   rw[if_neg (by omega),Nat.sub_self]
   rfl)⟩)
  (fun m hm ih best=>by
   have e:l.length+1-m=(l.length+1-(m+1))+1:=by omega
   rw[e]
   have hz:=(lv_sizes l.length hn).1 m (by omega)
   have hz0:=(lv_sizes l.length hn).2.1 m (by omega)
   have k2:=down (P:=fun i=>∀ (best:Int) (acc:List (List Int)),acc.length+((lv l.length m).length-i)*6≤1000000→acc++((lv l.length m).drop i).flatMap (fun o=>exO l.length o 0)=lv l.length (m+1)→∃ r2,Ev (fun k=>impl_Road_reachOrder.l1 k l a b best acc (lv l.length m) ((lv l.length m).length:Int) (i:Int) s false) ((match((lv l.length m).drop i).find? (fun o=>decide (b≤rch s l o a))with|some o=>some o|none=>seek (fun o=>decide (b≤rch s l o a)) l.length (l.length+1-(m+1)) (m+1)).getD [],r2)) (n:=(lv l.length m).length)
    (fun best acc _ hacc=>by
     rw[List.drop_length,List.flatMap_nil,List.append_nil]at hacc
     obtain⟨r2,h2⟩:=ih best
     refine⟨r2,?_⟩
     rw[List.drop_length,List.find?_nil]
     refine Ev.step (fun k=>?_) h2
     simp only[impl_Road_reachOrder.l1]
     rw[if_neg (by omega),hacc])
    (fun i hi ih2 best acc hb hacc=>by
     have hg: (lv l.length m).getD i []∈lv l.length m:=by rw[List.getD_eq_getElem?_getD,List.getElem?_eq_getElem hi];exact List.getElem_mem hi
     have hok:okO l.length ((lv l.length m).getD i []):=lv_okO (by omega) hg
     have hr:=orderReach_ev s l _ a hs hl hok hab
     have hx:=exO_len l.length ((lv l.length m).getD i []) 0
     rw[drop_consG [] hi,List.find?_cons]
     have stepe:∀ (r2:Int) (res:List Int),Ev (fun k=>if rch s l ((lv l.length m).getD i []) a≥b then some ((lv l.length m).getD i [],rch s l ((lv l.length m).getD i []) a)else impl_Road_reachOrder.l2 k l a b (mx best (rch s l ((lv l.length m).getD i []) a)) acc ((lv l.length m).getD i []) (lv l.length m) ((lv l.length m).length:Int) (i:Int) (l.length:Int) ((0:Nat):Int) s false) (res,r2)→
       Ev (fun k=>impl_Road_reachOrder.l1 k l a b best acc (lv l.length m) ((lv l.length m).length:Int) (i:Int) s false) (res,r2):=by
      intro r2 res h
      refine Ev.step (f:=fun k=>(impl_Road_orderReach.f k s false l ((lv l.length m).getD i []) a).bind fun t=>if t≥b then some ((lv l.length m).getD i [],t)else impl_Road_reachOrder.l2 k l a b (mx best t) acc ((lv l.length m).getD i []) (lv l.length m) ((lv l.length m).length:Int) (i:Int) (l.length:Int) ((0:Nat):Int) s false) (fun k=>?_) (Ev.bind hr h)
      simp only[impl_Road_reachOrder.l1,show rd_L2 (lv l.length m) (i:Int)=(lv l.length m).getD i []from rfl]
      rw[if_pos (by omega),if_pos (by omega),if_pos (by omega)]
      first
       | rfl
       | (simp only[copied_eq _ (show((lv l.length m).getD i []).length≤1048576 by have:=hok.1;omega),Option.bind_some];rfl)
     by_cases hh:b≤rch s l ((lv l.length m).getD i []) a
     ·rw[decide_eq_true hh]
      exact⟨_,stepe _ _ (ev_pos hh (Ev.now _))⟩
     ·rw[decide_eq_false hh]
      rw[drop_consG [] hi,List.flatMap_cons,←List.append_assoc]at hacc
      obtain⟨r2,h2⟩:=ih2 (mx best (rch s l ((lv l.length m).getD i []) a)) (acc++exO l.length ((lv l.length m).getD i []) 0) (by rw[List.length_append];omega) hacc
      refine⟨r2,stepe _ _ (ev_neg hh ?_)⟩
      refine ext_impl l a b _ s _ _ i hn hok.1 hi _ 0 (by omega) acc (by omega) ?_
      rw[w64s hi (by omega)]
      exact h2)
   obtain⟨r2,h2⟩:=k2 0 (by omega) best [] (by simp;omega) (by simp[lv])
   rw[List.drop_zero]at h2
   refine⟨r2,Ev.step (f:=fun k=>impl_Road_reachOrder.l1 k l a b best [] (lv l.length m) ((lv l.length m).length:Int) ((0:Nat):Int) s false) (fun k=>?_) ?_⟩
   ·simp only[impl_Road_reachOrder.l0]
    rw[if_pos (by omega)]
    rfl
   ·unfold seek
    cases hf: (lv l.length m).find? (fun o=>decide (b≤rch s l o a))with
    | some o=>rw[hf]at h2;exact h2
    | none=>rw[hf]at h2;exact h2)
 exact key 0 (by omega) a
theorem rch_nil (s:Int) (l:List S63) (a:Int):rch s l [] a=a:=rfl
theorem reach3_ev (s:Int) (l:List S63) (a b:Int) (hs:2≤s∧s≤24) (hl:saneC s l) (hn:l.length≤6) (hab:0≤a∧a≤s-1):
  ∃ r2,Ev (fun k=>reachOrder3.f k s false l a b) ((seek (fun o=>decide (b≤rch s l o a)) l.length (l.length+1) 0).getD [],r2,(seek (fun o=>decide (b≤rch s l o a)) l.length (l.length+1) 0).isSome):=by
 obtain⟨r2,h⟩:=reachOrder_ev s l a b hs hl hn hab
 refine⟨r2,?_⟩
 unfold reachOrder3.f
 refine Ev.bind h ?_
 have e:decide ((seek (fun o=>decide (b≤rch s l o a)) l.length (l.length+1) 0).getD []≠[]∨b≤a)=(seek (fun o=>decide (b≤rch s l o a)) l.length (l.length+1) 0).isSome:=by
  cases hk:seek (fun o=>decide (b≤rch s l o a)) l.length (l.length+1) 0 with
  | some o=>
   have hp:=of_decide_eq_true (seek_mem hk).1
   simp only[Option.getD_some,Option.isSome_some]
   refine decide_eq_true ?_
   by_cases ho:o=[]
   ·subst ho;exact .inr hp
   ·exact .inl ho
  | none=>
   simp only[Option.getD_none,Option.isSome_none]
   refine decide_eq_false ?_
   intro h
   rcases h with h|h
   ·exact h rfl
   ·unfold seek at hk
    simp[lv,rch_nil,h]at hk
 dsimp only
 rw[e]
 exact Ev.now _
theorem stp_mono {s:Int} {c:S63} {x y:Int} (h:x≤y) (hy:y≤s-1):stp s c x≤stp s c y:=by
 unfold stp mn mx
 repeat' split
 all_goals omega
theorem bit_sub:∀ c:Nat,c<64→∀ i:Nat,i<6→bitA c i=1→∀ j:Nat,j<6→bitA (c-2^i) j=if j=i then 0 else bitA c j:=by decide+kernel
theorem bit_add:∀ c:Nat,c<64→∀ i:Nat,i<6→bitA c i=0→∀ j:Nat,j<6→bitA (c+2^i) j=if j=i then 1 else bitA c j:=by decide+kernel
theorem bit_all:∀ n:Nat,n≤6→∀ i:Nat,i<n→bitA (2^n-1) i=1:=by decide+kernel
theorem pow_le64 {n:Nat} (h:n≤6):2^n≤64:=Nat.pow_le_pow_right (by omega) h
def pc (c:Nat):Nat→Nat
 | 0=>0
 | i+1=>pc c i+bitA c i
theorem pc_le (c n:Nat):pc c n≤n:=by
 induction n with
 | zero=>exact Nat.le_refl _
 | succ n ih=>have:=bit_cases c n;show pc c n+bitA c n≤n+1;omega
theorem pc_sub {c i:Nat} (hc:c<64) (hi:i<6) (hb:bitA c i=1):∀ n,n≤6→pc (c-2^i) n+(if i<n then 1 else 0)=pc c n
 | 0,_=>by simp[pc]
 | n+1,h=>by
  have ih:=pc_sub hc hi hb n (by omega)
  have hs:=bit_sub c hc i hi hb n (by omega)
  show pc (c-2^i) n+bitA (c-2^i) n+_=pc c n+bitA c n
  rw[hs]
  by_cases e:n=i
  ·subst e
   rw[if_neg (Nat.lt_irrefl _)]at ih
   rw[if_pos rfl,if_pos (by omega),hb]
   omega
  ·rw[if_neg e]
   by_cases h2:i<n
   ·rw[if_pos h2]at ih;rw[if_pos (by omega)];omega
   ·rw[if_neg h2]at ih;rw[if_neg (by omega)];omega
def cellF (s:Int) (l:List S63) (a:Int) (T:List Int) (c:Nat):Nat→Int
 | 0=>a
 | i+1=>if bitA c i=1 then mx (cellF s l a T c i) (stp s (l.getD i z63) (rd T ((c-2^i:Nat):Int)))else cellF s l a T c i
def tbL (s:Int) (l:List S63) (a:Int):Nat→List Int
 | 0=>[]
 | c+1=>tbL s l a c++[cellF s l a (tbL s l a c) c l.length]
theorem tbL_len (s:Int) (l:List S63) (a:Int) (c:Nat): (tbL s l a c).length=c:=by
 induction c with
 | zero=>rfl
 | succ c ih=>show(_++[_]).length=_;rw[List.length_append,ih];rfl
theorem tbL_rd (s:Int) (l:List S63) (a:Int) {c d:Nat} (h:c<d):rd (tbL s l a d) (c:Int)=cellF s l a (tbL s l a c) c l.length:=by
 induction d with
 | zero=>omega
 | succ d ih=>
  show rd (tbL s l a d++[_]) (c:Int)=_
  by_cases e:c=d
  ·subst e
   have:=rd_snoc (tbL s l a c) (cellF s l a (tbL s l a c) c l.length)
   rw[tbL_len]at this
   exact this
  ·rw[rd_app_l (by rw[tbL_len];omega)]
   exact ih (by omega)
def V (s:Int) (l:List S63) (a:Int) (c:Nat):Int:=cellF s l a (tbL s l a c) c l.length
theorem cellF_ge (s:Int) (l:List S63) (a:Int) (T:List Int) (c:Nat):∀ n,a≤cellF s l a T c n∧∀ i,i<n→bitA c i=1→stp s (l.getD i z63) (rd T ((c-2^i:Nat):Int))≤cellF s l a T c n
 | 0=>⟨Int.le_refl _,fun i h=>by omega⟩
 | n+1=>by
  have ih:=cellF_ge s l a T c n
  unfold cellF
  have hm:=mx_ge (cellF s l a T c n) (stp s (l.getD n z63) (rd T ((c-2^n:Nat):Int)))
  by_cases hb:bitA c n=1
  ·rw[if_pos hb]
   refine⟨by omega,fun i hi hbi=>?_⟩
   by_cases e:i=n
   ·subst e;exact hm.2.1
   ·have:=ih.2 i (by omega) hbi;omega
  ·rw[if_neg hb]
   refine⟨ih.1,fun i hi hbi=>?_⟩
   by_cases e:i=n
   ·subst e;exact absurd hbi hb
   ·exact ih.2 i (by omega) hbi
theorem cellF_mem (s:Int) (l:List S63) (a:Int) (T:List Int) (c:Nat):∀ n,cellF s l a T c n=a∨∃ i,i<n∧bitA c i=1∧cellF s l a T c n=stp s (l.getD i z63) (rd T ((c-2^i:Nat):Int))
 | 0=> .inl rfl
 | n+1=>by
  have ih:=cellF_mem s l a T c n
  unfold cellF
  have hm:=mx_ge (cellF s l a T c n) (stp s (l.getD n z63) (rd T ((c-2^n:Nat):Int)))
  have lift:cellF s l a T c n=a∨∃ i,i<n+1∧bitA c i=1∧cellF s l a T c n=stp s (l.getD i z63) (rd T ((c-2^i:Nat):Int)):=by
   rcases ih with h|⟨i,h1,h2,h3⟩
   ·exact .inl h
   ·exact .inr ⟨i,by omega,h2,h3⟩
  by_cases hb:bitA c n=1
  ·rw[if_pos hb]
   rcases hm.2.2 with h|h
   ·rw[h];exact lift
   ·exact .inr ⟨n,by omega,hb,h⟩
  ·rw[if_neg hb];exact lift
def inSet (n c:Nat) (o:List Int):Prop:=o.Nodup∧∀ x∈o,∃ i:Nat,x=(i:Int)∧i<n∧bitA c i=1
theorem rch_snoc (s:Int) (l:List S63) (o:List Int) (i:Nat) (a:Int):rch s l (o++[(i:Int)]) a=stp s (l.getD i z63) (rch s l o a):=by
 unfold rch
 rw[List.foldl_append,List.foldl_cons,List.foldl_nil,Int.toNat_natCast]
theorem V_mem {s:Int} {l:List S63} {a:Int} (hn:l.length≤6):∀ c,c<2^l.length→∃ o,inSet l.length c o∧o.length≤pc c l.length∧V s l a c=rch s l o a:=by
 intro c
 induction c using Nat.strongRecOn with
 | _ c ih=>
  intro hc
  have h64:=pow_le64 hn
  rcases cellF_mem s l a (tbL s l a c) c l.length with h|⟨i,hi,hb,h⟩
  ·exact⟨[],⟨List.nodup_nil,fun x hx=>by simp at hx⟩,by simp,h⟩
  ·have hp:=bit_le hb
   have hpos:=Nat.two_pow_pos i
   obtain⟨o,⟨ho1,ho2⟩,ho3,ho4⟩:=ih (c-2^i) (by omega) (by omega)
   have hs:=bit_sub c (by omega) i (by omega) hb
   refine⟨o++[(i:Int)],⟨?_,fun x hx=>?_⟩,?_,?_⟩
   ·rw[List.nodup_append]
    refine⟨ho1,by simp,fun x hx y hy e=>?_⟩
    simp only[List.mem_singleton]at hy
    subst e
    obtain⟨j,e1,hj,hbj⟩:=ho2 x hx
    have:j=i:=by omega
    subst this
    rw[hs j (by omega),if_pos rfl]at hbj
    omega
   ·simp only[List.mem_append,List.mem_singleton]at hx
    rcases hx with hx|rfl
    ·obtain⟨j,e1,hj,hbj⟩:=ho2 x hx
     rw[hs j (by omega)]at hbj
     by_cases e:j=i
     ·rw[if_pos e]at hbj;omega
     ·rw[if_neg e]at hbj;exact⟨j,e1,hj,hbj⟩
    ·exact⟨i,rfl,hi,hb⟩
   ·have:=pc_sub (by omega) (by omega) hb l.length hn
    rw[if_pos hi]at this
    simp only[List.length_append,List.length_singleton]
    omega
   ·rw[rch_snoc,←ho4]
    show V s l a c=_
    unfold V
    rw[h,tbL_rd s l a (by omega)]
theorem V_in {s:Int} {l:List S63} {a:Int} (hn:l.length≤6) (ha:0≤a∧a≤s-1) (c:Nat) (hc:c<2^l.length):a≤V s l a c∧V s l a c≤s-1:=by
 refine⟨(cellF_ge s l a _ c l.length).1,?_⟩
 obtain⟨o,_,_,h⟩:=V_mem (s:=s) (a:=a) hn c hc
 rw[h]
 have:∀ (o:List Int) (x:Int),0≤x∧x≤s-1→rch s l o x≤s-1:=by
  intro o
  induction o with
  | nil=>intro x hx;exact hx.2
  | cons y o ih=>
   intro x hx
   have:=stp_in (s:=s) (c:=l.getD y.toNat z63) hx
   show rch s l o (stp s (l.getD y.toNat z63) x)≤s-1
   exact ih _ (by omega)
 exact this o a ha
theorem V_ge {s:Int} {l:List S63} {a:Int} (hn:l.length≤6) (ha:0≤a∧a≤s-1):∀ (m:Nat) (o:List Int),o.length=m→∀ c,c<2^l.length→inSet l.length c o→rch s l o a≤V s l a c:=by
 intro m
 induction m with
 | zero=>
  intro o ho c hc _
  have:o=[]:=List.length_eq_zero_iff.1 ho
  subst this
  exact(V_in hn ha c hc).1
 | succ m ih=>
  intro o ho c hc hset
  have hne:o≠[]:=fun e=>by rw[e]at ho;simp at ho
  have eo:=List.dropLast_concat_getLast hne
  obtain⟨h1,h2⟩:=hset
  obtain⟨i,ei,hi,hb⟩:=h2 _ (List.getLast_mem hne)
  have h64:=pow_le64 hn
  have hp:=bit_le hb
  have hpos:=Nat.two_pow_pos i
  rw[ei]at eo
  have hs:=bit_sub c (by omega) i (by omega) hb
  rw[←eo]at h1 h2
  rw[List.nodup_append]at h1
  have hsub:inSet l.length (c-2^i) o.dropLast:=by
   refine⟨h1.1,fun x hx=>?_⟩
   obtain⟨j,e1,hj,hbj⟩:=h2 x (List.mem_append_left _ hx)
   refine⟨j,e1,hj,?_⟩
   rw[hs j (by omega)]
   by_cases e:j=i
   ·subst e
    exact absurd e1 (h1.2.2 x hx _ (List.mem_singleton.2 rfl))
   ·rw[if_neg e];exact hbj
  have hr:=ih o.dropLast (by rw[List.length_dropLast];omega) (c-2^i) (by omega) hsub
  rw[←eo,rch_snoc]
  have hv:=V_in (s:=s) (l:=l) (a:=a) hn ha (c-2^i) (by omega)
  refine Int.le_trans (stp_mono hr hv.2) ?_
  have hg:=(cellF_ge s l a (tbL s l a c) c l.length).2 i hi hb
  rw[tbL_rd s l a (by omega)]at hg
  exact hg
theorem lv_mem {n:Nat}:∀ (m:Nat) (o:List Int),o.length=m→o.Nodup→(∀ x∈o,∃ i:Nat,x=(i:Int)∧i<n)→o∈lv n m
 | 0,o,h,_,_=>by have:o=[]:=List.length_eq_zero_iff.1 h;subst this;simp[lv]
 | m+1,o,h,hd,hx=>by
  have hne:o≠[]:=fun e=>by rw[e]at h;simp at h
  have eo:=List.dropLast_concat_getLast hne
  obtain⟨i,ei,hi⟩:=hx _ (List.getLast_mem hne)
  rw[ei]at eo
  rw[←eo,List.nodup_append]at hd
  simp only[lv,List.mem_flatMap]
  refine⟨o.dropLast,lv_mem m o.dropLast (by rw[List.length_dropLast];omega) hd.1 (fun x hx2=>hx x ((List.dropLast_sublist o).subset hx2)),?_⟩
  unfold exO
  simp only[List.drop_zero,List.mem_map,List.mem_filter,List.mem_range,decide_eq_true_eq]
  exact⟨i,⟨hi,fun hm=>hd.2.2 _ hm _ (List.mem_singleton.2 rfl) rfl⟩,eo⟩
theorem lv_nodup {n:Nat}:∀ (m:Nat) (o:List Int),o∈lv n m→o.Nodup
 | 0,o,h=>by simp only[lv,List.mem_singleton]at h;subst h;exact List.nodup_nil
 | m+1,o,h=>by
  simp only[lv,List.mem_flatMap]at h
  obtain⟨p,hp,ho⟩:=h
  have ih:=lv_nodup m p hp
  unfold exO at ho
  simp only[List.drop_zero,List.mem_map,List.mem_filter,List.mem_range,decide_eq_true_eq]at ho
  obtain⟨y,⟨_,hy⟩,rfl⟩:=ho
  rw[List.nodup_append]
  refine⟨ih,by simp,fun x hx z hz e=>?_⟩
  simp only[List.mem_singleton]at hz
  subst e hz
  exact hy hx
theorem gapv_in (p q:Int):0≤gapv p q∧p-q≤gapv p q∧q-p≤gapv p q∧(gapv p q=p-q∨gapv p q=q-p):=by
 unfold gapv mx
 split<;>omega
def legE (l:List S63) (i:Nat) (x y:Int):Prop:=gapv (l.getD i z63).f0 x+(y-x)≤(l.getD i z63).f1
instance (l:List S63) (i:Nat) (x y:Int):Decidable (legE l i x y):=by unfold legE;infer_instance
def legL (fast:Bool) (l:List S63) (i:Nat) (v x y:Int):Int:=if fast=true then mx v (gapv (l.getD i z63).f0 x)+(y-x)else v+(l.getD i z63).f2*(gapv (l.getD i z63).f0 x+(y-x))
def mkLegs (fast:Bool) {s:Int} (l:List S63) (a b:Int) (h:carV s false l=true):Legs where
 n:=l.length
 a:=a
 b:=b
 E:=legE l
 L:=legL fast l
 Lm:=fun i v v' x y hvv=>by
  unfold legL
  cases fast
  ·simp only[Bool.false_eq_true,if_false];omega
  ·simp only[if_true];unfold mx;split<;>split<;>omega
 Lp:=fun i v x y hv hxy hi he=>by
  have hg:=gapv_in (l.getD i z63).f0 x
  have hc:=((carV_of h).2.2 i hi).2.2
  unfold legL
  cases fast
  ·simp only[Bool.false_eq_true,if_false]
   have:=Int.mul_nonneg hc.1 (show 0≤gapv (l.getD i z63).f0 x+(y-x)by omega)
   omega
  ·simp only[if_true]
   have:=mx_ge v (gapv (l.getD i z63).f0 x)
   omega
theorem leg_bd {fast:Bool} {s:Int} {l:List S63} (h:carV s false l=true) {i:Nat} {v x y:Int} (hi:i<l.length) (hv:0≤v) (hxy:x<y) (he:legE l i x y):legL fast l i v x y≤v+960:=by
 have hg:=gapv_in (l.getD i z63).f0 x
 have hc:=((carV_of h).2.2 i hi).2
 unfold legE at he
 unfold legL
 cases fast
 ·simp only[Bool.false_eq_true,if_false]
  have h1:=Int.mul_le_mul_of_nonneg_right hc.2.2 (show 0≤gapv (l.getD i z63).f0 x+(y-x)by omega)
  omega
 ·simp only[if_true]
  have:=mx_ge v (gapv (l.getD i z63).f0 x)
  omega
theorem Way.bd {G:Legs} (hL:∀ i v x y,i<G.n→0≤v→x<y→G.E i x y→G.L i v x y≤v+960) {c:Nat} {y v:Int} (h:Way G c y v):v≤960*(c:Int):=by
 induction h with
 | start=>omega
 | @leg c x v i y hw hi _ hxy _ he ih=>
  have:=hL i v x y hi hw.pos hxy he
  have hp:0<2^i:=Nat.two_pow_pos i
  omega
theorem way_bd {fast:Bool} {s:Int} {l:List S63} {a b:Int} {h:carV s false l=true} {c:Nat} {y v:Int} (hw:Way (mkLegs fast l a b h) c y v):c<64∧0≤v∧v≤61440:=by
 have h1:=hw.bd (fun i v x y hi hv hxy he=>leg_bd (fast:=fast) h hi hv hxy he)
 have h2:c<2^l.length:=hw.set
 have h3:=pow_le64 (carV_of h).2.1
 have:=hw.pos
 omega
theorem relax_put {T:Nat→Int→Int} {c:Nat} {y v:Int} (h:T c y<0∨v<T c y):relax T c y v=fun c' y'=>if c'=c∧y'=y then v else T c' y':=by
 unfold relax
 rw[if_pos h]
def Good {α:Type} (G:Legs) (r:Int→α) (f:Nat→Option α):Prop:=∃ t,IsBest G t∧Ev f (r t)
theorem Good.step {α:Type} {G:Legs} {r:Int→α} {g f:Nat→Option α} (h:∀ k,g (k+1)=f k) (k:Good G r f):Good G r g:=by
 obtain⟨t,h1,h2⟩:=k
 exact⟨t,h1,Ev.step h h2⟩
theorem Good.congr {α:Type} {G:Legs} {r:Int→α} {g f:Nat→Option α} (h:∀ k,g k=f k) (k:Good G r f):Good G r g:=by
 obtain⟨t,h1,h2⟩:=k
 exact⟨t,h1,Ev.congr h h2⟩
theorem l7End_val (s:Int) (c:S63) (x:Int) (hs:2≤s∧s≤24) (hx:0≤x∧x≤s-1) (hc: (0≤c.f0∧c.f0≤s-1)∧(0≤c.f1∧c.f1≤1000)):spec_l7End.f s false c.f0 c.f1 c.f2 x=some (if c.f1-gapv c.f0 x<0 then-1 else mn (s-1) (x+(c.f1-gapv c.f0 x))):=by
 unfold spec_l7End.f
 rw[l2Gap_eq s _ _ (by omega) (by omega),Option.bind_some]
 have h1:=gapv_in c.f0 x
 unfold gapv at*
 rw[w64 (x:=c.f1-mx (c.f0-x) (x-c.f0)) (by omega) (by omega),w64 (x:=s-1) (by omega) (by omega),w64 (by omega) (by omega)]
 split
 ·rfl
 ·rw[l1Least_eq]
  rfl
def mapT (m:Mt):Nat→Int→Int:=fun c y=>m.f (c:Int) y
def lgc (fast:Bool) (s:Int):Int:=legCode (if fast=true then 1 else 0) s false
theorem leg_val {fast:Bool} {s:Int} (c0 c1 c2 v x y:Int) (h0:0≤c0∧c0≤1000) (h1:0≤x∧x≤1000) (h2:x≤y∧y≤1000) (h3:0≤v∧v≤1000000) (h4:0≤c2*(gapv c0 x+(y-x))∧c2*(gapv c0 x+(y-x))≤1000000):
  leg.f (lgc fast s) c0 c1 c2 v x y=some (if fast=true then mx v (gapv c0 x)+(y-x)else v+c2*(gapv c0 x+(y-x))):=by
 have hg:=gapv_in c0 x
 have hm:=mx_ge v (gapv c0 x)
 unfold lgc
 cases fast with
 | false=>
  have e1:legSize (legCode 0 s false)=s:=by unfold legSize legCode;simp<;>omega
  have e2:legRing (legCode 0 s false)=false:=by unfold legRing legCode;simp<;>omega
  have e3:legCode 0 s false % 2=0:=by unfold legCode;simp<;>omega
  simp only[Bool.false_eq_true,if_false]
  unfold leg.f
  rw[if_pos e3,e1,e2,steps_eq s c0 c1 c2 x y h0 h1 h2,Option.bind_some,w64 (x:=c2*(gapv c0 x+(y-x))) (by omega) (by omega),w64 (by omega) (by omega)]
 | true=>
  have e1:legSize (legCode 1 s false)=s:=by unfold legSize legCode;simp<;>omega
  have e2:legRing (legCode 1 s false)=false:=by unfold legRing legCode;simp<;>omega
  have e3:¬legCode 1 s false % 2=0:=by unfold legCode;simp<;>omega
  simp only[if_true]
  unfold leg.f impl_Road_arrives.f
  rw[if_neg e3,e1,e2,gap_eq s c0 x (by omega) (by omega),gap_eq s x y (by omega) (by omega)]
  simp only[Option.bind_some]
  have e:mx (x-y) (y-x)=y-x:=by unfold mx;split<;>omega
  unfold gapv at*
  rw[e,w64 (by omega) (by omega)]
theorem mapGet_val (m:Mt) (c:Nat) (y:Int) (hc:c<1000) (hy: -1000≤y∧y≤1000):mapGet.f m (c:Int) y=some (if mapT m c y<0 then 0 else mapT m c y,decide (0≤mapT m c y)):=by
 unfold mapGet.f
 rw[if_pos (by omega)]
 rfl
theorem mapPut_val (m:Mt) (c:Nat) (y v:Int) (hc:c<1000) (hy: -1000≤y∧y≤1000) (hv:0≤v∧v≤1000000) (hn:m.n<1000000000):mapPut.f m (c:Int) y v=some ⟨fun y' z=>if y'=(c:Int)∧z=y then v else m.f y' z,m.n+1⟩:=by
 unfold mapPut.f
 rw[if_pos (by omega)]
theorem mapT_put (m:Mt) (c:Nat) (y v:Int):mapT ⟨fun y' z=>if y'=(c:Int)∧z=y then v else m.f y' z,m.n+1⟩=fun c' y'=>if c'=c∧y'=y then v else mapT m c' y':=by
 funext c' y'
 show(if(c':Int)=(c:Int)∧y'=y then v else m.f (c':Int) y')=_
 by_cases e:c'=c∧y'=y
 ·rw[if_pos e,if_pos ⟨by rw[e.1],e.2⟩]
 ·rw[if_neg e,if_neg (fun h=>e ⟨by omega,h.2⟩)]
  rfl
def rI (t:Int):Int × Bool:=(mx 0 t,decide (t≥0))
theorem im_l3 {fast:Bool} {s:Int} {l:List S63} {a b:Int} (hv:carV s false l=true) (ha:0≤a) (hb:b≤s-1) {c i:Nat} {x now best N:Int} {B:Nat} (hB:B≤900000000) (hi:i<l.length) (hc:c<2^l.length) (hx:a≤x∧x≤b)
  (hk:∀ t:Mt,t.n≤B→Handing (mkLegs fast l a b hv) (DP (mkLegs fast l a b hv) c x) (mapT t) c x (fun j _=>j<i+1)→mapT t c x=now→Good (mkLegs fast l a b hv) rI (fun k=>impl_least.l2 k l b (lgc fast s) t best x (c:Int) now N (c:Int) l (l.length:Int) ((i+1:Nat):Int) s false)):
  ∀ (m:Nat) (y:Int),y+m=b+1→x<y→∀ t:Mt,t.n+m≤B→Handing (mkLegs fast l a b hv) (DP (mkLegs fast l a b hv) c x) (mapT t) c x (fun j z=>j<i∨j=i∧z<y)→mapT t c x=now→Good (mkLegs fast l a b hv) rI (fun k=>impl_least.l3 k l b (lgc fast s) t best x (c:Int) now (i:Int) y N (c:Int) l (l.length:Int) (i:Int) s false (l.getD i z63).f0 (l.getD i z63).f1 (l.getD i z63).f2):=by
 obtain⟨⟨hs,_⟩,hn,hcs⟩:=carV_of hv
 have h64:=pow_le64 hn
 have hci:=hcs i hi
 unfold carC at hci
 have c1: (0:Int)≤(i:Int):=Int.natCast_nonneg i
 have out:∀ (y:Int) (t:Mt),t.n≤B→Handing (mkLegs fast l a b hv) (DP (mkLegs fast l a b hv) c x) (mapT t) c x (fun j z=>j<i∨j=i∧z<y)→mapT t c x=now→(∀ z,x<z→z≤b→legE l i x z→c/ 2^i % 2=0→z<y)→
   Good (mkLegs fast l a b hv) rI (fun k=>impl_least.j6 k l b (lgc fast s) t best x (c:Int) now (i:Int) y N (c:Int) l (l.length:Int) (i:Int) false s false (l.getD i z63).f0 (l.getD i z63).f1 (l.getD i z63).f2):=by
  intro y t hd hh hw hz
  refine Good.step (fun k=>?_) (hk t hd (hh.mono (fun j z hj _ hjb h1 h2 h3=>?_)) hw)
  ·simp only[impl_least.j6]
   rw[if_neg (by decide),w64s hi (by omega)]
  ·by_cases e1:j=i
   ·subst e1
    exact Or.inr ⟨rfl,hz z h1 h2 h3 hjb⟩
   ·exact Or.inl (by omega)
 intro m
 induction m with
 | zero=>
  intro y hy hxy t hd hh hw
  refine Good.step (f:=fun k=>impl_least.j6 k l b (lgc fast s) t best x (c:Int) now (i:Int) y N (c:Int) l (l.length:Int) (i:Int) false s false (l.getD i z63).f0 (l.getD i z63).f1 (l.getD i z63).f2) (fun k=>?_) (out y t (by omega) hh hw (fun z _ h2 _ _=>by omega))
  simp only[impl_least.l3]
  rw[if_neg (by omega)]
 | succ m ih=>
  intro y hy hxy t hd hh hw
  have hyb:y≤b:=by omega
  by_cases hbit:bitA c i=0
  ·have hst:=steps_eq s (l.getD i z63).f0 (l.getD i z63).f1 (l.getD i z63).f2 x y (by omega) (by omega) (by omega)
   have e0:∀ k,impl_least.l3 (k+1) l b (lgc fast s) t best x (c:Int) now (i:Int) y N (c:Int) l (l.length:Int) (i:Int) s false (l.getD i z63).f0 (l.getD i z63).f1 (l.getD i z63).f2=impl_least.j6 k l b (lgc fast s) t best x (c:Int) now (i:Int) y N (c:Int) l (l.length:Int) (i:Int) (decide (legE l i x y)) s false (l.getD i z63).f0 (l.getD i z63).f1 (l.getD i z63).f2:=by
    intro k
    simp only[impl_least.l3]
    rw[if_pos hyb,if_pos c1,bit_read (by omega) (by omega),hbit,if_pos (show((0:Nat):Int)=0 from rfl),hst,Option.bind_some]
    rfl
   by_cases hE:legE l i x y
   ·have hc2:c+2^i<2^l.length:=bit_lt hc hi hbit
    have hpos:=Nat.two_pow_pos i
    have hnow:0≤now∧now≤61440:=by have:=way_bd hh.way;omega
    have hlb:=leg_bd (fast:=fast) hv hi hnow.1 hxy hE
    have hl0:0≤legL fast l i now x y:=(mkLegs fast l a b hv).Lp i now x y hnow.1 hxy hi hE
    have hg:=gapv_in (l.getD i z63).f0 x
    have hp:=hh.put (H':=fun j z=>j<i∨j=i∧z<y+1) (i:=i) (y:=y) hi hbit hxy hyb hE (DP_not hxy) (fun j z hj=>by
     rcases hj with h|h
     ·exact Or.inl (Or.inl h)
     ·by_cases ez:z=y
      ·exact Or.inr ⟨h.1,ez⟩
      ·exact Or.inl (Or.inr ⟨h.1,by omega⟩))
    rw[hw]at hp
    have hws:=Handing.same (G:=mkLegs fast l a b hv) (T:=mapT t) (c:=c) (x:=x) (i:=i) (y:=y) (v:=legL fast l i now x y)
    rw[hw]at hws
    change Handing _ _ (relax (mapT t) (c+2^i) y (legL fast l i now x y)) c x _ at hp
    have hidx:Go.bits .or .i64 (c:Int) (shl .i64 1 (i:Int))=((c+2^i:Nat):Int):=bit_on (by omega) (by omega) hbit
    have hy1:wrap64 (y+1)=y+1:=w64 (by omega) (by omega)
    have hlv:leg.f (lgc fast s) (l.getD i z63).f0 (l.getD i z63).f1 (l.getD i z63).f2 now x y=some (legL fast l i now x y):=by
     unfold legE at hE
     have hm1:=Int.mul_le_mul_of_nonneg_right hci.2.2.2 (show 0≤gapv (l.getD i z63).f0 x+(y-x)by omega)
     have hm2:=Int.mul_nonneg hci.2.2.1 (show 0≤gapv (l.getD i z63).f0 x+(y-x)by omega)
     exact leg_val _ _ _ _ _ _ (by omega) (by omega) (by omega) (by omega) (by omega)
    have eb:∀ k,impl_least.j6 (k+1) l b (lgc fast s) t best x (c:Int) now (i:Int) y N (c:Int) l (l.length:Int) (i:Int) true s false (l.getD i z63).f0 (l.getD i z63).f1 (l.getD i z63).f2=if mapT t (c+2^i) y<0∨legL fast l i now x y<mapT t (c+2^i) y then impl_least.l3 k l b (lgc fast s) ⟨fun y' z=>if y'=((c+2^i:Nat):Int)∧z=y then legL fast l i now x y else t.f y' z,t.n+1⟩ best x (c:Int) now (i:Int) (y+1) N (c:Int) l (l.length:Int) (i:Int) s false (l.getD i z63).f0 (l.getD i z63).f1 (l.getD i z63).f2 else impl_least.l3 k l b (lgc fast s) t best x (c:Int) now (i:Int) (y+1) N (c:Int) l (l.length:Int) (i:Int) s false (l.getD i z63).f0 (l.getD i z63).f1 (l.getD i z63).f2:=by
     intro k
     simp only[impl_least.j6,hidx,hy1]
     have hpv:=mapPut_val t (c+2^i) y (legL fast l i now x y) (by omega) (by omega) (by omega) (by omega)
     rw[if_pos True.intro,if_pos c1,hlv,mapGet_val t (c+2^i) y (by omega) (by omega)]
     simp only[Option.bind_some,decide_eq_true_eq,hpv]
     by_cases q1:mapT t (c+2^i) y<0
     ·rw[if_neg (Int.not_le.2 q1),if_pos (Or.inl q1)]
     ·rw[if_pos (Int.not_lt.1 q1),if_neg q1]
      by_cases q2:legL fast l i now x y<mapT t (c+2^i) y
      ·rw[if_pos q2,if_pos (Or.inr q2)]
      ·rw[if_neg q2,if_neg (show ¬(mapT t (c+2^i) y<0∨legL fast l i now x y<mapT t (c+2^i) y)from fun h=>h.elim q1 q2)]
    refine Good.step (f:=fun k=>impl_least.j6 k l b (lgc fast s) t best x (c:Int) now (i:Int) y N (c:Int) l (l.length:Int) (i:Int) true s false (l.getD i z63).f0 (l.getD i z63).f1 (l.getD i z63).f2) (fun k=>by rw[e0,decide_eq_true hE]) ?_
    by_cases q:mapT t (c+2^i) y<0∨legL fast l i now x y<mapT t (c+2^i) y
    ·have hT:mapT ⟨fun y' z=>if y'=((c+2^i:Nat):Int)∧z=y then legL fast l i now x y else t.f y' z,t.n+1⟩=relax (mapT t) (c+2^i) y (legL fast l i now x y):=by rw[mapT_put,relax_put q]
     refine Good.step (fun k=>?_) (ih (y+1) (by omega) (by omega) ⟨fun y' z=>if y'=((c+2^i:Nat):Int)∧z=y then legL fast l i now x y else t.f y' z,t.n+1⟩ (by show t.n+1+m≤B;omega) (by rw[hT];exact hp) (by rw[hT];exact hws))
     rw[eb,if_pos q]
    ·rw[relax_skip q]at hp
     refine Good.step (fun k=>?_) (ih (y+1) (by omega) (by omega) t (by omega) hp hw)
     rw[eb,if_neg q]
   ·refine Good.step (fun k=>by rw[e0,decide_eq_false hE]) (out y t (by omega) hh hw (fun z h1 h2 h3 _=>?_))
    unfold legE at h3 hE
    omega
  ·refine Good.step (fun k=>?_) (out y t (by omega) hh hw (fun z _ _ _ h4=>absurd h4 hbit))
   simp only[impl_least.l3]
   have hb1:=(bit_cases c i).resolve_left hbit
   rw[if_pos hyb,if_pos c1,bit_read (by omega) (by omega),hb1,if_neg (by decide)]
theorem im_l2 {fast:Bool} {s:Int} {l:List S63} {a b:Int} (hv:carV s false l=true) (ha:0≤a) (hb:b≤s-1) {c:Nat} {x now best N:Int} {B:Nat} (hB:B≤900000000) (hc:c<2^l.length) (hx:a≤x∧x≤b)
  (hk:∀ t:Mt,t.n≤B→Filled (mkLegs fast l a b hv) (DP (mkLegs fast l a b hv) (c+1) x) (mapT t)→Good (mkLegs fast l a b hv) rI (fun k=>impl_least.l1 k l b (lgc fast s) t best x N ((c+1:Nat):Int) s false)):
  ∀ i,i≤l.length→∀ t:Mt,t.n+(l.length-i)*24≤B→Handing (mkLegs fast l a b hv) (DP (mkLegs fast l a b hv) c x) (mapT t) c x (fun j _=>j<i)→mapT t c x=now→Good (mkLegs fast l a b hv) rI (fun k=>impl_least.l2 k l b (lgc fast s) t best x (c:Int) now N (c:Int) l (l.length:Int) (i:Int) s false):=by
 obtain⟨⟨hs,_⟩,hn,hcs⟩:=carV_of hv
 have h64:=pow_le64 hn
 have hx1:wrap64 (x+1)=x+1:=w64 (by omega) (by omega)
 refine down (P:=fun i=>∀ t:Mt,t.n+(l.length-i)*24≤B→Handing (mkLegs fast l a b hv) (DP (mkLegs fast l a b hv) c x) (mapT t) c x (fun j _=>j<i)→mapT t c x=now→Good (mkLegs fast l a b hv) rI (fun k=>impl_least.l2 k l b (lgc fast s) t best x (c:Int) now N (c:Int) l (l.length:Int) (i:Int) s false)) ?_ ?_
 ·intro t hd hh _
  refine Good.step (fun k=>?_) (hk t (by omega) (hh.over (fun j z hj _ _ _ _=>hj) DP_next))
  simp only[impl_least.l2]
  rw[if_neg (by omega),w64s hc (by omega)]
 ·intro i hi ih t hd hh hw
  have c1: (i:Int)<(l.length:Int):=Int.ofNat_lt.2 hi
  refine Good.step (f:=fun k=>impl_least.l3 k l b (lgc fast s) t best x (c:Int) now (i:Int) (x+1) N (c:Int) l (l.length:Int) (i:Int) s false (l.getD i z63).f0 (l.getD i z63).f1 (l.getD i z63).f2) (fun k=>?_) ?_
  ·simp only[impl_least.l2,hx1,rdC_nat]
   rw[if_pos c1,if_pos (Int.natCast_nonneg i),if_pos c1]
  ·have e1: (l.length-i)*24=(l.length-(i+1))*24+24:=by omega
   exact im_l3 hv ha hb (B:=B-(l.length-(i+1))*24) (by omega) hi hc hx (fun t' h' hh' hw'=>ih t' (by omega) hh' hw') (b-x).toNat (x+1) (by omega) (by omega) t (by omega) (hh.mono (fun j z hj _ _ h1 _ _=>hj.elim id (fun e=>by omega))) hw
theorem im_l1 {fast:Bool} {s:Int} {l:List S63} {a b:Int} (hv:carV s false l=true) (ha:0≤a) (hab:a≤b) (hb:b≤s-1) {x:Int} {B:Nat} (hB:B≤900000000) (hx:a≤x∧x≤b)
  (hk:∀ (t:Mt) best,t.n≤B→Filled (mkLegs fast l a b hv) (DP (mkLegs fast l a b hv) 0 (x+1)) (mapT t)→BestOn (mkLegs fast l a b hv) (DP (mkLegs fast l a b hv) 0 (x+1)) best→Good (mkLegs fast l a b hv) rI (fun k=>impl_least.l0 k l b (lgc fast s) t best (x+1) s false)):
  ∀ c,c≤2^l.length→∀ (t:Mt) best,t.n+(2^l.length-c)*144≤B→Filled (mkLegs fast l a b hv) (DP (mkLegs fast l a b hv) c x) (mapT t)→BestOn (mkLegs fast l a b hv) (DP (mkLegs fast l a b hv) c x) best→Good (mkLegs fast l a b hv) rI (fun k=>impl_least.l1 k l b (lgc fast s) t best x ((2^l.length:Nat):Int) (c:Int) s false):=by
 obtain⟨⟨hs,_⟩,hn,hcs⟩:=carV_of hv
 have h64:=pow_le64 hn
 refine down (P:=fun c=>∀ (t:Mt) best,t.n+(2^l.length-c)*144≤B→Filled (mkLegs fast l a b hv) (DP (mkLegs fast l a b hv) c x) (mapT t)→BestOn (mkLegs fast l a b hv) (DP (mkLegs fast l a b hv) c x) best→Good (mkLegs fast l a b hv) rI (fun k=>impl_least.l1 k l b (lgc fast s) t best x ((2^l.length:Nat):Int) (c:Int) s false)) ?_ ?_
 ·intro t best hd hf hbe
  refine Good.step (fun k=>?_) (hk t best (by omega) (hf.sub DP_row) (hbe.sub DP_row))
  simp only[impl_least.l1]
  rw[if_neg (Int.lt_irrefl _),w64 (x:=x+1) (by omega) (by omega)]
 ·intro c hc ih t best hd hf hbe
  have hl:=DP_least (G:=mkLegs fast l a b hv) (c:=c) (x:=x) hab hf
  have e1: (2^l.length-c)*144=(2^l.length-(c+1))*144+144:=by omega
  have eb:∀ k,impl_least.l1 (k+1) l b (lgc fast s) t best x ((2^l.length:Nat):Int) (c:Int) s false=if 0≤mapT t c x then(if x=b then(if best<0 then impl_least.j2 k l b (lgc fast s) t best x (c:Int) (mapT t c x) ((2^l.length:Nat):Int) (c:Int) true s false else impl_least.j2 k l b (lgc fast s) t best x (c:Int) (mapT t c x) ((2^l.length:Nat):Int) (c:Int) (decide (mapT t c x<best)) s false)else impl_least.j2 k l b (lgc fast s) t best x (c:Int) (mapT t c x) ((2^l.length:Nat):Int) (c:Int) false s false)else impl_least.l1 k l b (lgc fast s) t best x ((2^l.length:Nat):Int) ((c+1:Nat):Int) s false:=by
   intro k
   simp only[impl_least.l1,w64s hc (show 2^l.length≤1152921504606846976 by omega)]
   rw[if_pos (Int.ofNat_lt.2 hc),mapGet_val t c x (by omega) (by omega)]
   simp only[Option.bind_some,decide_eq_true_eq]
   by_cases q:0≤mapT t c x
   ·rw[if_pos q,if_pos q,if_neg (show ¬mapT t c x<0 by omega)]
   ·rw[if_neg q,if_neg q]
  by_cases h0:mapT t c x<0
  ·refine Good.step (fun k=>?_) (ih t best (by omega) (hf.skip hl h0 DP_next) (hbe.none hl h0 DP_next))
   rw[eb,if_neg (by omega)]
  ·have hp:0≤mapT t c x:=by omega
   have hh:=hf.begin hl hp
   have goj3:∀ best',BestOn (mkLegs fast l a b hv) (DP (mkLegs fast l a b hv) (c+1) x) best'→Good (mkLegs fast l a b hv) rI (fun k=>impl_least.j3 k l b (lgc fast s) t best' x (c:Int) (mapT t c x) ((2^l.length:Nat):Int) (c:Int) s false):=by
    intro best' hb'
    refine Good.step (f:=fun k=>impl_least.l2 k l b (lgc fast s) t best' x (c:Int) (mapT t c x) ((2^l.length:Nat):Int) (c:Int) l (l.length:Int) ((0:Nat):Int) s false) (fun k=>by simp only[impl_least.j3];rfl) ?_
    exact im_l2 hv ha hb (B:=B-(2^l.length-(c+1))*144) (by omega) hc hx (fun t' h' hf'=>ih t' best' (by omega) hf' hb') 0 (Nat.zero_le _) t (by omega) (hh.mono (fun j z hj _ _ _ _ _=>absurd hj (Nat.not_lt_zero j))) rfl
   have goT:∀ best',BestOn (mkLegs fast l a b hv) (DP (mkLegs fast l a b hv) (c+1) x) (mapT t c x)→Good (mkLegs fast l a b hv) rI (fun k=>impl_least.j2 k l b (lgc fast s) t best' x (c:Int) (mapT t c x) ((2^l.length:Nat):Int) (c:Int) true s false):=fun best' hb'=>
    Good.step (fun k=>by simp only[impl_least.j2];rw[if_pos True.intro]) (goj3 _ hb')
   have goF:∀ best',BestOn (mkLegs fast l a b hv) (DP (mkLegs fast l a b hv) (c+1) x) best'→Good (mkLegs fast l a b hv) rI (fun k=>impl_least.j2 k l b (lgc fast s) t best' x (c:Int) (mapT t c x) ((2^l.length:Nat):Int) (c:Int) false s false):=fun best' hb'=>
    Good.step (fun k=>by simp only[impl_least.j2];rw[if_neg (by decide)]) (goj3 _ hb')
   by_cases hxb:x=b
   ·subst hxb
    have hb2:=hbe.take (D':=DP (mkLegs fast l a x hv) (c+1) x) hl hp DP_next
    unfold nb at hb2
    by_cases q1:best<0
    ·rw[if_pos (Or.inl q1)]at hb2
     refine Good.step (fun k=>?_) (goT best hb2)
     rw[eb,if_pos hp,if_pos rfl,if_pos q1]
    ·by_cases q2:mapT t c x<best
     ·rw[if_pos (Or.inr q2)]at hb2
      refine Good.step (fun k=>?_) (goT best hb2)
      rw[eb,if_pos hp,if_pos rfl,if_neg q1,decide_eq_true q2]
     ·rw[if_neg (by omega)]at hb2
      refine Good.step (fun k=>?_) (goF best hb2)
      rw[eb,if_pos hp,if_pos rfl,if_neg q1,decide_eq_false q2]
   ·refine Good.step (fun k=>?_) (goF best (hbe.other hxb DP_next))
    rw[eb,if_pos hp,if_neg hxb]
theorem im_l0 {fast:Bool} {s:Int} {l:List S63} {a b:Int} (hv:carV s false l=true) (ha:0≤a) (hab:a≤b) (hb:b≤s-1):
  ∀ (m:Nat) (x:Int),x+m=b+1→a≤x→∀ (t:Mt) best,t.n+m*9216≤900000000→Filled (mkLegs fast l a b hv) (DP (mkLegs fast l a b hv) 0 x) (mapT t)→BestOn (mkLegs fast l a b hv) (DP (mkLegs fast l a b hv) 0 x) best→Good (mkLegs fast l a b hv) rI (fun k=>impl_least.l0 k l b (lgc fast s) t best x s false):=by
 obtain⟨⟨hs,_⟩,hn,hcs⟩:=carV_of hv
 have h64:=pow_le64 hn
 intro m
 induction m with
 | zero=>
  intro x hx hax t best hd hf hbe
  refine⟨best,hbe.all (fun c hc=>⟨hc,hab,Int.le_refl _,Or.inl (show b<x by omega)⟩),ev_now (fun k=>?_)⟩
  simp only[impl_least.l0,impl_found.f,Option.bind_some]
  rw[if_neg (by omega)]
  rfl
 | succ m ih=>
  intro x hx hax t best hd hf hbe
  refine Good.step (f:=fun k=>impl_least.l1 k l b (lgc fast s) t best x ((2^l.length:Nat):Int) ((0:Nat):Int) s false) (fun k=>?_) ?_
  ·simp only[impl_least.l0,shl_one (show l.length≤12 by omega)]
   rw[if_pos (by omega)]
   rfl
  ·have e1: (m+1)*9216=m*9216+9216:=by omega
   exact im_l1 hv ha hab hb (B:=900000000-m*9216) (by omega) (by omega) (fun t' best' h' hf' hb'=>ih (x+1) (by omega) (by omega) t' best' (by omega) hf' hb') 0 (Nat.zero_le _) t best (by omega) hf hbe
theorem implLeastM_good {fast:Bool} {s:Int} {l:List S63} {a b:Int} (hv:carV s false l=true) (ha:0≤a) (hab:a≤b) (hb:b≤s-1) (hask:Ev (fun k=>impl_isCarried.f k s false l [a,b]) true):Good (mkLegs fast l a b hv) rI (fun k=>impl_least.f k s false l a b (lgc fast s)):=by
 obtain⟨⟨hs,_⟩,hn,hcs⟩:=carV_of hv
 have hpv:=mapPut_val mtE 0 a 0 (by omega) (by omega) (by omega) (by show 0<1000000000;omega)
 have hno:∀ c x,¬DP (mkLegs fast l a b hv) 0 a c x:=fun c x h=>by
  have h1:=h.2.1
  have h2:=h.2.2.2
  have e: (mkLegs fast l a b hv).a=a:=rfl
  omega
 have hT:mapT ⟨fun y' z=>if y'=((0:Nat):Int)∧z=a then 0 else mtE.f y' z,mtE.n+1⟩=tab0 (mkLegs fast l a b hv):=by
  rw[mapT_put]
  rfl
 obtain⟨t,h1,h2⟩:=im_l0 (fast:=fast) hv ha hab hb (b+1-a).toNat a (by omega) (Int.le_refl _) ⟨fun y' z=>if y'=((0:Nat):Int)∧z=a then 0 else mtE.f y' z,mtE.n+1⟩ (-1) (by show 0+1+_≤_;omega) (by rw[hT];exact Filled.start hno) (BestOn.zero hno)
 refine⟨t,h1,?_⟩
 unfold impl_least.f
 refine Ev.bind hask (ev_pos rfl (ev_bind0 hpv h2))
theorem seek_none {p:List Int→Bool} {n:Nat}:∀ {j m},seek p n j m=none→∀ m',m≤m'→m'<m+j→∀ o∈lv n m',p o=false
 | 0,m,_,m',h1,h2,_,_=>by omega
 | j+1,m,h,m',h1,h2,o,ho=>by
  unfold seek at h
  cases hf: (lv n m).find? p with
  | some q=>rw[hf]at h;simp at h
  | none=>
   rw[hf]at h
   by_cases e:m'=m
   ·subst e
    have:=List.find?_eq_none.1 hf o ho
    simpa using this
   ·exact seek_none h m' (by omega) (by omega) o ho
theorem full_iff {s:Int} {l:List S63} {a b:Int} (hn:l.length≤6) (ha:0≤a∧a≤s-1):b≤V s l a (2^l.length-1)↔(seek (fun o=>decide (b≤rch s l o a)) l.length (l.length+1) 0).isSome=true:=by
 have hpos:=Nat.two_pow_pos l.length
 constructor
 ·intro h
  obtain⟨o,⟨h1,h2⟩,h3,h4⟩:=V_mem (s:=s) (l:=l) (a:=a) hn (2^l.length-1) (by omega)
  have hp:=pc_le (2^l.length-1) l.length
  cases hk:seek (fun o=>decide (b≤rch s l o a)) l.length (l.length+1) 0 with
  | some _=>rfl
  | none=>
   have:=seek_none hk o.length (by omega) (by omega) o (lv_mem o.length o rfl h1 (fun x hx=>by obtain⟨i,e,hi,_⟩:=h2 x hx;exact⟨i,e,hi⟩))
   rw[decide_eq_false_iff_not]at this
   omega
 ·intro h
  obtain⟨o,ho⟩:=Option.isSome_iff_exists.1 h
  obtain⟨h1,m',_,h3,h4⟩:=seek_mem ho
  have hb:=of_decide_eq_true h1
  have hok:=lv_ok _ _ _ h4
  have:=V_ge (s:=s) (l:=l) hn ha o.length o rfl (2^l.length-1) (by omega) ⟨lv_nodup m' o h4,fun x hx=>by
   obtain⟨i,e,hi⟩:=hok.2 x hx
   exact⟨i,e,hi,bit_all l.length hn i hi⟩⟩
  omega
theorem implOrder_ev (s:Int) (r:Bool) (l:List S63) (a b:Int) (hl:l.length≤1048576):Ev (fun k=>impl_ReachOrder.f k s r l a b) (orderR s r l a b):=by
 unfold impl_ReachOrder.f orderR
 refine Ev.bind (isCarried_ev s r l a b hl) ?_
 cases hv:asksV s r l a b with
 | false=>
  simp only[Bool.false_eq_true,if_false]
  exact Ev.now _
 | true=>
  obtain⟨hc,hab⟩:=asks_of hv
  obtain⟨⟨hs,rfl⟩,hn,_⟩:=carV_of hc
  obtain⟨r2,h⟩:=reach3_ev s l a b hs (sane_of hc) hn (by omega)
  simp only[if_true]
  refine Ev.bind h ?_
  cases seek (fun o=>decide (b≤rch s l o a)) l.length (l.length+1) 0 with
  | some o=>exact Ev.now _
  | none=>exact Ev.now _
theorem seek_min {p:List Int→Bool} {n:Nat}:∀ {j m o},seek p n j m=some o→∃ m',o∈lv n m'∧m≤m'∧m'<m+j∧∀ m'',m≤m''→m''<m'→∀ q∈lv n m'',p q=false
 | 0,_,_,h=>by simp[seek]at h
 | j+1,m,o,h=>by
  unfold seek at h
  cases hf: (lv n m).find? p with
  | some q=>
   rw[hf]at h
   obtain rfl:=Option.some.inj h
   exact⟨m,List.mem_of_find?_eq_some hf,by omega,by omega,fun m'' h1 h2=>by omega⟩
  | none=>
   rw[hf]at h
   obtain⟨m',h1,h2,h3,h4⟩:=seek_min h
   refine⟨m',h1,by omega,by omega,fun m'' h5 h6 q hq=>?_⟩
   by_cases e:m''=m
   ·subst e
    have:=List.find?_eq_none.1 hf q hq
    simpa using this
   ·exact h4 m'' (by omega) h6 q hq
def fewR (s:Int) (r:Bool) (l:List S63) (a b:Int):Int × Bool:=(((orderR s r l a b).1.length:Int),(orderR s r l a b).2)
theorem implFew_ev (s:Int) (r:Bool) (l:List S63) (a b:Int) (hl:l.length≤1048576):Ev (fun k=>impl_FewestCarriers.f k s r l a b) (fewR s r l a b):=by
 unfold impl_FewestCarriers.f fewR
 exact Ev.bind (implOrder_ev s r l a b hl) (Ev.now _)
theorem rch_in {s:Int} {l:List S63}:∀ (o:List Int) (a:Int),0≤a∧a≤s-1→a≤rch s l o a∧rch s l o a≤s-1
 | [],a,h=>⟨Int.le_refl _,h.2⟩
 | x::o,a,h=>by
  have h1:=stp_in (s:=s) (c:=l.getD x.toNat z63) h
  have h2:=rch_in (s:=s) (l:=l) o (stp s (l.getD x.toNat z63) a) (by omega)
  show a≤rch s l o (stp s (l.getD x.toNat z63) a)∧rch s l o (stp s (l.getD x.toNat z63) a)≤s-1
  omega
theorem leg_stp {s:Int} {l:List S63} {i:Nat} {x y:Int} (hxy:x<y) (hy:y≤s-1):legE l i x y↔y≤stp s (l.getD i z63) x:=by
 unfold legE stp gapv
 have h1:=mx_ge 0 ((l.getD i z63).f1-mx ((l.getD i z63).f0-x) (x-(l.getD i z63).f0))
 have h2:=mn_le (s-1) (x+mx 0 ((l.getD i z63).f1-mx ((l.getD i z63).f0-x) (x-(l.getD i z63).f0)))
 omega
theorem way_reach {fast:Bool} {s:Int} {l:List S63} {a b:Int} {hv:carV s false l=true} (ha:0≤a) (hab:a≤b) (hb:b≤s-1) {c:Nat} {y v:Int} (hw:Way (mkLegs fast l a b hv) c y v):y≤V s l a c:=by
 have hn:=(carV_of hv).2.1
 have h64:=pow_le64 hn
 induction hw with
 | start=>exact(V_in (s:=s) (l:=l) hn ⟨ha,by omega⟩ 0 (Nat.two_pow_pos _)).1
 | @leg c x v i y hw hi hbit hxy hyb he ih=>
  have hc:c<2^l.length:=hw.set
  have hi':i<l.length:=hi
  have hc2:c+2^i<2^l.length:=bit_lt hc hi hbit
  have hpos:=Nat.two_pow_pos i
  have hyb':y≤b:=hyb
  have hbits:=bit_add c (by omega) i (by omega) hbit i (by omega)
  rw[if_pos rfl]at hbits
  have hg:=(cellF_ge s l a (tbL s l a (c+2^i)) (c+2^i) l.length).2 i hi hbits
  have e:c+2^i-2^i=c:=by omega
  rw[e,tbL_rd s l a (by omega)]at hg
  have h1:=(leg_stp (s:=s) (l:=l) (i:=i) hxy (by omega)).1 he
  have hv2:=V_in (s:=s) (l:=l) (a:=a) hn ⟨ha,by omega⟩ c hc
  have h2:stp s (l.getD i z63) x≤stp s (l.getD i z63) (V s l a c):=stp_mono ih hv2.2
  exact Int.le_trans h1 (Int.le_trans h2 hg)
theorem order_way {fast:Bool} {s:Int} {l:List S63} {a b:Int} (hv:carV s false l=true) (ha:0≤a) (hab:a≤b) (hb:b≤s-1):∀ (m:Nat) (o:List Int),o.length=m→o.Nodup→(∀ x∈o,∃ i:Nat,x=(i:Int)∧i<l.length)→∀ y,a≤y→y≤b→y≤rch s l o a→∃ c v,Way (mkLegs fast l a b hv) c y v∧∀ j,j<l.length→bitA c j=1→(j:Int)∈o:=by
 have hn:=(carV_of hv).2.1
 have h64:=pow_le64 hn
 intro m
 induction m with
 | zero=>
  intro o h _ _ y h1 _ h3
  have:o=[]:=List.length_eq_zero_iff.1 h
  subst this
  have e:y=a:=by
   have e0:rch s l [] a=a:=rfl
   omega
  subst e
  exact⟨0,0,Way.start,fun j _ hj=>by unfold bitA at hj;simp at hj⟩
 | succ m ih=>
  intro o h hd hx y h1 h2 h3
  have hne:o≠[]:=fun e=>by rw[e]at h;simp at h
  have eo:=List.dropLast_concat_getLast hne
  obtain⟨i,ei,hi⟩:=hx _ (List.getLast_mem hne)
  rw[ei]at eo
  generalize o.dropLast=p at eo
  subst eo
  rw[List.nodup_append]at hd
  have hp:p.length=m:=by simp at h;exact h
  have hxp:∀ x∈p,∃ i:Nat,x=(i:Int)∧i<l.length:=fun x hm=>hx x (List.mem_append_left _ hm)
  rw[rch_snoc]at h3
  by_cases hy:y≤rch s l p a
  ·obtain⟨c,v,hw,hb2⟩:=ih p hp hd.1 hxp y h1 h2 hy
   exact⟨c,v,hw,fun j hj hj1=>List.mem_append_left _ (hb2 j hj hj1)⟩
  ·have hr:=rch_in (s:=s) (l:=l) p a ⟨ha,by omega⟩
   obtain⟨c,v,hw,hb2⟩:=ih p hp hd.1 hxp (rch s l p a) hr.1 (by omega) (Int.le_refl _)
   have hc:c<2^l.length:=hw.set
   have hbit:bitA c i=0:=by
    rcases bit_cases c i with h|h
    ·exact h
    ·exact absurd rfl (hd.2.2 _ (hb2 i hi h) _ (List.mem_singleton.2 rfl))
   have hE:=(leg_stp (s:=s) (l:=l) (i:=i) (show rch s l p a<y by omega) (by omega)).2 h3
   refine⟨c+2^i,_,Way.leg (G:=mkLegs fast l a b hv) hw hi hbit (by omega) h2 hE,fun j hj hj1=>?_⟩
   have hs:=bit_add c (by omega) i (by omega) hbit j (by omega)
   by_cases e:j=i
   ·subst e;exact List.mem_append_right _ (List.mem_singleton.2 rfl)
   ·rw[if_neg e]at hs
    rw[hs]at hj1
    exact List.mem_append_left _ (hb2 j hj hj1)
theorem best_iff {fast:Bool} {s:Int} {l:List S63} {a b:Int} (hv:carV s false l=true) (ha:0≤a) (hab:a≤b) (hb:b≤s-1) {t:Int} (h:IsBest (mkLegs fast l a b hv) t):0≤t↔(seek (fun o=>decide (b≤rch s l o a)) l.length (l.length+1) 0).isSome=true:=by
 have hn:=(carV_of hv).2.1
 have hfull:=full_iff (s:=s) (l:=l) (a:=a) (b:=b) hn ⟨ha,by omega⟩
 constructor
 ·intro ht
  rcases h with⟨e,_⟩|⟨⟨c,hw⟩,_⟩
  ·omega
  ·have hr:=way_reach ha hab hb hw
   have hr':b≤V s l a c:=hr
   obtain⟨o,⟨h1,h2⟩,h3,h4⟩:=V_mem (s:=s) (l:=l) (a:=a) hn c hw.set
   have hp:=pc_le c l.length
   cases hk:seek (fun o=>decide (b≤rch s l o a)) l.length (l.length+1) 0 with
   | some _=>rfl
   | none=>
    have:=seek_none hk o.length (by omega) (by omega) o (lv_mem o.length o rfl h1 (fun x hx=>by obtain⟨i,e,hi,_⟩:=h2 x hx;exact⟨i,e,hi⟩))
    rw[decide_eq_false_iff_not]at this
    omega
 ·intro hs
  obtain⟨o,ho⟩:=Option.isSome_iff_exists.1 hs
  obtain⟨h1,m',_,h3,h4⟩:=seek_mem ho
  have hb2:=of_decide_eq_true h1
  have hok:=lv_ok _ _ _ h4
  obtain⟨c,v,hw,_⟩:=order_way (fast:=fast) hv ha hab hb o.length o rfl (lv_nodup m' o h4) hok.2 b hab (Int.le_refl _) hb2
  rcases h with⟨_,hno⟩|⟨⟨c2,hw2⟩,_⟩
  ·exact absurd hw (hno c v)
  ·exact hw2.pos
def told (t:Int):Int × Bool:=(mx t 0,decide (t≥0))
theorem told_rI (t:Int):rI t=told t:=by
 unfold rI told
 have h1:=mx_ge 0 t
 have h2:=mx_ge t 0
 rw[Prod.mk.injEq]
 exact⟨by omega,rfl⟩
theorem l2Place_eq (s a:Int) (hs:2≤s∧s≤24):spec_l2Place.f s false a=some (inR 0 (s-1) a):=by
 simp only[spec_l2Place.f,l2Road_eq,l1In_eq,Option.bind_some]
 rw[inR_iff.2 hs,w64 (by omega) (by omega)]
 rfl
theorem l1Has_ev (o:List Int) (x:Int) (h:o.length≤1000):Ev (fun k=>spec_l1Has.f k o x) (decide (x∈o)):=by
 have key:=down (P:=fun i=>Ev (fun k=>spec_l1Has.l0 k o x (i:Int)) (decide (x∈o.drop i))) (n:=o.length)
  (ev_now (fun k=>by simp only[spec_l1Has.l0];rw[if_neg (by omega)];simp))
  (fun i hi ih=>by
   rw[drop_cons hi]
   by_cases e:rd o (i:Int)=x
   ·refine ev_now (fun k=>?_)
    simp only[spec_l1Has.l0]
    rw[if_pos (by omega),if_pos (by omega),if_pos e]
    simp[e]
   ·have e2:decide (x∈rd o (i:Int)::o.drop (i+1))=decide (x∈o.drop (i+1)):=by
     have:¬x=rd o (i:Int):=fun z=>e z.symm
     simp[this]
    rw[e2]
    refine Ev.step (fun k=>?_) ih
    simp only[spec_l1Has.l0]
    rw[if_pos (by omega),if_pos (by omega),if_neg e,w64s hi (by omega)])
 exact key 0 (by omega)
theorem rdL_nat (l:List S70) (j:Nat):rd_T70 l (j:Int)=l.getD j z70:=rfl
def stpL (l:List S63) (g:S70) (a:Int):Int:=gapv (l.getD g.f0.toNat z63).f0 a+(g.f2-a)
def legOk (s:Int) (l:List S63) (u:List Int) (a:Int) (g:S70):Prop:=(0≤g.f0∧g.f0≤(l.length:Int)-1)∧¬g.f0∈u∧g.f1=a∧a+1≤g.f2∧g.f2≤s-1∧stpL l g a≤(l.getD g.f0.toNat z63).f1
instance (s:Int) (l:List S63) (u:List Int) (a:Int) (g:S70):Decidable (legOk s l u a g):=by unfold legOk;infer_instance
def relV (s:Int) (l:List S63) (b:Int):List Int→Int→List S70→Bool
 | _,a,[]=>a==b
 | u,a,g::r=>if legOk s l u a g∧g.f2≤b then relV s l b (u++[g.f0]) g.f2 r else false
def imV (s:Int) (l:List S63) (b:Int):List Int→Int→List S70→Bool
 | _,a,[]=>a==b
 | u,a,g::r=>if legOk s l u a g then imV s l b (u++[g.f0]) g.f2 r else false
theorem imV_gt (s:Int) (l:List S63) (b:Int):∀ (legs:List S70) (u:List Int) (a:Int),b<a→imV s l b u a legs=false
 | [],_,a,h=>by simp only[imV];simp;omega
 | g::r,u,a,h=>by
  simp only[imV]
  by_cases hg:legOk s l u a g
  ·rw[if_pos hg]
   exact imV_gt s l b r _ _ (by have:=hg.2.2.2.1;omega)
  ·rw[if_neg hg]
theorem imV_eq (s:Int) (l:List S63) (b:Int):∀ (legs:List S70) (u:List Int) (a:Int),imV s l b u a legs=relV s l b u a legs
 | [],_,_=>rfl
 | g::r,u,a=>by
  simp only[imV,relV]
  by_cases hg:legOk s l u a g
  ·by_cases hb:g.f2≤b
   ·rw[if_pos hg,if_pos ⟨hg,hb⟩]
    exact imV_eq s l b r _ _
   ·rw[if_pos hg,if_neg (fun h=>hb h.2)]
    exact imV_gt s l b r _ _ (by omega)
  ·rw[if_neg hg,if_neg (fun h=>hg h.1)]
def legIn (s:Int) (l:List S63) (g:S70):Prop:=(0≤g.f0∧g.f0≤(l.length:Int)-1)∧0≤g.f1∧g.f1+1≤g.f2∧g.f2≤s-1
theorem relV_in {s:Int} {l:List S63} {b:Int}:∀ {legs:List S70} {u:List Int} {a:Int},0≤a→relV s l b u a legs=true→∀ g∈legs,legIn s l g
 | [],_,_,_,_,g,hg=>by simp at hg
 | g::r,u,a,h0,h,x,hx=>by
  simp only[relV]at h
  by_cases hg:legOk s l u a g∧g.f2≤b
  ·rw[if_pos hg]at h
   have h1:=hg.1.2.2.1
   have h2:=hg.1.2.2.2.1
   have h3:=hg.1.2.2.2.2.1
   rcases List.mem_cons.1 hx with rfl|hx
   ·exact⟨hg.1.1,by omega,by omega,h3⟩
   ·exact relV_in (by omega) h x hx
  ·rw[if_neg hg]at h
   exact absurd h (by simp)
theorem nodup_len {u:List Int} {n:Nat} (h:u.Nodup) (hx:∀ x∈u,0≤x∧x<(n:Int)) (hn:n≤6):u.length≤6:=by
 have hsub:u ⊆ (List.range n).map (fun i:Nat=>(i:Int)):=fun x hm=>by
  obtain⟨h0,h1⟩:=hx x hm
  obtain⟨i,rfl⟩:=Int.eq_ofNat_of_zero_le h0
  exact List.mem_map.2 ⟨i,List.mem_range.2 (by omega),rfl⟩
 have:=h.length_le_of_subset hsub
 rw[List.length_map,List.length_range]at this
 omega
theorem l7Relay_ev (s:Int) (l:List S63) (a b:Int) (legs:List S70) (hv:carV s false l=true) (ha:0≤a∧a≤s-1) (hb:b≤s-1) (hl:legs.length≤1048576):Ev (fun k=>spec_l7Relay.f k s false l a b legs) (relV s l b [] a legs):=by
 obtain⟨⟨hs,_⟩,hn,hc⟩:=carV_of hv
 have key:=down (P:=fun i=>∀ (u:List Int) (a:Int),u.length≤i→(∀ x∈u,0≤x∧x<(l.length:Int))→u.length≤6→u.Nodup→0≤a→a≤s-1→Ev (fun k=>spec_l7Relay.l0 k l b legs u a (i:Int) s false) (relV s l b u a (legs.drop i))) (n:=legs.length)
  (fun u a _ _ _ _ _ _=>ev_now (fun k=>by
   simp only[spec_l7Relay.l0]
   rw[if_neg (by omega),List.drop_length]
   rfl))
  (fun i hi ih u a hu hx hu6 hnd h0 h1=>by
   rw[drop_consG z70 hi]
   simp only[relV]
   generalize hg:legs.getD i z70=g
   have eb:∀ k,spec_l7Relay.l0 (k+1) l b legs u a (i:Int) s false=if inR 0 ((l.length:Int)-1) g.f0=true then((spec_l1Has.f k u g.f0).bind fun t=>if t=true then some false else if g.f1=a then(if inR (wrap64 (g.f1+1)) b g.f2=true then(if 0≤g.f0 then(if g.f0<(l.length:Int)then((spec_l7Steps.f s false (l.getD g.f0.toNat z63).f0 (l.getD g.f0.toNat z63).f1 (l.getD g.f0.toNat z63).f2 g.f1 g.f2).bind fun t=>if t>(l.getD g.f0.toNat z63).f1 then some false else if u.length<17592186044416 then spec_l7Relay.l0 k l b legs (u++[g.f0]) g.f2 ((i+1:Nat):Int) s false else none)else none)else none)else some false)else some false)else some false:=fun k=>by
    simp only[spec_l7Relay.l0,l1In_eq,Option.bind_some,rdL_nat,hg]
    rw[if_pos (by omega),if_pos (by omega),w64s hi (by omega),w64 (x:=(l.length:Int)-1) (by omega) (by omega)]
    rfl
   by_cases q0:inR 0 ((l.length:Int)-1) g.f0=true
   ·have r0:=inR_iff.1 q0
    refine Ev.step (fun k=>by rw[eb,if_pos q0]) ?_
    refine Ev.bind (l1Has_ev u g.f0 (by omega)) ?_
    by_cases q1:g.f0∈u
    ·rw[if_neg (fun h=>h.1.2.1 q1)]
     exact ev_pos (decide_eq_true q1) (Ev.now _)
    refine ev_neg (by simpa using q1) ?_
    by_cases q2:g.f1=a
    ·refine ev_pos q2 ?_
     rw[w64 (x:=g.f1+1) (by omega) (by omega)]
     by_cases q3:inR (g.f1+1) b g.f2=true
     ·have r3:=inR_iff.1 q3
      refine ev_pos q3 (ev_pos (by omega) (ev_pos (by omega) ?_))
      have hcg:=hc g.f0.toNat (by omega)
      rw[l7Steps_eq s _ _ _ g.f1 g.f2 (by have:=hcg.1;omega) (by omega) (by omega)]
      simp only[Option.bind_some]
      have es:gapv (l.getD g.f0.toNat z63).f0 g.f1+(g.f2-g.f1)=stpL l g a:=by unfold stpL;rw[q2]
      rw[es]
      by_cases q4:stpL l g a>(l.getD g.f0.toNat z63).f1
      ·rw[if_neg (fun h=>by have:=h.1.2.2.2.2.2;omega)]
       exact ev_pos q4 (Ev.now _)
      ·rw[if_pos ⟨⟨r0,q1,q2,by omega,by omega,by omega⟩,by omega⟩]
       refine ev_neg q4 (ev_pos (by omega) ?_)
       have hnd2: (u++[g.f0]).Nodup:=by
        rw[List.nodup_append]
        exact⟨hnd,by simp,fun x hx y hy=>by rw[List.mem_singleton.1 hy];intro he;exact q1 (he▸hx)⟩
       have hx2:∀ x∈u++[g.f0],0≤x∧x<(l.length:Int):=fun x hx'=>by
        rcases List.mem_append.1 hx' with h|h
        ·exact hx x h
        ·rw[List.mem_singleton.1 h];omega
       exact ih (u++[g.f0]) g.f2 (by rw[List.length_append,List.length_singleton];omega) hx2 (nodup_len hnd2 hx2 hn) hnd2 (by omega) (by omega)
     ·rw[if_neg (fun h=>q3 (inR_iff.2 ⟨by have:=h.1.2.2.2.1;omega,h.2⟩))]
      exact ev_neg q3 (Ev.now _)
    ·rw[if_neg (fun h=>q2 h.1.2.2.1)]
     exact ev_neg q2 (Ev.now _)
   ·rw[if_neg (fun h=>q0 (inR_iff.2 h.1.1))]
    exact ev_now (fun k=>by rw[eb,if_neg q0]))
 unfold spec_l7Relay.f
 exact key 0 (by omega) [] a (by simp) (by simp) (by simp) (by simp) ha.1 ha.2
theorem has1_ev (s x:Int) (hs:2≤s∧s≤24):Ev (fun k=>impl_Road_has.f k s false [x]) (inR 0 (s-1) x):=by
 unfold impl_Road_has.f
 rw[w64 (by omega) (by omega)]
 have:=allWithin_ev [x] 0 (s-1) (by simp)
 have e:inAll 0 (s-1) [x]=inR 0 (s-1) x:=by simp[inAll]
 rw[e]at this
 exact Ev.bind this (Ev.now _)
theorem isRelay_ev (s:Int) (l:List S63) (a b:Int) (legs:List S70) (hv:carV s false l=true) (ha:0≤a∧a≤s-1) (hl:legs.length≤1048576):Ev (fun k=>impl_Road_isRelay.f k s false l a b legs) (relV s l b [] a legs):=by
 obtain⟨⟨hs,_⟩,hn,hc⟩:=carV_of hv
 have bad:∀ (a c i L:Int) (g0 g1 g2:Int),Ev (fun k=>impl_Road_isRelay.j1 k l a b c legs L i true s false g0 g1 g2) false:=fun a c i L g0 g1 g2=>ev_now (fun k=>by simp only[impl_Road_isRelay.j1];first|rw[if_pos True.intro]|rw[if_pos rfl]|rfl)
 have key:=down (P:=fun i=>∀ (u:List Int) (a:Int) (c:Nat),c<64→(∀ n:Nat,n<6→(bitA c n=1↔(n:Int)∈u))→0≤a→a≤s-1→Ev (fun k=>impl_Road_isRelay.l0 k l a b (c:Int) legs (legs.length:Int) (i:Int) s false) (imV s l b u a (legs.drop i))) (n:=legs.length)
  (fun u a c _ _ _ _=>ev_now (fun k=>by
   simp only[impl_Road_isRelay.l0]
   rw[if_neg (by omega),List.drop_length]
   rfl))
  (fun i hi ih u a c hc64 hcu h0 h1=>by
   rw[drop_consG z70 hi]
   simp only[imV]
   generalize hg:legs.getD i z70=g
   have eb:∀ k,impl_Road_isRelay.l0 (k+1) l a b (c:Int) legs (legs.length:Int) (i:Int) s false=if inR 0 ((l.length:Int)-1) g.f0=true then(if 0≤g.f0 then(if Go.bits .and .i64 (shr .i64 (c:Int) g.f0) 1=1 then impl_Road_isRelay.j1 k l a b (c:Int) legs (legs.length:Int) (i:Int) true s false g.f0 g.f1 g.f2 else if g.f1=a then(if g.f2≤a then impl_Road_isRelay.j1 k l a b (c:Int) legs (legs.length:Int) (i:Int) true s false g.f0 g.f1 g.f2 else((impl_Road_has.f k s false [g.f2]).bind fun t=>impl_Road_isRelay.j1 k l a b (c:Int) legs (legs.length:Int) (i:Int) (!t) s false g.f0 g.f1 g.f2))else impl_Road_isRelay.j1 k l a b (c:Int) legs (legs.length:Int) (i:Int) true s false g.f0 g.f1 g.f2)else none)else impl_Road_isRelay.j1 k l a b (c:Int) legs (legs.length:Int) (i:Int) true s false g.f0 g.f1 g.f2:=fun k=>by
    simp only[impl_Road_isRelay.l0,within_eq,Option.bind_some,rdL_nat,hg]
    rw[if_pos (by omega),if_pos (by omega),if_pos (by omega),w64 (x:=(l.length:Int)-1) (by omega) (by omega)]
   by_cases q0:inR 0 ((l.length:Int)-1) g.f0=true
   ·have r0:=inR_iff.1 q0
    obtain⟨n,hn0⟩:=Int.eq_ofNat_of_zero_le r0.1
    have hn6:n<6:=by omega
    refine Ev.step (fun k=>by rw[eb,if_pos q0,if_pos r0.1,hn0,bit_read (by omega) (by omega),←hn0]) ?_
    by_cases q1:g.f0∈u
    ·rw[if_neg (fun h=>h.2.1 q1)]
     have hb1:bitA c n=1:=(hcu n hn6).2 (by rw[←hn0];exact q1)
     exact ev_pos (by rw[hb1];rfl) (bad _ _ _ _ _ _ _)
    have hb0:bitA c n=0:=by
     rcases bit_cases c n with h|h
     ·exact h
     ·exact absurd ((hcu n hn6).1 h) (by rw[←hn0];exact q1)
    refine ev_neg (by rw[hb0];simp) ?_
    by_cases q2:g.f1=a
    ·refine ev_pos q2 ?_
     by_cases q3:g.f2≤a
     ·rw[if_neg (fun h=>by have:=h.2.2.2.1;omega)]
      exact ev_pos q3 (bad _ _ _ _ _ _ _)
     refine ev_neg q3 (Ev.bind (has1_ev s g.f2 hs) ?_)
     by_cases q4:inR 0 (s-1) g.f2=true
     ·have r4:=inR_iff.1 q4
      rw[q4]
      have hcg:=hc n (by omega)
      have hst:impl_Road_steps.f s false (l.getD n z63).f0 (l.getD n z63).f1 (l.getD n z63).f2 a g.f2=some (stpL l g a):=by
       rw[steps_eq s _ _ _ a g.f2 (by have:=hcg.1;omega) (by omega) (by omega)]
       unfold stpL
       rw[hn0,Int.toNat_natCast]
      obtain⟨hc2,hcu2⟩:=bitA_on hn6 hc64 hb0
      refine Ev.step (f:=fun k=>if stpL l g a>(l.getD n z63).f1 then some false else impl_Road_isRelay.l0 k l g.f2 b ((c+2^n:Nat):Int) legs (legs.length:Int) ((i+1:Nat):Int) s false) (fun k=>?_) ?_
      ·simp only[impl_Road_isRelay.j1,Bool.not_true]
       rw[if_neg (by simp),if_pos r0.1,if_pos (by omega),hn0,rdC_nat,hst]
       simp only[Option.bind_some]
       rw[bit_on hn6 hc64 hb0,w64s hi (by omega)]
      ·have er: (l.getD g.f0.toNat z63).f1=(l.getD n z63).f1:=by rw[hn0,Int.toNat_natCast]
       by_cases q5:stpL l g a>(l.getD n z63).f1
       ·rw[if_neg (fun h=>by have:=h.2.2.2.2.2;omega)]
        exact ev_pos q5 (Ev.now _)
       ·rw[if_pos ⟨r0,q1,q2,by omega,r4.2,by omega⟩]
        refine ev_neg q5 ?_
        refine ih (u++[g.f0]) g.f2 (c+2^n) hc2 (fun m hm=>?_) (by omega) r4.2
        rw[hcu2 m hm,List.mem_append,List.mem_singleton,hcu m hm,hn0]
        exact⟨fun h=>h.elim (fun e=>Or.inr (by omega)) Or.inl,fun h=>h.elim Or.inr (fun e=>Or.inl (by omega))⟩
     ·rw[if_neg (fun h=>q4 (inR_iff.2 ⟨by omega,h.2.2.2.2.1⟩))]
      have e4:inR 0 (s-1) g.f2=false:=by simpa using q4
      rw[e4]
      exact bad _ _ _ _ _ _ _
    ·rw[if_neg (fun h=>q2 h.2.2.1)]
     exact ev_neg q2 (bad _ _ _ _ _ _ _)
   ·rw[if_neg (fun h=>q0 (inR_iff.2 h.1))]
    exact Ev.step (fun k=>by rw[eb,if_neg q0]) (bad _ _ _ _ _ _ _))
 unfold impl_Road_isRelay.f
 rw[←imV_eq]
 exact key 0 (by omega) [] a 0 (by omega) (fun n hn=>by
  have e:bitA 0 n=0:=by unfold bitA;simp
  rw[e];simp) ha.1 ha.2
theorem leg_at {s:Int} {l:List S63} {legs:List S70} (h:∀ g∈legs,legIn s l g) {i:Nat} (hi:i<legs.length):legIn s l (legs.getD i z70):=by
 refine h _ ?_
 rw[List.getD_eq_getElem?_getD,List.getElem?_eq_getElem hi]
 exact List.getElem_mem _
def prc (l:List S63):Int→List S70→Int
 | acc,[]=>acc
 | acc,g::r=>prc l (wrap64 (acc+wrap64 ((l.getD g.f0.toNat z63).f2*stpL l g g.f1))) r
def priceR (s:Int) (r:Bool) (l:List S63) (a b:Int) (legs:List S70):Int × Bool:=if asksV s r l a b=true then(if relV s l b [] a legs=true then(prc l 0 legs,true)else(0,false))else(0,false)
theorem specPrice_ev (s:Int) (r:Bool) (l:List S63) (a b:Int) (legs:List S70) (hl:l.length≤1048576) (hg:legs.length≤1048576):Ev (fun k=>spec_RelayPrice.f k s r l a b legs) (priceR s r l a b legs):=by
 unfold spec_RelayPrice.f priceR
 refine Ev.bind (l7Asks_ev s r l a b hl) ?_
 have bad:∀ (s:Int) (r:Bool),Ev (fun k=>spec_RelayPrice.j0 k l legs true s r) (0,false):=fun s r=>ev_now (fun k=>by simp only[spec_RelayPrice.j0];first|rw[if_pos True.intro]|rw[if_pos rfl]|rfl)
 cases hv:asksV s r l a b with
 | false=>exact ev_neg (by simp) (bad _ _)
 | true=>
  obtain⟨hc,ha0,hab,hb⟩:=asks_of hv
  obtain⟨⟨hs,rfl⟩,hn,hcc⟩:=carV_of hc
  refine ev_pos rfl (Ev.bind (l7Relay_ev s l a b legs hc (by omega) (by omega) hg) ?_)
  cases hR:relV s l b [] a legs with
  | false=>exact bad _ _
  | true=>
   have hin:=relV_in (by omega) hR
   have key:=down (P:=fun i=>∀ acc:Int,Ev (fun k=>spec_RelayPrice.l0 k l legs acc (i:Int) s false) (prc l acc (legs.drop i),true)) (n:=legs.length)
    (fun acc=>ev_now (fun k=>by
     simp only[spec_RelayPrice.l0]
     rw[if_neg (by omega),List.drop_length]
     rfl))
    (fun i hi ih acc=>by
     have hL:legIn s l (rd_T70 legs (i:Int)):=leg_at hin hi
     rw[drop_consG z70 hi]
     simp only[prc]
     refine Ev.step (fun k=>?_) (ih _)
     simp only[spec_RelayPrice.l0]
     obtain⟨⟨g0,g1⟩,g2,g3,g4⟩:=hL
     have hcg:=hcc (rd_T70 legs (i:Int)).f0.toNat (by omega)
     rw[if_pos (by omega),if_pos (by omega),if_pos (by omega),if_pos (by omega),show rd_T63 l (rd_T70 legs (i:Int)).f0=l.getD (rd_T70 legs (i:Int)).f0.toNat z63 from rfl,l7Steps_eq s _ _ _ (rd_T70 legs (i:Int)).f1 (rd_T70 legs (i:Int)).f2 (by have:=hcg.1;omega) (by omega) (by omega)]
     simp only[Option.bind_some]
     rw[w64s hi (by omega)]
     rfl)
   refine Ev.step (fun k=>by simp only[spec_RelayPrice.j0];rw[if_neg (by simp)];rfl) (key 0 (by omega) 0)
theorem implPrice_ev (s:Int) (r:Bool) (l:List S63) (a b:Int) (legs:List S70) (hl:l.length≤1048576) (hg:legs.length≤1048576):Ev (fun k=>impl_RelayPrice.f k s r l a b legs) (priceR s r l a b legs):=by
 unfold impl_RelayPrice.f priceR
 refine Ev.bind (isCarried_ev s r l a b hl) ?_
 have bad:∀ (s:Int) (r:Bool),Ev (fun k=>impl_RelayPrice.j0 k l legs true s r) (0,false):=fun s r=>ev_now (fun k=>by simp only[impl_RelayPrice.j0];first|rw[if_pos True.intro]|rw[if_pos rfl]|rfl)
 cases hv:asksV s r l a b with
 | false=>exact ev_neg (by simp) (bad _ _)
 | true=>
  obtain⟨hc,ha0,hab,hb⟩:=asks_of hv
  obtain⟨⟨hs,rfl⟩,hn,hcc⟩:=carV_of hc
  refine ev_pos rfl (Ev.bind (isRelay_ev s l a b legs hc (by omega) hg) ?_)
  cases hR:relV s l b [] a legs with
  | false=>exact bad _ _
  | true=>
   have hin:=relV_in (by omega) hR
   have key:=down (P:=fun i=>∀ acc:Int,Ev (fun k=>impl_RelayPrice.l0 k l acc legs (legs.length:Int) (i:Int) s false) (prc l acc (legs.drop i),true)) (n:=legs.length)
    (fun acc=>ev_now (fun k=>by
     simp only[impl_RelayPrice.l0]
     rw[if_neg (by omega),List.drop_length]
     rfl))
    (fun i hi ih acc=>by
     have hL:legIn s l (rd_T70 legs (i:Int)):=leg_at hin hi
     rw[drop_consG z70 hi]
     simp only[prc]
     refine Ev.step (fun k=>?_) (ih _)
     simp only[impl_RelayPrice.l0]
     obtain⟨⟨g0,g1⟩,g2,g3,g4⟩:=hL
     have hcg:=hcc (rd_T70 legs (i:Int)).f0.toNat (by omega)
     rw[if_pos (by omega),if_pos (by omega),if_pos (by omega),if_pos (by omega),if_pos (by omega),show rd_T63 l (rd_T70 legs (i:Int)).f0=l.getD (rd_T70 legs (i:Int)).f0.toNat z63 from rfl,steps_eq s _ _ _ (rd_T70 legs (i:Int)).f1 (rd_T70 legs (i:Int)).f2 (by have:=hcg.1;omega) (by omega) (by omega)]
     simp only[Option.bind_some]
     rw[w64s hi (by omega)]
     rfl)
   refine Ev.step (fun k=>by simp only[impl_RelayPrice.j0];rw[if_neg (by simp)];rfl) (key 0 (by omega) 0)
def arv (l:List S63):Int→List S70→Int
 | acc,[]=>acc
 | acc,g::r=>arv l (wrap64 (mx acc (gapv (l.getD g.f0.toNat z63).f0 g.f1)+(g.f2-g.f1))) r
def arrivalR (s:Int) (r:Bool) (l:List S63) (a b:Int) (legs:List S70):Int × Bool:=if asksV s r l a b=true then(if relV s l b [] a legs=true then(arv l 0 legs,true)else(0,false))else(0,false)
theorem wrap_sub (a b:Int):wrap64 (wrap64 a-b)=wrap64 (a-b):=by unfold wrap64;omega
theorem l7ArriveW_eq (s:Int) (c0 c1 c2 acc a t:Int) (h0:0≤c0∧c0≤1000) (h1:0≤a∧a≤1000) (h2:0≤t∧t≤1000):spec_l7Arrive.f s false c0 c1 c2 acc a t=some (wrap64 (mx acc (gapv c0 a)+(t-a))):=by
 unfold spec_l7Arrive.f gapv
 rw[l2Gap_eq s c0 a (by omega) (by omega)]
 simp only[Option.bind_some,l1Most_eq]
 rw[wrap_sub,Int.add_sub_assoc]
theorem arrives_eq (s:Int) (c0 c1 c2 acc a t:Int) (h0:0≤c0∧c0≤1000) (h1:0≤a∧a≤1000) (h2:a≤t∧t≤1000):impl_Road_arrives.f s false c0 c1 c2 acc a t=some (wrap64 (mx acc (gapv c0 a)+(t-a))):=by
 unfold impl_Road_arrives.f gapv
 rw[gap_eq s c0 a (by omega) (by omega),gap_eq s a t (by omega) (by omega)]
 simp only[Option.bind_some]
 have e:mx (a-t) (t-a)=t-a:=by unfold mx;split<;>omega
 rw[e]
theorem specArrival_ev (s:Int) (r:Bool) (l:List S63) (a b:Int) (legs:List S70) (hl:l.length≤1048576) (hg:legs.length≤1048576):Ev (fun k=>spec_RelayArrival.f k s r l a b legs) (arrivalR s r l a b legs):=by
 unfold spec_RelayArrival.f arrivalR
 refine Ev.bind (l7Asks_ev s r l a b hl) ?_
 have bad:∀ (s:Int) (r:Bool),Ev (fun k=>spec_RelayArrival.j0 k l legs true s r) (0,false):=fun s r=>ev_now (fun k=>by simp only[spec_RelayArrival.j0];first|rw[if_pos True.intro]|rw[if_pos rfl]|rfl)
 cases hv:asksV s r l a b with
 | false=>exact ev_neg (by simp) (bad _ _)
 | true=>
  obtain⟨hc,ha0,hab,hb⟩:=asks_of hv
  obtain⟨⟨hs,rfl⟩,hn,hcc⟩:=carV_of hc
  refine ev_pos rfl (Ev.bind (l7Relay_ev s l a b legs hc (by omega) (by omega) hg) ?_)
  cases hR:relV s l b [] a legs with
  | false=>exact bad _ _
  | true=>
   have hin:=relV_in (by omega) hR
   have key:=down (P:=fun i=>∀ acc:Int,Ev (fun k=>spec_RelayArrival.l0 k l legs acc (i:Int) s false) (arv l acc (legs.drop i),true)) (n:=legs.length)
    (fun acc=>ev_now (fun k=>by
     simp only[spec_RelayArrival.l0]
     rw[if_neg (by omega),List.drop_length]
     rfl))
    (fun i hi ih acc=>by
     have hL:legIn s l (rd_T70 legs (i:Int)):=leg_at hin hi
     rw[drop_consG z70 hi]
     simp only[arv]
     refine Ev.step (fun k=>?_) (ih _)
     simp only[spec_RelayArrival.l0]
     obtain⟨⟨g0,g1⟩,g2,g3,g4⟩:=hL
     have hcg:=hcc (rd_T70 legs (i:Int)).f0.toNat (by omega)
     rw[if_pos (by omega),if_pos (by omega),if_pos (by omega),if_pos (by omega),show rd_T63 l (rd_T70 legs (i:Int)).f0=l.getD (rd_T70 legs (i:Int)).f0.toNat z63 from rfl,l7ArriveW_eq s _ _ _ acc (rd_T70 legs (i:Int)).f1 (rd_T70 legs (i:Int)).f2 (by have:=hcg.1;omega) (by omega) (by omega)]
     simp only[Option.bind_some]
     rw[w64s hi (by omega)]
     rfl)
   refine Ev.step (fun k=>by simp only[spec_RelayArrival.j0];rw[if_neg (by simp)];rfl) (key 0 (by omega) 0)
theorem implArrival_ev (s:Int) (r:Bool) (l:List S63) (a b:Int) (legs:List S70) (hl:l.length≤1048576) (hg:legs.length≤1048576):Ev (fun k=>impl_RelayArrival.f k s r l a b legs) (arrivalR s r l a b legs):=by
 unfold impl_RelayArrival.f arrivalR
 refine Ev.bind (isCarried_ev s r l a b hl) ?_
 have bad:∀ (s:Int) (r:Bool),Ev (fun k=>impl_RelayArrival.j0 k l legs true s r) (0,false):=fun s r=>ev_now (fun k=>by simp only[impl_RelayArrival.j0];first|rw[if_pos True.intro]|rw[if_pos rfl]|rfl)
 cases hv:asksV s r l a b with
 | false=>exact ev_neg (by simp) (bad _ _)
 | true=>
  obtain⟨hc,ha0,hab,hb⟩:=asks_of hv
  obtain⟨⟨hs,rfl⟩,hn,hcc⟩:=carV_of hc
  refine ev_pos rfl (Ev.bind (isRelay_ev s l a b legs hc (by omega) hg) ?_)
  cases hR:relV s l b [] a legs with
  | false=>exact bad _ _
  | true=>
   have hin:=relV_in (by omega) hR
   have key:=down (P:=fun i=>∀ acc:Int,Ev (fun k=>impl_RelayArrival.l0 k l acc legs (legs.length:Int) (i:Int) s false) (arv l acc (legs.drop i),true)) (n:=legs.length)
    (fun acc=>ev_now (fun k=>by
     simp only[impl_RelayArrival.l0]
     rw[if_neg (by omega),List.drop_length]
     rfl))
    (fun i hi ih acc=>by
     have hL:legIn s l (rd_T70 legs (i:Int)):=leg_at hin hi
     rw[drop_consG z70 hi]
     simp only[arv]
     refine Ev.step (fun k=>?_) (ih _)
     simp only[impl_RelayArrival.l0]
     obtain⟨⟨g0,g1⟩,g2,g3,g4⟩:=hL
     have hcg:=hcc (rd_T70 legs (i:Int)).f0.toNat (by omega)
     rw[if_pos (by omega),if_pos (by omega),if_pos (by omega),if_pos (by omega),if_pos (by omega),show rd_T63 l (rd_T70 legs (i:Int)).f0=l.getD (rd_T70 legs (i:Int)).f0.toNat z63 from rfl,arrives_eq s _ _ _ acc (rd_T70 legs (i:Int)).f1 (rd_T70 legs (i:Int)).f2 (by have:=hcg.1;omega) (by omega) (by omega)]
     simp only[Option.bind_some]
     rw[w64s hi (by omega)]
     rfl)
   refine Ev.step (fun k=>by simp only[impl_RelayArrival.j0];rw[if_neg (by simp)];rfl) (key 0 (by omega) 0)
theorem leg_of {s:Int} {l:List S63} {u:List Int} {a:Int} {g:S70} (h:legOk s l u a g):∃ i:Nat,g.f0=(i:Int)∧i<l.length∧¬(i:Int)∈u∧g.f1=a∧a<g.f2∧g.f2≤s-1∧legE l i a g.f2:=by
 obtain⟨⟨h0,h1⟩,h2,h3,h4,h5,h6⟩:=h
 obtain⟨i,e⟩:=Int.eq_ofNat_of_zero_le h0
 refine⟨i,e,by omega,by rw[←e];exact h2,h3,by omega,h5,?_⟩
 unfold stpL at h6
 rw[e,Int.toNat_natCast]at h6
 unfold legE
 omega
theorem way_on {fast:Bool} {s:Int} {l:List S63} {a0 b:Int} {hv:carV s false l=true} {u:List Int} {a v:Int} {g:S70} {c i:Nat} (hi:i<l.length) (hiu:¬(i:Int)∈u) (hlt:a<g.f2) (hb:g.f2≤b) (hE:legE l i a g.f2) (hw:Way (mkLegs fast l a0 b hv) c a v) (hc:∀ j,j<l.length→bitA c j=1→(j:Int)∈u):
  Way (mkLegs fast l a0 b hv) (c+2^i) g.f2 (legL fast l i v a g.f2)∧∀ j,j<l.length→bitA (c+2^i) j=1→(j:Int)∈u++[(i:Int)]:=by
 have hn:=(carV_of hv).2.1
 have h64:=pow_le64 hn
 have hset:c<2^l.length:=hw.set
 have hbit:bitA c i=0:=by
  rcases bit_cases c i with h|h
  ·exact h
  ·exact absurd (hc i hi h) hiu
 refine⟨Way.leg (G:=mkLegs fast l a0 b hv) hw hi hbit hlt hb hE,fun j hj hj1=>?_⟩
 have hs:=bit_add c (by omega) i (by omega) hbit j (by omega)
 by_cases e:j=i
 ·subst e;exact List.mem_append_right _ (List.mem_singleton.2 rfl)
 ·rw[if_neg e]at hs
  rw[hs]at hj1
  exact List.mem_append_left _ (hc j hj hj1)
theorem rel_price {s:Int} {l:List S63} {a0 b:Int} (hv:carV s false l=true) (ha0:0≤a0):∀ (legs:List S70) (u:List Int) (a v:Int) (c:Nat),a0≤a→relV s l b u a legs=true→Way (mkLegs false l a0 b hv) c a v→(∀ j,j<l.length→bitA c j=1→(j:Int)∈u)→∃ c',Way (mkLegs false l a0 b hv) c' b (prc l v legs)
 | [],u,a,v,c,_,h,hw,_=>by
  simp only[relV,beq_iff_eq]at h
  subst h
  exact⟨c,hw⟩
 | g::r,u,a,v,c,haa,h,hw,hc=>by
  simp only[relV]at h
  by_cases hg:legOk s l u a g∧g.f2≤b
  ·rw[if_pos hg]at h
   obtain⟨i,e,hi,hiu,e1,hlt,hs,hE⟩:=leg_of hg.1
   obtain⟨hw2,hc2⟩:=way_on hi hiu hlt hg.2 hE hw hc
   have hb1:=way_bd hw
   have hb2:=way_bd hw2
   have hgv:=gapv_in (l.getD i z63).f0 a
   have hcc:=((carV_of hv).2.2 i hi).2.2
   rw[e]at h
   obtain⟨c',hw3⟩:=rel_price hv ha0 r (u++[(i:Int)]) g.f2 (legL false l i v a g.f2) (c+2^i) (by omega) h hw2 hc2
   refine⟨c',?_⟩
   have hm:=Int.mul_nonneg hcc.1 (show 0≤gapv (l.getD i z63).f0 a+(g.f2-a)by omega)
   have el:legL false l i v a g.f2=v+(l.getD i z63).f2*(gapv (l.getD i z63).f0 a+(g.f2-a)):=by
    unfold legL
    simp only[Bool.false_eq_true,if_false]
   rw[el]at hb2 hw3
   have ep:prc l v (g::r)=prc l (v+(l.getD i z63).f2*(gapv (l.getD i z63).f0 a+(g.f2-a))) r:=by
    show prc l (wrap64 (v+wrap64 ((l.getD g.f0.toNat z63).f2*stpL l g g.f1))) r=_
    have es:stpL l g g.f1=gapv (l.getD i z63).f0 a+(g.f2-a):=by
     unfold stpL
     rw[e,Int.toNat_natCast,e1]
    rw[es,e,Int.toNat_natCast,w64 (x:=(l.getD i z63).f2*(gapv (l.getD i z63).f0 a+(g.f2-a))) (by omega) (by omega),w64 (by omega) (by omega)]
   rw[ep]
   exact hw3
  ·rw[if_neg hg]at h
   cases h
theorem rel_arrival {s:Int} {l:List S63} {a0 b:Int} (hv:carV s false l=true) (ha0:0≤a0):∀ (legs:List S70) (u:List Int) (a v:Int) (c:Nat),a0≤a→relV s l b u a legs=true→Way (mkLegs true l a0 b hv) c a v→(∀ j,j<l.length→bitA c j=1→(j:Int)∈u)→∃ c',Way (mkLegs true l a0 b hv) c' b (arv l v legs)
 | [],u,a,v,c,_,h,hw,_=>by
  simp only[relV,beq_iff_eq]at h
  subst h
  exact⟨c,hw⟩
 | g::r,u,a,v,c,haa,h,hw,hc=>by
  simp only[relV]at h
  by_cases hg:legOk s l u a g∧g.f2≤b
  ·rw[if_pos hg]at h
   obtain⟨i,e,hi,hiu,e1,hlt,hs,hE⟩:=leg_of hg.1
   obtain⟨hw2,hc2⟩:=way_on hi hiu hlt hg.2 hE hw hc
   have hb2:=way_bd hw2
   rw[e]at h
   obtain⟨c',hw3⟩:=rel_arrival hv ha0 r (u++[(i:Int)]) g.f2 (legL true l i v a g.f2) (c+2^i) (by omega) h hw2 hc2
   refine⟨c',?_⟩
   have el:legL true l i v a g.f2=mx v (gapv (l.getD i z63).f0 a)+(g.f2-a):=by
    unfold legL
    simp only[if_true]
   rw[el]at hb2 hw3
   have ep:arv l v (g::r)=arv l (mx v (gapv (l.getD i z63).f0 a)+(g.f2-a)) r:=by
    show arv l (wrap64 (mx v (gapv (l.getD g.f0.toNat z63).f0 g.f1)+(g.f2-g.f1))) r=_
    rw[e,Int.toNat_natCast,e1,w64 (by omega) (by omega)]
   rw[ep]
   exact hw3
  ·rw[if_neg hg]at h
   cases h
theorem rch_mono {s:Int} {l:List S63}:∀ (o:List Int) (a a':Int),a≤a'→a'≤s-1→0≤a'→rch s l o a≤rch s l o a'
 | [],a,a',h,_,_=>h
 | x::o,a,a',h,h1,h0=>by
  have h2:=stp_mono (s:=s) (c:=l.getD x.toNat z63) h h1
  have h3:=stp_in (s:=s) (c:=l.getD x.toNat z63) (x:=a') ⟨h0,h1⟩
  exact rch_mono o (stp s (l.getD x.toNat z63) a) (stp s (l.getD x.toNat z63) a') h2 h3.2 (by omega)
theorem rel_order {s:Int} {l:List S63} {b:Int}:∀ (legs:List S70) (u:List Int) (a:Int),0≤a→a≤s-1→relV s l b u a legs=true→b≤rch s l (legs.map (fun g=>g.f0)) a∧(legs.map (fun g=>g.f0)).Nodup∧∀ x∈legs.map (fun g=>g.f0),¬x∈u∧∃ i:Nat,x=(i:Int)∧i<l.length
 | [],u,a,_,_,h=>by
  simp only[relV,beq_iff_eq]at h
  subst h
  exact⟨Int.le_refl _,List.nodup_nil,fun x hx=>by simp at hx⟩
 | g::r,u,a,h0,h1,h=>by
  simp only[relV]at h
  by_cases hg:legOk s l u a g∧g.f2≤b
  ·rw[if_pos hg]at h
   obtain⟨i,e,hi,hiu,e1,hlt,hs,hE⟩:=leg_of hg.1
   have ih:=rel_order r (u++[g.f0]) g.f2 (by omega) hs h
   have hst:=(leg_stp (s:=s) (l:=l) (i:=i) hlt hs).1 hE
   have hin:=stp_in (s:=s) (c:=l.getD i z63) (x:=a) ⟨h0,h1⟩
   have hm:=rch_mono (s:=s) (l:=l) (r.map (fun g=>g.f0)) g.f2 (stp s (l.getD i z63) a) hst hin.2 (by omega)
   have er:rch s l ((g::r).map (fun g=>g.f0)) a=rch s l (r.map (fun g=>g.f0)) (stp s (l.getD i z63) a):=by
    show rch s l (r.map (fun g=>g.f0)) (stp s (l.getD g.f0.toNat z63) a)=_
    rw[e,Int.toNat_natCast]
   refine⟨by rw[er];omega,?_,fun x hx=>?_⟩
   ·rw[List.map_cons,List.nodup_cons]
    exact⟨fun hm=>(ih.2.2 _ hm).1 (List.mem_append_right _ (List.mem_singleton.2 rfl)),ih.2.1⟩
   ·rw[List.map_cons]at hx
    rcases List.mem_cons.1 hx with rfl|hx
    ·exact⟨by rw[e];exact hiu,i,e,hi⟩
    ·exact⟨fun hu=>(ih.2.2 x hx).1 (List.mem_append_left _ hu),(ih.2.2 x hx).2⟩
  ·rw[if_neg hg]at h
   cases h
theorem nodup_le {u:List Int} {n:Nat} (h:u.Nodup) (hx:∀ x∈u,∃ i:Nat,x=(i:Int)∧i<n):u.length≤n:=by
 have hsub:u ⊆ (List.range n).map (fun i:Nat=>(i:Int)):=fun x hm=>by
  obtain⟨i,rfl,hi⟩:=hx x hm
  exact List.mem_map.2 ⟨i,List.mem_range.2 hi,rfl⟩
 have:=h.length_le_of_subset hsub
 rw[List.length_map,List.length_range]at this
 exact this
theorem rel_few {s:Int} {l:List S63} {a b:Int} {legs:List S70} (hask:asksV s false l a b=true) (h:relV s l b [] a legs=true): (orderR s false l a b).2=true∧(orderR s false l a b).1.length≤legs.length:=by
 obtain⟨hc,h0,hab,hb⟩:=asks_of hask
 have hn:=(carV_of hc).2.1
 obtain⟨h1,h2,h3⟩:=rel_order legs [] a h0 (by omega) h
 have hmem:∀ x∈legs.map (fun g=>g.f0),∃ i:Nat,x=(i:Int)∧i<l.length:=fun x hx=>(h3 x hx).2
 have hlen:=nodup_le h2 hmem
 have hlv:=lv_mem (legs.map (fun g=>g.f0)).length (legs.map (fun g=>g.f0)) rfl h2 hmem
 rw[List.length_map]at hlen hlv
 unfold orderR
 rw[if_pos hask]
 cases hk:seek (fun o=>decide (b≤rch s l o a)) l.length (l.length+1) 0 with
 | none=>
  have:=seek_none hk legs.length (by omega) (by omega) _ hlv
  rw[decide_eq_false_iff_not]at this
  exact absurd h1 this
 | some o=>
  obtain⟨m',h4,_,h5,h6⟩:=seek_min hk
  have hl:=(lv_ok _ _ _ h4).1
  refine⟨rfl,?_⟩
  show o.length≤legs.length
  rcases Nat.lt_or_ge legs.length m' with z|z
  ·have:=h6 legs.length (Nat.zero_le _) z _ hlv
   rw[decide_eq_false_iff_not]at this
   exact absurd h1 this
  ·omega
theorem best_le {G:Legs} {t v:Int} {c:Nat} (h:IsBest G t) (hw:Way G c G.b v):t≤v:=by
 rcases h with⟨_,hn⟩|⟨_,hm⟩
 ·exact absurd hw (hn c v)
 ·exact hm c v hw
def carOk (s:Int) (c0 c1 c2:Int):Bool:=inR 0 (s-1) c0&& (inR 0 48 c1&&inR 0 20 c2)
def endR (s:Int) (r:Bool) (c0 c1 c2 x:Int):Int × Bool:=if(lineV s r&&carOk s c0 c1 c2&&inR 0 (s-1) x)=true then(if c1-gapv c0 x<0 then(0,false)else(mn (s-1) (x+(c1-gapv c0 x)),true))else(0,false)
theorem specEnd_ev (s:Int) (r:Bool) (c0 c1 c2 x:Int):Ev (fun _=>spec_LegEnd.f s r c0 c1 c2 x) (endR s r c0 c1 c2 x):=by
 have hcar:spec_l7Carrier.f s r c0 c1 c2=some (lineV s r&&carOk s c0 c1 c2):=by
  unfold spec_l7Carrier.f carOk
  simp only[l3Line_eq,l1In_eq,Option.bind_some]
  cases lineV s r<;>cases hi:inR 0 (s-1) c0<;>cases inR 0 48 c1<;>cases inR 0 20 c2<;>rfl
 unfold spec_LegEnd.f endR
 refine ev_bind0 hcar ?_
 cases hv: (lineV s r&&carOk s c0 c1 c2)with
 | false=>exact Ev.now _
 | true=>
  rw[Bool.and_eq_true]at hv
  obtain⟨hs,rfl⟩:=line_of hv.1
  have hc:=hv.2
  unfold carOk at hc
  rw[Bool.and_eq_true,Bool.and_eq_true,inR_iff,inR_iff,inR_iff]at hc
  refine ev_pos rfl (ev_bind0 (l2Place_eq s x hs) ?_)
  cases hi:inR 0 (s-1) x with
  | false=>exact Ev.now _
  | true=>
   have hx:=inR_iff.1 hi
   have he:=l7End_val s ⟨c0,c1,c2⟩ x hs hx ⟨hc.1,by show 0≤c1∧c1≤1000;omega⟩
   simp only at he
   refine ev_pos rfl (ev_bind0 he ?_)
   rw[he]
   have hm:=mn_le (s-1) (x+(c1-gapv c0 x))
   by_cases q:c1-gapv c0 x<0
   ·rw[if_pos q,if_pos (show(true&&true)=true from rfl),if_pos q]
    exact ev_pos (by omega) (Ev.now _)
   ·rw[if_neg q,if_pos (show(true&&true)=true from rfl),if_neg q]
    exact ev_neg (by omega) (Ev.now _)
theorem implEnd_ev (s:Int) (r:Bool) (c0 c1 c2 x:Int):Ev (fun k=>impl_LegEnd.f k s r c0 c1 c2 x) (endR s r c0 c1 c2 x):=by
 have bad:Ev (fun k=>impl_LegEnd.j0 k x true s r c0 c1 c2) (0,false):=ev_now (fun k=>by simp only[impl_LegEnd.j0];rw[if_pos True.intro])
 unfold impl_LegEnd.f endR
 refine ev_bind0 (isLine_eq s r) ?_
 cases hL:lineV s r with
 | false=>exact ev_neg (by decide) bad
 | true=>
  obtain⟨hs,rfl⟩:=line_of hL
  have hcar:=areCarriers_ev s false [⟨c0,c1,c2⟩] (by simp) hs
  have e: (decide ((([(⟨c0,c1,c2⟩:S63)]:List S63).length:Int)≤6)&&allF ([(⟨c0,c1,c2⟩:S63)]:List S63).length (carC s [⟨c0,c1,c2⟩]) 0)=carOk s c0 c1 c2:=by
   rw[Bool.eq_iff_iff,Bool.and_eq_true,allF_iff]
   unfold carOk
   rw[Bool.and_eq_true,Bool.and_eq_true,inR_iff,inR_iff,inR_iff]
   constructor
   ·intro h
    have:=h.2 0 (by simp)
    exact this
   ·intro h
    refine⟨by simp,fun j hj=>?_⟩
    have:j=0:=by simp at hj;exact hj
    subst this
    exact h
  rw[e]at hcar
  refine ev_pos rfl (Ev.bind hcar ?_)
  cases hcc:carOk s c0 c1 c2 with
  | false=>exact ev_neg (by decide) bad
  | true=>
   have hc:=hcc
   unfold carOk at hc
   rw[Bool.and_eq_true,Bool.and_eq_true,inR_iff,inR_iff,inR_iff]at hc
   have hh:Ev (fun k=>impl_Road_has.f k s false [x]) (inR 0 (s-1) x):=has1_ev s x hs
   refine ev_pos rfl (Ev.bind hh ?_)
   cases hi:inR 0 (s-1) x with
   | false=>exact bad
   | true=>
    have hx:=inR_iff.1 hi
    have hg:=gapv_in c0 x
    refine ev_now (fun k=>?_)
    simp only[impl_LegEnd.j0]
    rw[if_neg (by decide)]
    unfold impl_Road_legEnd.f
    rw[gap_eq s _ _ (by omega) (by omega),Option.bind_some]
    have hm:=mx_ge 0 (c1-gapv c0 x)
    unfold gapv at*
    rw[w64 (x:=c1-mx (c0-x) (x-c0)) (by omega) (by omega),w64 (x:=s-1) (by omega) (by omega),w64 (x:=x+mx 0 (c1-mx (c0-x) (x-c0))) (by omega) (by omega)]
    simp only[Option.bind_some,decide_eq_true_eq]
    by_cases q:c1-mx (c0-x) (x-c0)<0
    ·rw[if_neg (show ¬(c1-mx (c0-x) (x-c0)≥0)by omega),if_pos (show(true&&true&&true)=true from rfl),if_pos q]
    ·have e2:mx 0 (c1-mx (c0-x) (x-c0))=c1-mx (c0-x) (x-c0):=by omega
     rw[if_pos (show c1-mx (c0-x) (x-c0)≥0 by omega),if_pos (show(true&&true&&true)=true from rfl),if_neg q,e2]
theorem end_in {s:Int} {r:Bool} {c0 c1 c2 x:Int} (h: (endR s r c0 c1 c2 x).2=true):x≤(endR s r c0 c1 c2 x).1∧(endR s r c0 c1 c2 x).1≤s-1∧2≤s∧s≤24:=by
 unfold endR at*
 split at h
 ·rename_i hv
  rw[if_pos hv]
  split at h
  ·cases h
  ·rename_i hq
   rw[if_neg hq]
   rw[Bool.and_eq_true,Bool.and_eq_true,inR_iff]at hv
   have hm:=mn_le (s-1) (x+(c1-gapv c0 x))
   have:=(line_of hv.1.1).1
   simp only
   omega
 ·cases h
theorem end_leg {s:Int} {l:List S63} {a:Int} {i:Nat} {y:Int} (hv:carV s false l=true) (hi:i<l.length) (ha:0≤a) (hay:a<y) (hy:y≤s-1) (hE:legE l i a y): (endR s false (l.getD i z63).f0 (l.getD i z63).f1 (l.getD i z63).f2 a).2=true∧y≤(endR s false (l.getD i z63).f0 (l.getD i z63).f1 (l.getD i z63).f2 a).1:=by
 obtain⟨⟨hs,_⟩,hn,hcs⟩:=carV_of hv
 have hc:=hcs i hi
 unfold carC at hc
 unfold legE at hE
 have hm:=mn_le (s-1) (a+((l.getD i z63).f1-gapv (l.getD i z63).f0 a))
 have hL:lineV s false=true:=by
  unfold carV at hv
  rw[Bool.and_eq_true,Bool.and_eq_true]at hv
  exact hv.1.1
 have hcond: (lineV s false&&carOk s (l.getD i z63).f0 (l.getD i z63).f1 (l.getD i z63).f2&&inR 0 (s-1) a)=true:=by
  unfold carOk
  rw[hL,inR_iff.2 hc.1,inR_iff.2 hc.2.1,inR_iff.2 hc.2.2,inR_iff.2 ⟨ha,by omega⟩]
  rfl
 unfold endR
 rw[if_pos hcond,if_neg (by omega)]
 simp only
 exact⟨True.intro,by omega⟩
def areR (s:Int) (r:Bool) (l:List S63):Bool × Bool:=if lineV s r=true then(carV s r l,true)else(false,false)
theorem implAre_ev (s:Int) (r:Bool) (l:List S63) (hl:l.length≤1048576):Ev (fun k=>impl_AreCarriers.f k s r l) (areR s r l):=by
 unfold impl_AreCarriers.f areR
 refine ev_bind0 (isLine_eq s r) ?_
 cases hL:lineV s r with
 | false=>exact Ev.now _
 | true=>
  obtain⟨hs,rfl⟩:=line_of hL
  have e:carV s false l=(decide ((l.length:Int)≤6)&&allF l.length (carC s l) 0):=by unfold carV;rw[hL];rfl
  refine ev_pos rfl (Ev.bind (areCarriers_ev s false l hl hs) ?_)
  rw[←e]
  exact Ev.now _
theorem specAre_ev (s:Int) (r:Bool) (l:List S63) (hl:l.length≤1048576):Ev (fun k=>spec_AreCarriers.f k s r l) (areR s r l):=by
 unfold spec_AreCarriers.f areR
 refine ev_bind0 (l2Road_eq s r) ?_
 have hL:lineV s r=(inR 2 24 s&& !r):=rfl
 cases r with
 | true=>
  have e:lineV s true=false:=by rw[hL];simp
  rw[e]
  cases(inR 2 24 s&& (!true||decide (s>2)))with
  | false=>exact Ev.now _
  | true=>exact ev_pos rfl (Ev.now _)
 | false=>
  cases hi:inR 2 24 s with
  | false=>
   have e:lineV s false=false:=by rw[hL,hi];rfl
   rw[e]
   exact ev_neg (by simp) (Ev.now _)
  | true=>
   have e:lineV s false=true:=by rw[hL,hi];rfl
   rw[e]
   exact ev_pos (by simp) (ev_neg (by decide) (Ev.bind (l7Carriers_ev s false l hl) (Ev.now _)))
def isR (s:Int) (r:Bool) (l:List S63) (a b:Int) (legs:List S70):Bool × Bool:=if asksV s r l a b=true then(relV s l b [] a legs,true)else(false,false)
theorem implIs_ev (s:Int) (r:Bool) (l:List S63) (a b:Int) (legs:List S70) (hl:l.length≤1048576) (hg:legs.length≤1048576):Ev (fun k=>impl_IsRelay.f k s r l a b legs) (isR s r l a b legs):=by
 unfold impl_IsRelay.f isR
 refine Ev.bind (isCarried_ev s r l a b hl) ?_
 cases hv:asksV s r l a b with
 | false=>exact Ev.now _
 | true=>
  obtain⟨hc,ha0,hab,hb⟩:=asks_of hv
  obtain⟨⟨hs,rfl⟩,hn,hcc⟩:=carV_of hc
  exact ev_pos rfl (Ev.bind (isRelay_ev s l a b legs hc (by omega) hg) (Ev.now _))
theorem specIs_ev (s:Int) (r:Bool) (l:List S63) (a b:Int) (legs:List S70) (hl:l.length≤1048576) (hg:legs.length≤1048576):Ev (fun k=>spec_IsRelay.f k s r l a b legs) (isR s r l a b legs):=by
 unfold spec_IsRelay.f isR
 refine Ev.bind (l7Asks_ev s r l a b hl) ?_
 cases hv:asksV s r l a b with
 | false=>exact Ev.now _
 | true=>
  obtain⟨hc,ha0,hab,hb⟩:=asks_of hv
  obtain⟨⟨hs,rfl⟩,hn,hcc⟩:=carV_of hc
  exact ev_pos rfl (Ev.bind (l7Relay_ev s l a b legs hc (by omega) (by omega) hg) (Ev.now _))
theorem vCut_ok {l:List Int} (hb:∀ x∈l,0≤x∧x≤255) (hl:l.length≤65536) (a:Int) (ha:0≤a):∃ l',laws_vCut.f l a=some l'∧∀ x∈l',0≤x∧x≤255:=by
 unfold laws_vCut.f
 have hd:∀ n,(l.drop n).length≤65536:=fun n=>by rw[List.length_drop];omega
 have hmem:∀ (n:Nat) (y:Int),0≤y∧y≤255→∀ x∈([]++l.drop n)++[y],0≤x∧x≤255:=fun n y hy x hx=>by
  rcases List.mem_append.1 hx with hx|hx
  ·rw[List.nil_append]at hx
   exact hb x (List.mem_of_mem_drop hx)
  ·rw[List.mem_singleton.1 hx];exact hy
 by_cases c:a>(l.length:Int)
 ·rw[if_pos c]
  have h1:=hd (l.length:Int).toNat
  refine⟨([]++l.drop (l.length:Int).toNat)++[((l.length:Int)) % 256],?_,hmem _ _ (by omega)⟩
  simp only[Option.bind_some]
  rw[if_pos (by omega),if_pos (by omega),if_pos (by simp<;>omega),if_pos (by simp<;>omega)]
 ·rw[if_neg c]
  have h1:=hd a.toNat
  refine⟨([]++l.drop a.toNat)++[a % 256],?_,hmem _ _ (by omega)⟩
  simp only[Option.bind_some]
  rw[if_pos (by omega),if_pos (by omega),if_pos (by simp;omega),if_pos (by simp;omega)]
def lgOk (M:Int) (f:Nat→Option (List S70 × Int × Int)):Prop:=∃ r,Ev f r∧r.1.length≤100∧0≤r.2.1∧r.2.1≤M
theorem lg_j3 {l:List Int} (hb:∀ x∈l,0≤x∧x≤255) (s1 s2:Int) (h0:0≤s1) (h1:s1≤3000) (o:List S70) (b:Bool) (hbo:b=true→1≤o.length) (ho:o.length≤100):lgOk (s1+10) (fun k=>spec_l1Cur_legs7.j3 k o b l s1 s2):=by
 cases b with
 | true=>
  have h1o:=hbo rfl
  obtain⟨v,t,s,hp,t0,v0,v1⟩:=dr_pickn hb s1 s2 (o.length:Int) h0 (by omega) (by omega)
  obtain⟨u,t2,ha,_⟩:=cur_among hb t s [(-1),0,6] (by omega) (by omega) (by simp)
  obtain⟨w,s',hp2,w0,w1⟩:=cur_pick hb (t+1) t2 2 (by omega) (by omega) (by omega)
  exact⟨(o.set v.toNat ⟨u,(rd_T70 o v).f1,wrap64 ((rd_T70 o v).f2+w)⟩,t+1+1,s'),ev_now (fun k=>by
   simp only[spec_l1Cur_legs7.j3]
   rw[if_pos True.intro]
   simp only[hp,ha,Option.bind_some]
   rw[if_pos v0,if_pos v1]
   simp only[hp2,Option.bind_some]),by simp only[List.length_set];omega,by simp only;omega,by simp only;omega⟩
 | false=>exact⟨(o,s1,s2),ev_now (fun k=>by simp only[spec_l1Cur_legs7.j3];rw[if_neg (by decide)]),ho,h0,by simp only;omega⟩
theorem lg_end {l:List Int} (hb:∀ x∈l,0≤x∧x≤255) (L:List S63) (b:Int) (o:List S70) (u:List Int) (at_ j:Int) (s1 s2:Int) (h0:0≤s1) (h1:s1≤2000) (ho:o.length≤100) (sz:Int) (rg:Bool):lgOk (s1+20) (fun k=>spec_l1Cur_legs7.j1 k L b o u at_ j false l s1 s2 sz rg):=by
 by_cases c: (o.length:Int)>0
 ·obtain⟨b2,s,hn⟩:=cur_one hb s1 s2 16 h0 (by omega) (by omega)
  obtain⟨r,h,hr⟩:=lg_j3 hb (s1+1) s (by omega) (by omega) o b2 (fun _=>by omega) ho
  exact⟨r,Ev.step (fun k=>by
   simp only[spec_l1Cur_legs7.j1]
   rw[if_neg (by decide),if_pos c]
   simp only[hn,Option.bind_some]) h,hr.1,hr.2.1,by omega⟩
 ·obtain⟨r,h,hr⟩:=lg_j3 hb s1 s2 h0 (by omega) o false (fun h=>absurd h (by decide)) ho
  exact⟨r,Ev.step (fun k=>by
   simp only[spec_l1Cur_legs7.j1]
   rw[if_neg (by decide),if_neg c]) h,hr.1,hr.2.1,by omega⟩
theorem lg_l0 {l:List Int} (hb:∀ x∈l,0≤x∧x≤255) {sz:Int} {L:List S63} {b:Int} (hv:carV sz false L=true) (hbs:b≤sz-1):∀ (c j:Nat) (o:List S70) (u:List Int) (at_ s1 s2:Int),j+c=L.length→o.length≤j→u.length≤j→(0≤at_∧at_≤sz-1)→0≤s1→s1+4*c≤1500→lgOk 2000 (fun k=>spec_l1Cur_legs7.l0 k L b o u at_ (j:Int) l s1 s2 sz false)
 | 0,j,o,u,at_,s1,s2,hj,hol,hul,hat,h0,h1=>by
  have hn:=(carV_of hv).2.1
  obtain⟨r,h,hr⟩:=lg_end hb L b o u at_ (j:Int) s1 s2 h0 (by omega) (by omega) sz false
  exact⟨r,Ev.step (fun k=>by
   simp only[spec_l1Cur_legs7.l0]
   rw[if_neg (by omega)]) h,hr.1,hr.2.1,by omega⟩
 | c+1,j,o,u,at_,s1,s2,hj,hol,hul,hat,h0,h1=>by
  obtain⟨⟨hs,_⟩,hn,hcs⟩:=carV_of hv
  have hj1:wrap64 ((j:Int)+1)=((j+1:Nat):Int):=w64s (n:=j+1) (by omega) (by omega)
  by_cases hab:at_<b
  ·obtain⟨v,t,s,hp,t0,v0,v1⟩:=dr_pickn hb s1 s2 (L.length:Int) h0 (by omega) (by omega)
   obtain⟨i,rfl⟩:=Int.eq_ofNat_of_zero_le v0
   have hi:i<L.length:=by omega
   have hci:=hcs i hi
   unfold carC at hci
   have he:=l7End_val sz (L.getD i z63) at_ hs hat ⟨hci.1,by omega⟩
   generalize hE: (if(L.getD i z63).f1-gapv (L.getD i z63).f0 at_<0 then-1 else mn (sz-1) (at_+((L.getD i z63).f1-gapv (L.getD i z63).f0 at_)))=e at he
   have skip:∀ (t s:Int),0≤t→t+4*(c:Int)≤1500→lgOk 2000 (fun k=>spec_l1Cur_legs7.j2 k L b o u at_ (j:Int) (i:Int) e false l t s sz false):=by
    intro t s ht0 ht1
    obtain⟨r,h,hr⟩:=lg_l0 hb hv hbs c (j+1) o u at_ t s (by omega) (by omega) (by omega) hat ht0 ht1
    exact⟨r,Ev.step (fun k=>by simp only[spec_l1Cur_legs7.j2];rw[if_neg (by decide),hj1]) h,hr⟩
   have take:at_<e→∀ (t s:Int),0≤t→t+4*(c:Int)+2≤1500→lgOk 2000 (fun k=>spec_l1Cur_legs7.j2 k L b o u at_ (j:Int) (i:Int) e true l t s sz false):=by
    intro hae t s ht0 ht1
    have hmn:=mn_le b e
    obtain⟨b2,s',ho⟩:=cur_one hb t s 3 ht0 (by omega) (by omega)
    cases b2 with
    | true=>
     obtain⟨w,t3,s3,hq,t4,w0,w1⟩:=dr_pickn hb (t+1) s' (mn b e-at_) (by omega) (by omega) (by omega)
     obtain⟨r,h,hr⟩:=lg_l0 hb hv hbs c (j+1) (o++[⟨(i:Int),at_,at_+1+w⟩]) (u++[(i:Int)]) (at_+1+w) t3 s3 (by omega) (by rw[List.length_append,List.length_singleton];omega) (by rw[List.length_append,List.length_singleton];omega) (by omega) (by omega) (by omega)
     refine⟨r,Ev.step (fun k=>?_) h,hr⟩
     simp only[spec_l1Cur_legs7.j2,l1Least_eq,ho,Option.bind_some,hj1]
     rw[if_pos True.intro,if_pos True.intro,w64 (x:=mn b e-at_) (by omega) (by omega),hq]
     simp only[Option.bind_some]
     rw[if_pos (by omega),if_pos (by omega),w64 (x:=at_+1) (by omega) (by omega),w64 (x:=at_+1+w) (by omega) (by omega)]
    | false=>
     obtain⟨r,h,hr⟩:=lg_l0 hb hv hbs c (j+1) (o++[⟨(i:Int),at_,mn b e⟩]) (u++[(i:Int)]) (mn b e) (t+1) s' (by omega) (by rw[List.length_append,List.length_singleton];omega) (by rw[List.length_append,List.length_singleton];omega) (by omega) (by omega) (by omega)
     refine⟨r,Ev.step (fun k=>?_) h,hr⟩
     simp only[spec_l1Cur_legs7.j2,l1Least_eq,ho,Option.bind_some,hj1]
     rw[if_pos True.intro,if_neg (by decide),if_pos (by omega),if_pos (by omega)]
   have both:lgOk 2000 (fun k=>(spec_l1Has.f k u (i:Int)).bind fun y=>if y=true then spec_l1Cur_legs7.j2 k L b o u at_ (j:Int) (i:Int) e false l t s sz false else spec_l1Cur_legs7.j2 k L b o u at_ (j:Int) (i:Int) e (decide (e>at_)) l t s sz false):=by
    have hH:=l1Has_ev u (i:Int) (by omega)
    by_cases q: (i:Int)∈u
    ·obtain⟨r,h,hr⟩:=skip t s (by omega) (by omega)
     exact⟨r,Ev.bind hH (ev_pos (decide_eq_true q) h),hr⟩
    ·by_cases q2:at_<e
     ·obtain⟨r,h,hr⟩:=take q2 t s (by omega) (by omega)
      refine⟨r,Ev.bind hH (ev_neg (by simpa using q) ?_),hr⟩
      rw[decide_eq_true (show e>at_ from q2)]
      exact h
     ·obtain⟨r,h,hr⟩:=skip t s (by omega) (by omega)
      refine⟨r,Ev.bind hH (ev_neg (by simpa using q) ?_),hr⟩
      rw[decide_eq_false (show ¬e>at_ by omega)]
      exact h
   obtain⟨r,h,hr⟩:=both
   refine⟨r,Ev.step (f:=fun k=>spec_l1Cur_legs7.j1 k L b o u at_ (j:Int) true l s1 s2 sz false) (fun k=>?_) (Ev.step (fun k=>?_) h),hr⟩
   ·simp only[spec_l1Cur_legs7.l0]
    rw[if_pos (by omega),decide_eq_true hab]
   ·simp only[spec_l1Cur_legs7.j1]
    rw[if_pos True.intro,hp]
    simp only[Option.bind_some,rdC_nat]
    rw[if_pos v0,if_pos v1,he]
    simp only[Option.bind_some]
  ·obtain⟨r,h,hr⟩:=lg_end hb L b o u at_ (j:Int) s1 s2 h0 (by omega) (by omega) sz false
   exact⟨r,Ev.step (fun k=>by
    simp only[spec_l1Cur_legs7.l0]
    rw[if_pos (by omega),decide_eq_false hab]) h,hr.1,hr.2.1,by omega⟩
theorem legs7_ok {l:List Int} (hb:∀ x∈l,0≤x∧x≤255) (s1 s2:Int) (h0:0≤s1) (h1:s1≤1400) (sz:Int) (rg:Bool) (L:List S63) (hL:L.length≤100) (a b:Int):lgOk 2000 (fun k=>spec_l1Cur_legs7.f k l s1 s2 sz rg L a b):=by
 have hA:=l7Asks_ev sz rg L a b (by omega)
 cases hv:asksV sz rg L a b with
 | false=>
  rw[hv]at hA
  refine⟨([],s1,s2),?_,by simp,h0,by simp only;omega⟩
  unfold spec_l1Cur_legs7.f
  simp only[Option.bind_some]
  exact Ev.bind hA (Ev.now _)
 | true=>
  rw[hv]at hA
  obtain⟨hc,ha0,hab,hbs⟩:=asks_of hv
  obtain⟨⟨hs,rfl⟩,hn,_⟩:=carV_of hc
  obtain⟨r,h,hr⟩:=lg_l0 hb hc hbs L.length 0 [] [] a s1 s2 (by omega) (by simp) (by simp) (by omega) h0 (by omega)
  refine⟨r,?_,hr⟩
  unfold spec_l1Cur_legs7.f
  simp only[Option.bind_some]
  exact Ev.bind hA (ev_pos rfl h)
theorem drawIR_ok {l:List Int} (hb:∀ x∈l,0≤x∧x≤255):∃ r:Int × Bool × List S63 × Int × Int × List S70,Ev (fun k=>spec_DrawIsRelay.f k l) r∧r.2.2.1.length≤100∧r.2.2.2.2.2.length≤100:=by
 obtain⟨r,h,hr⟩:=ask7_ok hb
 obtain⟨g,h2,hg⟩:=legs7_ok hb r.2.2.2.2.2.1 r.2.2.2.2.2.2 hr.2.1 (by omega) r.1 r.2.1 r.2.2.1 hr.1 r.2.2.2.1 r.2.2.2.2.1
 by_cases c: (g.1.length:Int)>0
 ·obtain⟨b,s,hn⟩:=cur_one hb g.2.1 g.2.2 4 hg.2.1 (by omega) (by omega)
  cases b with
  | true=>
   refine⟨(r.1,r.2.1,r.2.2.1,r.2.2.2.1,r.2.2.2.2.1,g.1),?_,hr.1,hg.1⟩
   unfold spec_DrawIsRelay.f
   refine Ev.bind h (Ev.bind h2 (ev_pos c ?_))
   simp only[hn,Option.bind_some]
   exact ev_pos True.intro (Ev.now _)
  | false=>
   have hw:wrap64 ((g.1.length:Int)-1)=(g.1.length:Int)-1:=w64 (by omega) (by omega)
   refine⟨(r.1,r.2.1,r.2.2.1,r.2.2.2.1,(rd_T70 g.1 ((g.1.length:Int)-1)).f2,g.1),?_,hr.1,hg.1⟩
   unfold spec_DrawIsRelay.f
   refine Ev.bind h (Ev.bind h2 (ev_pos c ?_))
   simp only[hn,Option.bind_some,hw]
   exact ev_neg (by decide) (ev_pos (by omega) (ev_pos (by omega) (Ev.now _)))
 ·refine⟨(r.1,r.2.1,r.2.2.1,r.2.2.2.1,r.2.2.2.2.1,g.1),?_,hr.1,hg.1⟩
  unfold spec_DrawIsRelay.f
  exact Ev.bind h (Ev.bind h2 (ev_neg c (Ev.now _)))
theorem drawLE_ok {l:List Int} (hb:∀ x∈l,0≤x∧x≤255):∃ r:Int × Bool × Int × Int × Int × Int,Ev (fun k=>spec_DrawLegEnd.f k l) r:=by
 obtain⟨v,s,hl⟩:=dr_line hb 0 0 (by omega) (by omega)
 obtain⟨g,h2,hg⟩:=carriers7_ok hb (0+2) s (by omega) (by omega) v false
 obtain⟨p,t,u,hp,_⟩:=dr_place hb g.2.1 g.2.2 hg.2.1 (by omega) v false
 by_cases c: (g.1.length:Int)=0
 ·refine⟨(v,false,0,3,0,p),?_⟩
  unfold spec_DrawLegEnd.f
  refine ev_bind0 hl (Ev.bind h2 (ev_pos c ?_))
  exact ev_bind0 hp (Ev.now _)
 ·have hw:wrap64 ((g.1.length:Int)-1)=(g.1.length:Int)-1:=w64 (by omega) (by omega)
  refine⟨(v,false,(rd_T63 g.1 ((g.1.length:Int)-1)).f0,(rd_T63 g.1 ((g.1.length:Int)-1)).f1,(rd_T63 g.1 ((g.1.length:Int)-1)).f2,p),?_⟩
  unfold spec_DrawLegEnd.f
  refine ev_bind0 hl (Ev.bind h2 (ev_neg c ?_))
  simp only[hw]
  exact ev_pos (by omega) (ev_pos (by omega) (ev_bind0 hp (Ev.now _)))
theorem drawAC_ok {l:List Int} (hb:∀ x∈l,0≤x∧x≤255):∃ r:Int × Bool × List S63,Ev (fun k=>spec_DrawAreCarriers.f k l) r∧r.2.2.length≤100:=by
 obtain⟨r,h,hr⟩:=ask7_ok hb
 refine⟨(r.1,r.2.1,r.2.2.1),?_,hr.1⟩
 unfold spec_DrawAreCarriers.f
 exact Ev.bind h (Ev.now _)
theorem best1_ev {fast:Bool} {s:Int} {l:List S63} {a b:Int} (hv:carV s false l=true) (ha:0≤a) (hab:a≤b) (hb:b≤s-1) (hl:l.length≤1048576):∃ t,IsBest (mkLegs fast l a b hv) t∧Ev (fun k=>impl_least.f k s false l a b (lgc fast s)) (told t):=by
 have hask:asksV s false l a b=true:=by
  unfold asksV
  rw[hv,Bool.true_and,inR_iff.2 ⟨by omega,hb⟩,inR_iff.2 ⟨ha,hab⟩]
  rfl
 have hc:=isCarried_ev s false l a b hl
 rw[hask]at hc
 obtain⟨t',h1',h2'⟩:=implLeastM_good (fast:=fast) hv ha hab hb hc
 rw[told_rI]at h2'
 exact⟨t',h1',h2'⟩
theorem price1_ev {s:Int} {l:List S63} {a b:Int} (hl:l.length≤1048576) (hask:asksV s false l a b=true) (hv:carV s false l=true):∃ t,IsBest (mkLegs false l a b hv) t∧Ev (fun k=>impl_LeastPrice.f k s false l a b) (told t):=by
 obtain⟨_,h0,hab,hb⟩:=asks_of hask
 obtain⟨t,h1,h2⟩:=best1_ev (fast:=false) hv h0 hab hb hl
 refine⟨t,h1,?_⟩
 unfold impl_LeastPrice.f mkLeg0.f
 simp only[Option.bind_some]
 exact Ev.bind h2 (Ev.now _)
theorem arrival1_ev {s:Int} {l:List S63} {a b:Int} (hl:l.length≤1048576) (hask:asksV s false l a b=true) (hv:carV s false l=true):∃ t,IsBest (mkLegs true l a b hv) t∧Ev (fun k=>impl_FirstArrival.f k s false l a b) (told t):=by
 obtain⟨_,h0,hab,hb⟩:=asks_of hask
 obtain⟨t,h1,h2⟩:=best1_ev (fast:=true) hv h0 hab hb hl
 refine⟨t,h1,?_⟩
 unfold impl_FirstArrival.f mkLeg1.f
 simp only[Option.bind_some]
 exact Ev.bind h2 (Ev.now _)
theorem rel_l0 {s:Int} {l:List S63} {b:Int} (hv:carV s false l=true) (legs:List S70) (hl:legs.length≤1048576):∀ i,i≤legs.length→∀ (u:List Int) (a:Int),0≤a→a≤s-1→relV s l b u a (legs.drop i)=true→Ev (fun k=>laws_FnRelays.l0 k l b legs a (i:Int) s false) true:=by
 refine down (P:=fun i=>∀ (u:List Int) (a:Int),0≤a→a≤s-1→relV s l b u a (legs.drop i)=true→Ev (fun k=>laws_FnRelays.l0 k l b legs a (i:Int) s false) true) ?_ ?_
 ·intro u a h0 h1 h
  rw[List.drop_length]at h
  simp only[relV]at h
  refine ev_now (fun k=>?_)
  simp only[laws_FnRelays.l0]
  rw[if_neg (by omega),h]
 ·intro i hi ih u a h0 h1 h
  rw[drop_consG z70 hi]at h
  simp only[relV]at h
  have hrd:rd_T70 legs (i:Int)=legs.getD i z70:=rfl
  generalize hg:legs.getD i z70=g at h hrd
  by_cases hq:legOk s l u a g∧g.f2≤b
  ·rw[if_pos hq]at h
   obtain⟨n,e,hn,_,e1,hlt,hs,hE⟩:=leg_of hq.1
   have hend:=end_leg hv hn h0 hlt hs hE
   have h2:=ih (u++[g.f0]) g.f2 (by omega) hs h
   refine Ev.step (f:=fun k=>(impl_LegEnd.f k s false (l.getD n z63).f0 (l.getD n z63).f1 (l.getD n z63).f2 a).bind fun y=>if y.2=true then(if g.f1=a then(if g.f2≤a then some false else if g.f2>y.1 then some false else laws_FnRelays.l0 k l b legs g.f2 ((i+1:Nat):Int) s false)else some false)else some false) (fun k=>?_) ?_
   ·simp only[laws_FnRelays.l0,hrd,w64s hi (show legs.length≤1152921504606846976 by omega)]
    rw[if_pos (by omega),if_pos (by omega),if_pos (by omega),if_pos (by omega),e,rdC_nat]
   ·refine Ev.bind (implEnd_ev s false _ _ _ a) (ev_pos hend.1 (ev_pos e1 (ev_neg (by omega) (ev_neg ?_ h2))))
    have:=hend.2
    omega
  ·rw[if_neg hq]at h
   cases h
theorem rel_j1 {s:Int} {r:Bool} {l:List S63} {a b:Int} {legs:List S70} (hl:l.length≤1048576) (hg:legs.length≤1048576):Ev (fun k=>laws_FnRelays.j1 k l a b legs (priceR s r l a b legs).1 (priceR s r l a b legs).2 (arrivalR s r l a b legs).1 false s r) true:=by
 cases hp: (priceR s r l a b legs).2 with
 | false=>exact ev_now (fun k=>by simp only[laws_FnRelays.j1];rw[if_neg (by decide),if_neg (by decide)])
 | true=>
  have hrel:asksV s r l a b=true∧relV s l b [] a legs=true:=by
   unfold priceR at hp
   split at hp
   ·rename_i h1
    split at hp
    ·rename_i h2
     exact⟨h1,h2⟩
    ·cases hp
   ·cases hp
  obtain⟨hask,hR⟩:=hrel
  obtain⟨hc,h0,hab,hb⟩:=asks_of hask
  obtain⟨⟨hs,rfl⟩,hn,_⟩:=carV_of hc
  have hfew:=rel_few hask hR
  have hsk: (seek (fun o=>decide (b≤rch s l o a)) l.length (l.length+1) 0).isSome=true:=by
   have h1:=hfew.1
   unfold orderR at h1
   rw[if_pos hask]at h1
   cases hk:seek (fun o=>decide (b≤rch s l o a)) l.length (l.length+1) 0 with
   | some o=>rfl
   | none=>rw[hk]at h1;cases h1
  have eP: (priceR s false l a b legs).1=prc l 0 legs:=by unfold priceR;rw[if_pos hask,if_pos hR]
  have eA: (arrivalR s false l a b legs).1=arv l 0 legs:=by unfold arrivalR;rw[if_pos hask,if_pos hR]
  have nob:∀ j,j<l.length→bitA 0 j=1→(j:Int)∈([]:List Int):=fun j _ hj=>by unfold bitA at hj;simp at hj
  obtain⟨c1,hw1⟩:=rel_price (a0:=a) hc h0 legs [] a 0 0 (Int.le_refl _) hR Way.start nob
  obtain⟨c2,hw2⟩:=rel_arrival (a0:=a) hc h0 legs [] a 0 0 (Int.le_refl _) hR Way.start nob
  obtain⟨t,ht,hp1⟩:=price1_ev hl hask hc
  obtain⟨t2,ht2,ha1⟩:=arrival1_ev hl hask hc
  have n1: (told t).2=true:=decide_eq_true ((best_iff hc h0 hab hb ht).2 hsk)
  have n2: (told t2).2=true:=decide_eq_true ((best_iff hc h0 hab hb ht2).2 hsk)
  have k1:t≤prc l 0 legs:=best_le ht hw1
  have k2:t2≤arv l 0 legs:=best_le ht2 hw2
  have k3:=hw1.pos
  have k4:=hw2.pos
  have m1:=mx_ge t 0
  have m2:=mx_ge t2 0
  rw[eP,eA]
  have hj2:Ev (fun k=>laws_FnRelays.j2 k l a b legs false s false) true:=by
   refine Ev.step (fun k=>?_) (rel_l0 hc legs hg 0 (Nat.zero_le _) [] a h0 (by omega) (by rw[List.drop_zero];exact hR))
   simp only[laws_FnRelays.j2]
   rw[if_neg (by decide)]
   rfl
  refine Ev.step (f:=fun k=>(impl_LeastPrice.f k s false l a b).bind fun x=>(impl_FirstArrival.f k s false l a b).bind fun y=>(impl_FewestCarriers.f k s false l a b).bind fun z=>if x.2=true then(if y.2=true then(if z.2=true then(if prc l 0 legs<x.1 then laws_FnRelays.j2 k l a b legs true s false else(if arv l 0 legs<y.1 then laws_FnRelays.j2 k l a b legs true s false else laws_FnRelays.j2 k l a b legs (decide ((legs.length:Int)<z.1)) s false))else laws_FnRelays.j2 k l a b legs true s false)else laws_FnRelays.j2 k l a b legs true s false)else laws_FnRelays.j2 k l a b legs true s false) (fun k=>?_) ?_
  ·simp only[laws_FnRelays.j1]
   rw[if_neg (by decide),if_pos True.intro]
  ·refine Ev.bind hp1 (Ev.bind ha1 (Ev.bind (implFew_ev s false l a b hl) ?_))
   refine ev_pos n1 (ev_pos n2 (ev_pos hfew.1 (ev_neg ?_ (ev_neg ?_ ?_))))
   ·show ¬prc l 0 legs<mx t 0
    omega
   ·show ¬arv l 0 legs<mx t2 0
    omega
   ·have e:decide ((legs.length:Int)<(fewR s false l a b).1)=false:=by
     refine decide_eq_false ?_
     show ¬(legs.length:Int)<((orderR s false l a b).1.length:Int)
     have:=hfew.2
     omega
    rw[e]
    exact hj2
theorem rel_j0 {s:Int} {r:Bool} {l:List S63} {a b:Int} {legs:List S70} (hl:l.length≤1048576) (hg:legs.length≤1048576) (s':Int) (r':Bool) (c0 c1 c2 x:Int):Ev (fun k=>laws_FnRelays.j0 k l a b legs (priceR s r l a b legs).1 (priceR s r l a b legs).2 (arrivalR s r l a b legs).1 x (endR s' r' c0 c1 c2 x).1 (endR s' r' c0 c1 c2 x).2 false s r s' r') true:=by
 refine Ev.step (fun k=>?_) (rel_j1 (s:=s) (r:=r) (a:=a) (b:=b) hl hg)
 simp only[laws_FnRelays.j0]
 rw[if_neg (by decide)]
 cases h: (endR s' r' c0 c1 c2 x).2 with
 | true=>
  have he:=end_in h
  rw[if_pos rfl,if_neg (by omega),w64 (x:=s'-1) (by omega) (by omega),decide_eq_false (by omega)]
 | false=>rw[if_neg (by decide)]
theorem rel_price2 (s:Int) (r:Bool) (l:List S63) (a b:Int) (legs:List S70): (priceR s r l a b legs).2=((isR s r l a b legs).2&& (isR s r l a b legs).1)∧(arrivalR s r l a b legs).2=(priceR s r l a b legs).2:=by
 unfold priceR arrivalR isR
 cases asksV s r l a b with
 | false=>exact⟨rfl,rfl⟩
 | true=>
  cases relV s l b [] a legs with
  | false=>exact⟨rfl,rfl⟩
  | true=>exact⟨rfl,rfl⟩
set_option maxHeartbeats 2000000 in
theorem FnRelays:FnRelaysLeft:=by
 intro code _ hwf
 have hb:∀ x∈code,0≤x∧x≤255:=fun x hx=>by
  have:=hwf x hx
  simp[Lit.wf,IntKind.min,IntKind.max,IntKind.signed,IntKind.bits]at this
  omega
 refine Ev.rounds (g:=fun k=>laws_FnRelays.f k code) ?_
 unfold laws_FnRelays.f laws_vBig.f
 simp only[Option.bind_some]
 by_cases hbig: (code.length:Int)>65536
 ·exact ev_pos (decide_eq_true hbig) (Ev.now _)
 refine ev_neg (by rw[decide_eq_false hbig];simp) ?_
 obtain⟨⟨s,r,l,a,b,legs⟩,hd1,hl,hg⟩:=drawIR_ok hb
 obtain⟨code1,hcut1,hb1⟩:=vCut_ok hb (by omega) 1 (by omega)
 obtain⟨code2,hcut2,hb2⟩:=vCut_ok hb (by omega) 2 (by omega)
 obtain⟨⟨s',r',c0,c1,c2,x⟩,hd2⟩:=drawLE_ok hb1
 obtain⟨⟨u,ur,lo⟩,hd3,hlo⟩:=drawAC_ok hb2
 simp only at hl hg hlo
 have hl2:l.length≤1048576:=by omega
 have hg2:legs.length≤1048576:=by omega
 have hlo2:lo.length≤1048576:=by omega
 have hp2:=rel_price2 s r l a b legs
 have hj0:=rel_j0 (s:=s) (r:=r) (a:=a) (b:=b) hl2 hg2 s' r' c0 c1 c2 x
 have hend:=specEnd_ev s' r' c0 c1 c2 x
 refine Ev.bind hd1 ?_
 refine Ev.bind (implIs_ev s r l a b legs hl2 hg2) (Ev.bind (specIs_ev s r l a b legs hl2 hg2) ?_)
 refine Ev.bind (implPrice_ev s r l a b legs hl2 hg2) (Ev.bind (specPrice_ev s r l a b legs hl2 hg2) ?_)
 refine Ev.bind (implArrival_ev s r l a b legs hl2 hg2) (Ev.bind (specArrival_ev s r l a b legs hl2 hg2) ?_)
 refine ev_bind0 hcut1 (Ev.bind hd2 ?_)
 refine Ev.bind (implEnd_ev s' r' c0 c1 c2 x) (Ev.bind hend ?_)
 refine ev_bind0 hcut2 (Ev.bind hd3 ?_)
 refine Ev.bind (implAre_ev u ur lo hlo2) (Ev.bind (specAre_ev u ur lo hlo2) ?_)
 refine ev_neg (by simp) (ev_neg (by simp) (ev_pos rfl (ev_neg (by simp) (ev_pos rfl (ev_neg (by simp) (ev_pos rfl (ev_neg (by simp) (ev_neg (by simp) (ev_neg (by simp) ?_)))))))))
 refine ev_neg (by rw[hp2.2];simp) ?_
 have e2:=hp2.1
 cases hi: (isR s r l a b legs).2 with
 | true=>
  rw[hi,Bool.true_and]at e2
  have e3: ((priceR s r l a b legs).2 !=(isR s r l a b legs).1)=false:=by rw[e2];simp
  refine ev_pos rfl ?_
  rw[e3]
  exact hj0
 | false=>
  rw[hi,Bool.false_and]at e2
  have e3: ((priceR s r l a b legs).2 !=false)=false:=by rw[e2];rfl
  refine ev_neg (by decide) ?_
  rw[e3]
  exact hj0
end Go.Proofs.Ythagkpoinjpmfaa.Pure
