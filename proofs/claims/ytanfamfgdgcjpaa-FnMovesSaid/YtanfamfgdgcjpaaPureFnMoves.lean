/- FnMoves: the left statement: for every code the law answers true. No condition. -/
import Derived.Test.YtanfamfgdgcjpaaQFnMovesx25
import Derived.Test.YtanfamfgdgcjpaaBase
import Derived.Test.YtanfamfgdgcjpaaBits
import Derived.Test.YtanfamfgdgcjpaaBitsOn
import Derived.Test.YtanfamfgdgcjpaaBitsDrop
import Derived.Test.YtanfamfgdgcjpaaU64
import Derived.Test.YtanfamfgdgcjpaaDraw
namespace Go.Proofs.Ytanfamfgdgcjpaa.Pure
open Go.RowKit Go.Proofs.Ytanfamfgdgcjpaa.QFnMoves Go.Proofs.YtanfamfgdgcjpaaW.PrintWords Go.Proofs.YtanfamfgdgcjpaaW.PrintLast Go.Proofs.Ytanfamfgdgcjpaa.Base
set_option linter.unusedVariables false
set_option linter.unusedSimpArgs false
def FnMovesLeft:Prop:=∀ (l0:List Int),l0.length≤maxLen→(∀ x∈l0,(Lit.int .u8 x).wf=true)→∃ k,laws_FnMoves.f k l0=some true
theorem l1In_eq (a b c:Int):spec_l1In.f a b c=some (inR b c a):=by
 unfold spec_l1In.f inR
 by_cases h:a≥b
 ·have h':b≤a:=h
  rw[if_pos h];simp[h']
 ·have h':¬b≤a:=h
  rw[if_neg h];simp[h']
theorem within_eq (a b c:Int):impl_within.f a b c=some (inR b c a):=by
 unfold impl_within.f inR
 by_cases h:a≥b
 ·have h':b≤a:=h
  rw[if_pos h];simp[h']
 ·have h':¬b≤a:=h
  rw[if_neg h];simp[h']
def lineV (s:Int) (r:Bool):Bool:=inR 2 24 s&& !r
theorem line_of {s:Int} {r:Bool} (h:lineV s r=true): (2≤s∧s≤24)∧r=false:=by
 unfold lineV at h
 rw[Bool.and_eq_true,inR_iff]at h
 exact⟨h.1,by simpa using h.2⟩
theorem l2Road_eq (s:Int) (r:Bool):spec_l2Road.f s r=some (inR 2 24 s&& (!r||decide (s>2))):=by
 unfold spec_l2Road.f
 simp only[l1In_eq,Option.bind_some]
 cases inR 2 24 s<;>cases r<;>simp
theorem isRoad_eq (s:Int) (r:Bool):impl_IsRoad.f s r=some (inR 2 24 s&& (!r||decide (s>2))):=by
 unfold impl_IsRoad.f
 simp only[within_eq,Option.bind_some]
 cases h:inR 2 24 s<;>cases r<;>simp<;>omega
theorem isLine_eq (s:Int) (r:Bool):impl_isLine.f s r=some (lineV s r):=by
 unfold impl_isLine.f lineV
 simp only[isRoad_eq,Option.bind_some]
 cases inR 2 24 s<;>cases r<;>simp
theorem l3Line_eq (s:Int) (r:Bool) (a:Int):spec_l3Line.f s r a=some (lineV s r&&inR 0 (s-1) a):=by
 unfold spec_l3Line.f lineV
 simp only[l2Road_eq,l1In_eq,Option.bind_some]
 cases h:inR 2 24 s with
 | false=>simp
 | true=>
  have hs:=inR_iff.1 h
  rw[w64 (by omega) (by omega)]
  cases r<;>simp
theorem allWithin_ev (l:List Int) (a b:Int) (hl:l.length≤1152921504606846976):Ev (fun k=>impl_allWithin.f k l a b) (inAll a b l):=by
 have key:=down (P:=fun i=>Ev (fun k=>impl_allWithin.l0 k a b l (l.length:Int) (i:Int)) (inAll a b (l.drop i))) (n:=l.length)
  (ev_now (fun k=>by
   simp only[impl_allWithin.l0]
   rw[if_neg (by omega)]
   simp[inAll_nil]))
  (fun i hi ih=>by
   rw[drop_cons hi,inAll_cons]
   cases hc:inR a b (rd l (i:Int))with
   | true=>
    rw[Bool.true_and]
    refine Ev.step (fun k=>?_) ih
    simp only[impl_allWithin.l0,within_eq,Option.bind_some,hc,if_true]
    rw[if_pos (by omega),if_pos (by omega),if_pos (by omega),w64s hi hl]
   | false=>
    refine ev_now (fun k=>?_)
    simp only[impl_allWithin.l0,within_eq,Option.bind_some,hc,Bool.false_eq_true,if_false]
    rw[if_pos (by omega),if_pos (by omega),if_pos (by omega)]
    simp)
 exact key 0 (by omega)
def sC (s:Int) (l:List S58) (j:Nat):Prop:=(0≤(l.getD j z58).f0∧(l.getD j z58).f0≤s-1)∧0≤(l.getD j z58).f1∧(l.getD j z58).f1≤12
instance (s:Int) (l:List S58):DecidablePred (sC s l):=fun j=>by unfold sC;infer_instance
def sensV (s:Int) (r:Bool) (l:List S58):Bool:=(lineV s r&&decide ((l.length:Int)≤6))&&allF l.length (sC s l) 0
theorem sens_of {s:Int} {r:Bool} {l:List S58} (h:sensV s r l=true): ((2≤s∧s≤24)∧r=false)∧l.length≤6∧∀ j,j<l.length→sC s l j:=by
 unfold sensV at h
 rw[Bool.and_eq_true,Bool.and_eq_true]at h
 have:=of_decide_eq_true h.1.2
 exact⟨line_of h.1.1,by omega,allF_of h.2⟩
theorem rdT_nat (l:List S58) (j:Nat):rd_T58 l (j:Int)=l.getD j z58:=rfl
theorem l9Sensors_ev (s:Int) (r:Bool) (l:List S58) (hl:l.length≤1048576):Ev (fun k=>spec_l9Sensors.f k s r l) (sensV s r l):=by
 have key:=down (P:=fun i=>Ev (fun k=>spec_l9Sensors.l0 k l (i:Int) s r) ((lineV s r&&decide ((l.length:Int)≤6))&&allF l.length (sC s l) i)) (n:=l.length)
  (ev_now (fun k=>by
   simp only[spec_l9Sensors.l0,l2Road_eq,Option.bind_some]
   rw[if_neg (by omega),allF_end]
   unfold lineV
   cases inR 2 24 s<;>cases r<;>simp))
  (fun i hi ih=>by
   rw[allF_step hi]
   have e3:∀ k,spec_l9Sensors.l0 (k+1) l (i:Int) s r=if(lineV s r&&inR 0 (s-1) (l.getD i z58).f0)=true then(if inR 0 12 (l.getD i z58).f1=true then spec_l9Sensors.l0 k l ((i+1:Nat):Int) s r else some false)else some false:=by
    intro k
    simp only[spec_l9Sensors.l0,l3Line_eq,l1In_eq,Option.bind_some,rdT_nat]
    rw[if_pos (by omega),if_pos (by omega),w64s hi (by omega)]
   cases hL:lineV s r with
   | false=>
    refine ev_now (fun k=>?_)
    rw[e3,hL];simp
   | true=>
    rw[hL]at ih
    by_cases hc:sC s l i
    ·rw[decide_eq_true hc,Bool.true_and]
     refine Ev.step (fun k=>?_) ih
     rw[e3,hL,Bool.true_and,if_pos (inR_iff.2 hc.1),if_pos (inR_iff.2 hc.2)]
    ·rw[decide_eq_false hc,Bool.false_and,Bool.and_false]
     refine ev_now (fun k=>?_)
     rw[e3,hL,Bool.true_and]
     by_cases h1:inR 0 (s-1) (l.getD i z58).f0=true
     ·rw[if_pos h1,if_neg (fun h2=>hc ⟨inR_iff.1 h1,inR_iff.1 h2⟩)]
     ·rw[if_neg h1])
 exact key 0 (by omega)
theorem areSensors_ev (s:Int) (r:Bool) (l:List S58) (hl:l.length≤1048576) (hs:2≤s∧s≤24):Ev (fun k=>impl_Road_areSensors.f k s r l) (decide ((l.length:Int)≤6)&&allF l.length (sC s l) 0):=by
 have key:=down (P:=fun i=>Ev (fun k=>impl_Road_areSensors.l0 k l l (l.length:Int) (i:Int) s r) (decide ((l.length:Int)≤6)&&allF l.length (sC s l) i)) (n:=l.length)
  (ev_now (fun k=>by
   simp only[impl_Road_areSensors.l0]
   rw[if_neg (by omega),allF_end,Bool.and_true]))
  (fun i hi ih=>by
   rw[allF_step hi]
   have hh:Ev (fun k=>impl_Road_has.f k s r [(l.getD i z58).f0]) (inR 0 (s-1) (l.getD i z58).f0):=by
    unfold impl_Road_has.f
    rw[w64 (by omega) (by omega)]
    have:=allWithin_ev [(l.getD i z58).f0] 0 (s-1) (by simp)
    have e:inAll 0 (s-1) [(l.getD i z58).f0]=inR 0 (s-1) (l.getD i z58).f0:=by simp[inAll]
    rw[e]at this
    exact Ev.bind this (Ev.now _)
   refine Ev.step (f:=fun k=>(impl_Road_has.f k s r [(l.getD i z58).f0]).bind fun t=>if t=true then(if inR 0 12 (l.getD i z58).f1=true then impl_Road_areSensors.l0 k l l (l.length:Int) ((i+1:Nat):Int) s r else some false)else some false) (fun k=>?_) (Ev.bind hh ?_)
   ·simp only[impl_Road_areSensors.l0,within_eq,Option.bind_some,rdT_nat]
    rw[if_pos (by omega),if_pos (by omega),if_pos (by omega),w64s hi (by omega)]
   ·by_cases hc:sC s l i
    ·rw[decide_eq_true hc,Bool.true_and]
     exact ev_pos (inR_iff.2 hc.1) (ev_pos (inR_iff.2 hc.2) ih)
    ·rw[decide_eq_false hc,Bool.false_and,Bool.and_false]
     by_cases h1:inR 0 (s-1) (l.getD i z58).f0=true
     ·exact ev_pos h1 (ev_neg (fun h2=>hc ⟨inR_iff.1 h1,inR_iff.1 h2⟩) (Ev.now _))
     ·exact ev_neg h1 (Ev.now _))
 exact key 0 (by omega)
theorem isGuarded_ev (s:Int) (r:Bool) (l:List S58) (hl:l.length≤1048576):Ev (fun k=>impl_isGuarded.f k s r l) (sensV s r l):=by
 unfold impl_isGuarded.f sensV
 simp only[isLine_eq,Option.bind_some]
 cases hL:lineV s r with
 | true=>
  refine ev_pos rfl ?_
  rw[Bool.true_and]
  exact Ev.bind (areSensors_ev s r l hl (line_of hL).1) (Ev.now _)
 | false=>exact ev_neg (by simp) (Ev.now _)
theorem l1Most_eq (a b:Int):spec_l1Most.f a b=some (mx a b):=by
 unfold spec_l1Most.f mx
 by_cases h:a>b
 ·rw[if_pos h,if_neg (by omega)]
 ·rw[if_neg h]
  by_cases h2:a<b
  ·rw[if_pos h2]
  ·rw[if_neg h2];congr 1;omega
theorem caLeast_eq (a b:Int):spec_l1Least.f a b=some (mn a b):=by
 unfold spec_l1Least.f mn
 by_cases h:a<b
 ·rw[if_pos h,if_neg (by omega)]
 ·rw[if_neg h]
  by_cases h2:b<a
  ·rw[if_pos h2]
  ·rw[if_neg h2];congr 1;omega
def plc (s d a r f:Int):Int:=mn (mn (a+d) (f+r)) (s-1)
def plcOk (s d a r f:Int):Prop:=a-d≤plc s d a r f∧f-r≤plc s d a r f
instance (s d a r f:Int):Decidable (plcOk s d a r f):=by unfold plcOk;infer_instance
theorem l9Place_eq {s d a r f:Int} (hs:2≤s∧s≤24) (hd:0≤d∧d≤24) (ha:0≤a∧a≤s-1) (hr:0≤r∧r≤12) (hf:0≤f∧f≤36):spec_l9Place.f s false a r f d=some (if plcOk s d a r f then plc s d a r f else-1):=by
 unfold spec_l9Place.f
 rw[w64 (x:=a+d) (by omega) (by omega),w64 (x:=f+r) (by omega) (by omega),w64 (x:=s-1) (by omega) (by omega),w64 (x:=a-d) (by omega) (by omega),w64 (x:=f-r) (by omega) (by omega)]
 simp only[caLeast_eq,Option.bind_some]
 have e:mn (mn (a+d) (f+r)) (s-1)=plc s d a r f:=rfl
 rw[e]
 by_cases h1:plc s d a r f<a-d
 ·rw[if_pos h1,if_neg (fun h:plcOk s d a r f=>by have:=h.1;omega)]
 ·rw[if_neg h1]
  by_cases h2:plc s d a r f<f-r
  ·rw[if_pos h2,if_neg (fun h:plcOk s d a r f=>by have:=h.2;omega)]
  ·rw[if_neg h2,if_pos (show plcOk s d a r f from⟨by omega,by omega⟩)]
theorem plc_nn {s d a r f:Int} (hs:2≤s∧s≤24) (hd:0≤d∧d≤24) (ha:0≤a∧a≤s-1) (hr:0≤r∧r≤12) (hf:0≤f∧f≤36):0≤plc s d a r f∧plc s d a r f≤23:=by
 have h2:=mn_le (a+d) (f+r)
 have h3:=mn_le (mn (a+d) (f+r)) (s-1)
 unfold plc
 omega
def upS (s d a r f best:Int):Int:=if f<s then(if plcOk s d a r f then mx (mx best f) (plc s d a r f+r+1)else mx best f)else mx best f
def upI (s d a r f best:Int):Int:=if plcOk s d a r f then mx best (mx f (plc s d a r f+r+1))else mx best f
def rowF (up:Int→Int→Int→Int→Int) (l:List S58) (T:List Int) (c:Nat):Nat→Int
 | 0=>0
 | i+1=>if bitA c i=1 then up (l.getD i z58).f0 (l.getD i z58).f1 (rd T ((c-2^i:Nat):Int)) (rowF up l T c i)else rowF up l T c i
theorem rowF_succ (up:Int→Int→Int→Int→Int) (l:List S58) (T:List Int) (c i:Nat):rowF up l T c (i+1)=if bitA c i=1 then up (l.getD i z58).f0 (l.getD i z58).f1 (rd T ((c-2^i:Nat):Int)) (rowF up l T c i)else rowF up l T c i:=rfl
theorem upS_eq (s d a r f best:Int):upS s d a r f best=if f<s then(if plcOk s d a r f then mx (mx best f) (plc s d a r f+r+1)else mx best f)else mx best f:=rfl
theorem upI_eq (s d a r f best:Int):upI s d a r f best=if plcOk s d a r f then mx best (mx f (plc s d a r f+r+1))else mx best f:=rfl
def tabF (up:Int→Int→Int→Int→Int) (l:List S58):Nat→List Int
 | 0=>[]
 | c+1=>tabF up l c++[rowF up l (tabF up l c) c l.length]
theorem tabF_len (up:Int→Int→Int→Int→Int) (l:List S58) (c:Nat): (tabF up l c).length=c:=by
 induction c with
 | zero=>rfl
 | succ c ih=>simp[tabF,ih]
theorem tabF_rd (up:Int→Int→Int→Int→Int) (l:List S58) {c q:Nat} (h:q<c):rd (tabF up l c) (q:Int)=rowF up l (tabF up l q) q l.length:=by
 induction c with
 | zero=>omega
 | succ c ih=>
  by_cases e:q=c
  ·subst e
   have:=rd_snoc (tabF up l q) (rowF up l (tabF up l q) q l.length)
   rw[tabF_len]at this
   exact this
  ·show rd (tabF up l c++_) (q:Int)=_
   rw[rd_app_l (by rw[tabF_len];omega)]
   exact ih (by omega)
def okF (up:Int→Int→Int→Int→Int) (l:List S58):Prop:=∀ i,i<l.length→∀ f b,0≤f∧f≤36→0≤b∧b≤36→0≤up (l.getD i z58).f0 (l.getD i z58).f1 f b∧up (l.getD i z58).f0 (l.getD i z58).f1 f b≤36
theorem rowF_bd {up:Int→Int→Int→Int→Int} {l:List S58} (ho:okF up l) (T:List Int) (c:Nat) (hT:∀ q,q<c→0≤rd T (q:Int)∧rd T (q:Int)≤36) (i:Nat) (hi:i≤l.length):0≤rowF up l T c i∧rowF up l T c i≤36:=by
 induction i with
 | zero=>exact⟨Int.le_refl _,by simp[rowF]⟩
 | succ i ih=>
  unfold rowF
  split
  ·rename_i hb
   have:=bit_le hb
   have hp:=Nat.two_pow_pos i
   exact ho i (by omega) _ _ (hT _ (by omega)) (ih (by omega))
  ·exact ih (by omega)
theorem tabF_bd {up:Int→Int→Int→Int→Int} {l:List S58} (ho:okF up l) (c:Nat):∀ q,q<c→0≤rd (tabF up l c) (q:Int)∧rd (tabF up l c) (q:Int)≤36:=by
 induction c with
 | zero=>intro q hq;omega
 | succ c ih=>
  intro q hq
  rw[tabF_rd up l hq]
  by_cases e:q=c
  ·subst e
   exact rowF_bd ho _ q ih l.length (Nat.le_refl _)
  ·have:=ih q (by omega)
   rw[tabF_rd up l (show q<c by omega)]at this
   exact this
theorem okS {s d:Int} {l:List S58} (hs:2≤s∧s≤24) (hd:0≤d∧d≤24) (h:∀ j,j<l.length→sC s l j):okF (upS s d) l:=by
 intro i hi f b hf hb
 have hc:=h i hi
 unfold sC at hc
 have h1:=mx_ge b f
 have h2:=mn_le ((l.getD i z58).f0+d) (f+(l.getD i z58).f1)
 have h3:=mn_le (mn ((l.getD i z58).f0+d) (f+(l.getD i z58).f1)) (s-1)
 have h4:=mx_ge (mx b f) (plc s d (l.getD i z58).f0 (l.getD i z58).f1 f+(l.getD i z58).f1+1)
 have h5:plc s d (l.getD i z58).f0 (l.getD i z58).f1 f=mn (mn ((l.getD i z58).f0+d) (f+(l.getD i z58).f1)) (s-1):=rfl
 unfold upS
 split
 ·split
  ·omega
  ·omega
 ·omega
theorem okI {s d:Int} {l:List S58} (hs:2≤s∧s≤24) (hd:0≤d∧d≤24) (h:∀ j,j<l.length→sC s l j):okF (upI s d) l:=by
 intro i hi f b hf hb
 have hc:=h i hi
 unfold sC at hc
 have h1:=mx_ge b f
 have h2:=mn_le ((l.getD i z58).f0+d) (f+(l.getD i z58).f1)
 have h3:=mn_le (mn ((l.getD i z58).f0+d) (f+(l.getD i z58).f1)) (s-1)
 have h5:plc s d (l.getD i z58).f0 (l.getD i z58).f1 f=mn (mn ((l.getD i z58).f0+d) (f+(l.getD i z58).f1)) (s-1):=rfl
 have h4:=mx_ge f (plc s d (l.getD i z58).f0 (l.getD i z58).f1 f+(l.getD i z58).f1+1)
 have h6:=mx_ge b (mx f (plc s d (l.getD i z58).f0 (l.getD i z58).f1 f+(l.getD i z58).f1+1))
 unfold upI
 split
 ·omega
 ·omega
def like (s x y:Int):Prop:=x=y∨(s≤x∧s≤y)
theorem like_mx {s x y u v:Int} (h:like s x y) (k:like s u v):like s (mx x u) (mx y v):=by
 have a:=mx_ge x u
 have b:=mx_ge y v
 rcases h with h|h
 ·rcases k with k|k
  ·subst h;subst k;exact .inl rfl
  ·exact .inr ⟨by omega,by omega⟩
 ·exact .inr ⟨by omega,by omega⟩
theorem like_up {s d a r f g b c:Int} (h:like s f g) (k:like s b c):like s (upS s d a r f b) (upI s d a r g c):=by
 rcases h with h|h
 ·subst h
  unfold upS upI
  by_cases hf:f<s
  ·rw[if_pos hf]
   by_cases ho:plcOk s d a r f
   ·rw[if_pos ho,if_pos ho]
    have e:mx (mx b f) (plc s d a r f+r+1)=mx b (mx f (plc s d a r f+r+1)):=by unfold mx;(repeat' split)<;>omega
    rw[e]
    exact like_mx k (.inl rfl)
   ·rw[if_neg ho,if_neg ho]
    exact like_mx k (.inl rfl)
  ·rw[if_neg hf]
   have a1:=mx_ge b f
   split
   ·have a2:=mx_ge f (plc s d a r f+r+1)
    have a3:=mx_ge c (mx f (plc s d a r f+r+1))
    exact .inr ⟨by omega,by omega⟩
   ·have a3:=mx_ge c f
    exact .inr ⟨by omega,by omega⟩
 ·have a1:=mx_ge b f
  have e1:s≤upS s d a r f b:=by
   unfold upS
   rw[if_neg (by omega)];omega
  have e2:s≤upI s d a r g c:=by
   unfold upI
   split
   ·have a2:=mx_ge g (plc s d a r g+r+1)
    have a3:=mx_ge c (mx g (plc s d a r g+r+1))
    omega
   ·have a3:=mx_ge c g
    omega
  exact .inr ⟨e1,e2⟩
theorem like_row {s d:Int} {l:List S58} {T U:List Int} {c:Nat} (h:∀ q,q<c→like s (rd T (q:Int)) (rd U (q:Int))) (i:Nat):like s (rowF (upS s d) l T c i) (rowF (upI s d) l U c i):=by
 induction i with
 | zero=>exact .inl rfl
 | succ i ih=>
  unfold rowF
  split
  ·rename_i hb
   have:=bit_le hb
   have hp:=Nat.two_pow_pos i
   exact like_up (h _ (by omega)) ih
  ·exact ih
theorem like_tab (s d:Int) (l:List S58) (c:Nat):∀ q,q<c→like s (rd (tabF (upS s d) l c) (q:Int)) (rd (tabF (upI s d) l c) (q:Int)):=by
 induction c with
 | zero=>intro q hq;omega
 | succ c ih=>
  intro q hq
  rw[tabF_rd _ l hq,tabF_rd _ l hq]
  by_cases e:q=c
  ·subst e
   exact like_row ih l.length
  ·have:=ih q (by omega)
   rw[tabF_rd _ l (show q<c by omega),tabF_rd _ l (show q<c by omega)]at this
   exact this
def canB (s d:Int) (l:List S58):Bool:=decide (s≤rd (tabF (upS s d) l (2^l.length)) ((2^l.length-1:Nat):Int))
theorem canB_impl (s d:Int) (l:List S58):canB s d l=decide (s≤rd (tabF (upI s d) l (2^l.length)) ((2^l.length-1:Nat):Int)):=by
 have hp:=Nat.two_pow_pos l.length
 have:=like_tab s d l (2^l.length) (2^l.length-1) (by omega)
 unfold canB
 rw[Bool.eq_iff_iff,decide_eq_true_iff,decide_eq_true_iff]
 rcases this with h|h<;>omega
theorem pow_le64 {n:Nat} (h:n≤6):2^n≤64:=Nat.le_trans (Nat.pow_le_pow_right (by decide) h) (by decide)
theorem l9Can_ev (s d:Int) (l:List S58) (hv:sensV s false l=true) (hd:0≤d∧d≤24):Ev (fun k=>spec_l9Can.f k s false l d) (canB s d l):=by
 have h:=sens_of hv
 have hs:=h.1.1
 have hN:=pow_le64 h.2.1
 have hp:=Nat.two_pow_pos l.length
 have ho:=okS hs hd h.2.2
 have key:=down (P:=fun c=>Ev (fun k=>spec_l9Can.l0 k l d (tabF (upS s d) l c) (c:Int) s false) (canB s d l)) (n:=2^l.length)
  (ev_now (fun k=>by
   simp only[spec_l9Can.l0]
   rw[shl_one (by omega),if_neg (by omega),tabF_len,w64 (by omega) (by omega),show((2^l.length:Nat):Int)-1=((2^l.length-1:Nat):Int)by omega,if_pos (by omega),if_pos (by omega)]
   rfl))
  (fun c hc ih=>by
   have hb:=tabF_bd ho c
   refine Ev.step (f:=fun k=>spec_l9Can.l1 k l d (tabF (upS s d) l c) (c:Int) (rowF (upS s d) l (tabF (upS s d) l c) c 0) ((0:Nat):Int) s false) (fun k=>by simp only[spec_l9Can.l0];rw[shl_one (by omega),if_pos (by omega)];rfl) ?_
   have inner:=down (P:=fun i=>Ev (fun k=>spec_l9Can.l1 k l d (tabF (upS s d) l c) (c:Int) (rowF (upS s d) l (tabF (upS s d) l c) c i) (i:Int) s false) (canB s d l)) (n:=l.length)
    (by
     refine Ev.step (fun k=>?_) ih
     simp only[spec_l9Can.l1]
     rw[if_neg (by omega),if_pos (by rw[tabF_len];omega),w64s hc (by omega)]
     rfl)
    (fun i hi ihi=>by
     have hcs:=h.2.2 i hi
     unfold sC at hcs
     have hrow:=rowF_bd ho (tabF (upS s d) l c) c hb i (by omega)
     refine Ev.step (fun k=>?_) ihi
     simp only[spec_l9Can.l1,rdT_nat]
     rw[if_pos (by omega),if_pos (by omega),bit_read (by omega) (by omega),w64s hi (by omega)]
     rcases bit_cases c i with b|b
     ·rw[b,if_neg (by decide),rowF_succ,if_neg (by omega)]
     ·have hle:=bit_le b
      have hpi:=Nat.two_pow_pos i
      have hf:=hb (c-2^i) (by omega)
      have hpl:=plc_nn hs hd hcs.1 hcs.2 hf
      rw[b,if_pos (by decide),shl_one (by omega),w64 (x:=(c:Int)-((2^i:Nat):Int)) (by omega) (by omega),show(c:Int)-((2^i:Nat):Int)=((c-2^i:Nat):Int)by omega,if_pos (by omega),if_pos (by rw[tabF_len];omega),l9Place_eq hs hd hcs.1 hcs.2 hf]
      simp only[l1Most_eq,Option.bind_some]
      rw[rowF_succ,if_pos b,upS_eq]
      by_cases h1:rd (tabF (upS s d) l c) ((c-2^i:Nat):Int)<s
      ·rw[if_pos h1,if_pos h1]
       by_cases h2:plcOk s d (l.getD i z58).f0 (l.getD i z58).f1 (rd (tabF (upS s d) l c) ((c-2^i:Nat):Int))
       ·simp only[if_pos h2]
        rw[if_pos hpl.1,w64 (x:=plc s d (l.getD i z58).f0 (l.getD i z58).f1 (rd (tabF (upS s d) l c) ((c-2^i:Nat):Int))+(l.getD i z58).f1) (by omega) (by omega),w64 (by omega) (by omega)]
       ·simp only[if_neg h2]
        rw[if_neg (by decide)]
      ·rw[if_neg h1,if_neg h1])
   exact inner 0 (by omega))
 exact key 0 (by omega)
def cells (N:Nat) (T:List Int) (c:Nat) (v:Int):List Int:=tab N (fun q=>if q<c then rd T (q:Int)else if q=c then v else 0)
theorem canGuard_ev (s d:Int) (l:List S58) (hv:sensV s false l=true) (hd:0≤d∧d≤24):Ev (fun k=>impl_Road_canGuard.f k s false l d) (canB s d l):=by
 have h:=sens_of hv
 have hs:=h.1.1
 have hN:=pow_le64 h.2.1
 have hp:=Nat.two_pow_pos l.length
 have ho:=okI hs hd h.2.2
 rw[canB_impl]
 have clen:∀ T c v,(cells (2^l.length) T c v).length=2^l.length:=fun T c v=>tab_len _ _
 have key:=down (P:=fun c=>Ev (fun k=>impl_Road_canGuard.l0 k l d (cells (2^l.length) (tabF (upI s d) l c) c 0) ((2^l.length:Nat):Int) (c:Int) s false) (decide (s≤rd (tabF (upI s d) l (2^l.length)) ((2^l.length-1:Nat):Int)))) (n:=2^l.length)
  (ev_now (fun k=>by
   simp only[impl_Road_canGuard.l0]
   rw[if_neg (by omega),clen,w64 (by omega) (by omega),show((2^l.length:Nat):Int)-1=((2^l.length-1:Nat):Int)by omega,if_pos (by omega),if_pos (by omega)]
   unfold cells
   rw[tab_rd (by omega),if_pos (by omega)]))
  (fun c hc ih=>by
   have hb:=tabF_bd ho c
   refine Ev.step (f:=fun k=>impl_Road_canGuard.l1 k l d (cells (2^l.length) (tabF (upI s d) l c) c (rowF (upI s d) l (tabF (upI s d) l c) c 0)) (c:Int) ((2^l.length:Nat):Int) (c:Int) l (l.length:Int) ((0:Nat):Int) s false) (fun k=>by simp only[impl_Road_canGuard.l0];rw[if_pos (by omega)];rfl) ?_
   have inner:=down (P:=fun i=>Ev (fun k=>impl_Road_canGuard.l1 k l d (cells (2^l.length) (tabF (upI s d) l c) c (rowF (upI s d) l (tabF (upI s d) l c) c i)) (c:Int) ((2^l.length:Nat):Int) (c:Int) l (l.length:Int) (i:Int) s false) (decide (s≤rd (tabF (upI s d) l (2^l.length)) ((2^l.length-1:Nat):Int)))) (n:=l.length)
    (by
     refine Ev.step (fun k=>?_) ih
     simp only[impl_Road_canGuard.l1]
     rw[if_neg (by omega),w64s hc (by omega)]
     congr 1
     refine tab_congr (fun q hq=>?_)
     by_cases h1:q<c
     ·rw[if_pos h1,if_pos (by omega),tabF_rd _ l h1,tabF_rd _ l (show q<c+1 by omega)]
     ·rw[if_neg h1]
      by_cases h2:q=c
      ·subst h2
       rw[if_pos rfl,if_pos (by omega),tabF_rd _ l (show q<q+1 by omega)]
      ·rw[if_neg h2,if_neg (by omega)]
       split<;>rfl)
    (fun i hi ihi=>by
     have hcs:=h.2.2 i hi
     unfold sC at hcs
     have hrow:=rowF_bd ho (tabF (upI s d) l c) c hb i (by omega)
     refine Ev.step (fun k=>?_) ihi
     simp only[impl_Road_canGuard.l1,rdT_nat]
     rw[if_pos (by omega),if_pos (by omega),if_pos (by omega),bit_read (by omega) (by omega),w64s hi (by omega)]
     rcases bit_cases c i with b|b
     ·rw[b,if_pos (by decide),rowF_succ,if_neg (by omega)]
     ·have hle:=bit_le b
      have hpi:=Nat.two_pow_pos i
      have hf:=hb (c-2^i) (by omega)
      have hpl:=plc_nn hs hd hcs.1 hcs.2 hf
      have hrd:rd (cells (2^l.length) (tabF (upI s d) l c) c (rowF (upI s d) l (tabF (upI s d) l c) c i)) ((c-2^i:Nat):Int)=rd (tabF (upI s d) l c) ((c-2^i:Nat):Int):=by
       unfold cells;rw[tab_rd (by omega),if_pos (by omega)]
      have hrc:rd (cells (2^l.length) (tabF (upI s d) l c) c (rowF (upI s d) l (tabF (upI s d) l c) c i)) (c:Int)=rowF (upI s d) l (tabF (upI s d) l c) c i:=by
       unfold cells;rw[tab_rd hc,if_neg (by omega),if_pos rfl]
      have hset:∀ v,(cells (2^l.length) (tabF (upI s d) l c) c (rowF (upI s d) l (tabF (upI s d) l c) c i)).set c v=cells (2^l.length) (tabF (upI s d) l c) c v:=by
       intro v
       unfold cells
       rw[tab_set]
       refine tab_congr (fun q hq=>?_)
       by_cases h1:q=c
       ·rw[if_pos h1,if_neg (by omega),if_pos h1]
       ·rw[if_neg h1]
        by_cases h2:q<c
        ·rw[if_pos h2,if_pos h2]
        ·rw[if_neg h2,if_neg h2,if_neg h1,if_neg h1]
      have hplc:mn (mn ((l.getD i z58).f0+d) (rd (tabF (upI s d) l c) ((c-2^i:Nat):Int)+(l.getD i z58).f1)) (s-1)=plc s d (l.getD i z58).f0 (l.getD i z58).f1 (rd (tabF (upI s d) l c) ((c-2^i:Nat):Int)):=rfl
      have w1:wrap64 ((l.getD i z58).f0+d)=(l.getD i z58).f0+d:=w64 (by omega) (by omega)
      have w2:wrap64 (rd (tabF (upI s d) l c) ((c-2^i:Nat):Int)+(l.getD i z58).f1)=rd (tabF (upI s d) l c) ((c-2^i:Nat):Int)+(l.getD i z58).f1:=w64 (by omega) (by omega)
      have w3:wrap64 (s-1)=s-1:=w64 (by omega) (by omega)
      have w4:wrap64 ((l.getD i z58).f0-d)=(l.getD i z58).f0-d:=w64 (by omega) (by omega)
      have w5:wrap64 (plc s d (l.getD i z58).f0 (l.getD i z58).f1 (rd (tabF (upI s d) l c) ((c-2^i:Nat):Int))+(l.getD i z58).f1)=plc s d (l.getD i z58).f0 (l.getD i z58).f1 (rd (tabF (upI s d) l c) ((c-2^i:Nat):Int))+(l.getD i z58).f1:=w64 (by omega) (by omega)
      have w6:wrap64 (plc s d (l.getD i z58).f0 (l.getD i z58).f1 (rd (tabF (upI s d) l c) ((c-2^i:Nat):Int))+(l.getD i z58).f1+1)=plc s d (l.getD i z58).f0 (l.getD i z58).f1 (rd (tabF (upI s d) l c) ((c-2^i:Nat):Int))+(l.getD i z58).f1+1:=w64 (by omega) (by omega)
      rw[b,if_neg (by decide),bit_off (by omega) (by omega) b,if_pos (by omega),if_pos (by rw[clen];omega)]
      simp only[hrd,hrc,w1,w2,w3,w4,hplc,w5,w6,clen,Int.toNat_natCast,hset]
      rw[rowF_succ,if_pos b,upI_eq]
      by_cases h1:plc s d (l.getD i z58).f0 (l.getD i z58).f1 (rd (tabF (upI s d) l c) ((c-2^i:Nat):Int))≥(l.getD i z58).f0-d
      ·rw[if_pos h1]
       by_cases h2:plc s d (l.getD i z58).f0 (l.getD i z58).f1 (rd (tabF (upI s d) l c) ((c-2^i:Nat):Int))+(l.getD i z58).f1≥rd (tabF (upI s d) l c) ((c-2^i:Nat):Int)
       ·rw[if_pos h2,if_pos (by omega),if_pos (by omega),if_pos (show plcOk _ _ _ _ _ from⟨by omega,by omega⟩)]
       ·rw[if_neg h2,if_pos (by omega),if_pos (by omega),if_neg (fun h:plcOk _ _ _ _ _=>by have:=h.2;omega)]
      ·rw[if_neg h1,if_pos (by omega),if_pos (by omega),if_neg (fun h:plcOk _ _ _ _ _=>by have:=h.1;omega)])
   exact inner 0 (by omega))
 unfold impl_Road_canGuard.f
 rw[shl_one (by omega)]
 refine ev_pos (by omega) (ev_pos (by omega) ?_)
 simp only[Option.bind_some,Int.toNat_natCast,List.length_replicate]
 have k0:=key 0 (by omega)
 have e:cells (2^l.length) (tabF (upI s d) l 0) 0 0=List.replicate (2^l.length) 0:=by
  rw[tab_rep]
  refine tab_congr (fun q _=>?_)
  rw[if_neg (by omega)]
  split<;>rfl
 rw[e]at k0
 exact k0
def firstFrom (f:Nat→Bool):Nat→Nat→Int × Bool
 | _,0=>(0,false)
 | i,k+1=>if f i=true then((i:Int),true)else firstFrom f (i+1) k
def leastR (s:Int) (r:Bool) (l:List S58):Int × Bool:=if sensV s r l=true then firstFrom (fun d=>canB s (d:Int) l) 0 s.toNat else(0,false)
theorem specLeast_ev (s:Int) (r:Bool) (l:List S58) (hl:l.length≤1048576):Ev (fun k=>spec_LeastMove.f k s r l) (leastR s r l):=by
 unfold spec_LeastMove.f leastR
 refine Ev.bind (l9Sensors_ev s r l hl) ?_
 cases hv:sensV s r l with
 | true=>
  have h:=sens_of hv
  have hr:=h.1.2
  subst hr
  refine ev_pos rfl ?_
  obtain⟨n,hn⟩:∃ n:Nat,s=n:=⟨s.toNat,by omega⟩
  subst hn
  have key:=down (P:=fun i=>Ev (fun k=>spec_LeastMove.l0 k l (i:Int) (n:Int) false) (firstFrom (fun d=>canB (n:Int) (d:Int) l) i (n-i))) (n:=n)
   (ev_now (fun k=>by simp only[spec_LeastMove.l0];rw[if_neg (by omega),Nat.sub_self];rfl))
   (fun i hi ih=>by
    rw[show n-i=(n-(i+1))+1 by omega]
    unfold firstFrom
    refine Ev.step (f:=fun k=>(spec_l9Can.f k (n:Int) false l (i:Int)).bind fun t=>if t=true then some ((i:Int),true)else spec_LeastMove.l0 k l ((i+1:Nat):Int) (n:Int) false) (fun k=>by simp only[spec_LeastMove.l0];rw[if_pos (by omega),w64s hi (by omega)]) (Ev.bind (l9Can_ev (n:Int) (i:Int) l hv (by omega)) ?_)
    cases hc:canB (n:Int) (i:Int) l with
    | true=>exact ev_pos rfl (by simp only[if_true];exact Ev.now _)
    | false=>exact ev_neg (by simp) (by simpa using ih))
  simpa using key 0 (by omega)
 | false=>exact ev_neg (by simp) (Ev.now _)
theorem implLeast_ev (s:Int) (r:Bool) (l:List S58) (hl:l.length≤1048576):Ev (fun k=>impl_LeastMove.f k s r l) (leastR s r l):=by
 unfold impl_LeastMove.f leastR
 refine Ev.bind (isGuarded_ev s r l hl) ?_
 cases hv:sensV s r l with
 | true=>
  have h:=sens_of hv
  have hr:=h.1.2
  subst hr
  refine ev_pos rfl ?_
  obtain⟨n,hn⟩:∃ n:Nat,s=n:=⟨s.toNat,by omega⟩
  subst hn
  have key:=down (P:=fun i=>Ev (fun k=>impl_LeastMove.l0 k l (n:Int) (i:Int) (n:Int) false) (firstFrom (fun d=>canB (n:Int) (d:Int) l) i (n-i))) (n:=n)
   (ev_now (fun k=>by simp only[impl_LeastMove.l0];rw[if_neg (by omega),Nat.sub_self];rfl))
   (fun i hi ih=>by
    rw[show n-i=(n-(i+1))+1 by omega]
    unfold firstFrom
    refine Ev.step (f:=fun k=>(impl_Road_canGuard.f k (n:Int) false l (i:Int)).bind fun t=>if t=true then some ((i:Int),true)else impl_LeastMove.l0 k l (n:Int) ((i+1:Nat):Int) (n:Int) false) (fun k=>by simp only[impl_LeastMove.l0];rw[if_pos (by omega),w64s hi (by omega)]) (Ev.bind (canGuard_ev (n:Int) (i:Int) l hv (by omega)) ?_)
    cases hc:canB (n:Int) (i:Int) l with
    | true=>exact ev_pos rfl (by simp only[if_true];exact Ev.now _)
    | false=>exact ev_neg (by simp) (by simpa using ih))
  simpa using key 0 (by omega)
 | false=>exact ev_neg (by simp) (Ev.now _)
def Tb:Type:=Nat→Nat→Int
def putT (T:Tb) (x e:Nat) (v:Int):Tb:=fun y f=>if y=x∧f=e then v else T y f
def lowT (T:Tb) (x e:Nat) (v:Int):Tb:=if T x e<0∨v<T x e then putT T x e v else T
def gpP (a:Int) (p:Nat):Int:=mx (a-p) ((p:Int)-a)
def inP (s:Nat) (a r:Int) (x e:Nat) (sum:Int):Nat→Tb→Tb
 | 0,T=>T
 | p+1,T=>if(p:Int)-r>e∨(p:Int)+r<e then inP s a r x e sum p T else lowT (inP s a r x e sum p T) x (mn (s:Int) ((p:Int)+r+1)).toNat (sum+gpP a p)
def inI (s:Nat) (l:List S58) (x e:Nat) (sum:Int):Nat→Tb→Tb
 | 0,T=>T
 | i+1,T=>if bitA x i=1 then inI s l x e sum i T else inP s (l.getD i z58).f0 (l.getD i z58).f1 (x+2^i) e sum s (inI s l x e sum i T)
def bestT (s e:Nat) (sum best:Int):Int:=if e=s∧(best<0∨sum<best)then sum else best
def inE (all:Bool) (s:Nat) (l:List S58) (x:Nat):Nat→Tb × Int→Tb × Int
 | 0,st=>st
 | e+1,st=>if(inE all s l x e st).1 x e<0 then inE all s l x e st else(if e<s∨all=true then inI s l x e ((inE all s l x e st).1 x e) l.length (inE all s l x e st).1 else(inE all s l x e st).1,bestT s e ((inE all s l x e st).1 x e) (inE all s l x e st).2)
def inX (all:Bool) (s:Nat) (l:List S58):Nat→Tb × Int→Tb × Int
 | 0,st=>st
 | x+1,st=>inE all s l x (s+1) (inX all s l x st)
def T0:Tb:=fun y f=>if y=0∧f=0 then 0 else-1
def lsum (all:Bool) (s:Nat) (l:List S58):Int:=(inX all s l (2^l.length) (T0,-1)).2
theorem putT_same (T:Tb) (x e:Nat) (v:Int):putT T x e v x e=v:=by unfold putT;rw[if_pos ⟨rfl,rfl⟩]
theorem putT_other (T:Tb) {x e y f:Nat} (v:Int) (h:¬(y=x∧f=e)):putT T x e v y f=T y f:=by unfold putT;rw[if_neg h]
theorem lowT_other (T:Tb) {x e y f:Nat} (v:Int) (h:¬(y=x∧f=e)):lowT T x e v y f=T y f:=by
 unfold lowT;split
 ·exact putT_other T v h
 ·rfl
theorem lowT_same (T:Tb) (x e:Nat) (v:Int):lowT T x e v x e=if T x e<0∨v<T x e then v else T x e:=by
 unfold lowT;split
 ·exact putT_same T x e v
 ·rfl
structure JT (s:Nat) (F T:Tb) (b:Int):Prop where
 eq:∀ x e,e<s→F x e=T x e
 top:∀ x,F x s=T x s∨(0≤b∧b≤F x s∧(T x s<0∨b≤T x s))
theorem JT.low {s:Nat} {F T:Tb} {b:Int} (h:JT s F T b) {x e:Nat} {v:Int} (he:e≤s):JT s (lowT F x e v) (lowT T x e v) b:=by
 refine⟨fun y f hf=>?_,fun y=>?_⟩
 ·by_cases c:y=x∧f=e
  ·obtain⟨rfl,rfl⟩:=c
   rw[lowT_same,lowT_same,h.eq y f hf]
  ·rw[lowT_other _ _ c,lowT_other _ _ c];exact h.eq y f hf
 ·by_cases c:y=x∧s=e
  ·obtain⟨rfl,rfl⟩:=c
   rw[lowT_same,lowT_same]
   rcases h.top y with k|k
   ·rw[k];exact .inl rfl
   ·by_cases c1:F y s<0∨v<F y s
    ·rw[if_pos c1]
     by_cases c2:T y s<0∨v<T y s
     ·rw[if_pos c2];exact .inl rfl
     ·rw[if_neg c2];exact .inr ⟨k.1,by omega,by omega⟩
    ·rw[if_neg c1]
     by_cases c2:T y s<0∨v<T y s
     ·rw[if_pos c2];exact .inr ⟨k.1,by omega,by omega⟩
     ·rw[if_neg c2];exact .inr ⟨k.1,by omega,by omega⟩
  ·rw[lowT_other _ _ c,lowT_other _ _ c];exact h.top y
theorem JT.low1 {s:Nat} {F T:Tb} {b:Int} (h:JT s F T b) {x:Nat} {v:Int} (hb:0≤b) (hv:b≤v):JT s (lowT F x s v) T b:=by
 refine⟨fun y f hf=>?_,fun y=>?_⟩
 ·rw[lowT_other _ _ (by omega)];exact h.eq y f hf
 ·by_cases c:y=x∧s=s
  ·obtain⟨rfl,_⟩:=c
   rw[lowT_same]
   rcases h.top y with k|k
   ·by_cases c1:F y s<0∨v<F y s
    ·rw[if_pos c1];exact .inr ⟨hb,hv,by omega⟩
    ·rw[if_neg c1];exact .inl k
   ·split
    ·exact .inr ⟨hb,hv,k.2.2⟩
    ·exact .inr k
  ·rw[lowT_other _ _ c];exact h.top y
theorem gpP_nn (a:Int) (p:Nat):0≤gpP a p:=by
 have:=mx_ge (a-p) ((p:Int)-a)
 unfold gpP;omega
theorem jt_inP {s:Nat} {a r:Int} {x e:Nat} {sum:Int} {F T:Tb} {b:Int} (hr:0≤r) (h:JT s F T b) (p:Nat):JT s (inP s a r x e sum p F) (inP s a r x e sum p T) b:=by
 induction p with
 | zero=>exact h
 | succ p ih=>
  simp only[inP]
  have:=mn_le (s:Int) ((p:Int)+r+1)
  split
  ·exact ih
  ·exact ih.low (by omega)
theorem jt_inP1 {s:Nat} {a r:Int} {x:Nat} {sum:Int} {F T:Tb} {b:Int} (hr:0≤r) (hb:0≤b) (hs:b≤sum) (h:JT s F T b) (p:Nat):JT s (inP s a r x s sum p F) T b:=by
 induction p with
 | zero=>exact h
 | succ p ih=>
  simp only[inP]
  have hm:=mn_le (s:Int) ((p:Int)+r+1)
  split
  ·exact ih
  ·have:=gpP_nn a p
   rw[show(mn (s:Int) ((p:Int)+r+1)).toNat=s by omega]
   exact ih.low1 hb (by omega)
def radOk (l:List S58):Prop:=∀ j,j<l.length→0≤(l.getD j z58).f1
theorem jt_inI {s:Nat} {l:List S58} {x e:Nat} {sum:Int} {F T:Tb} {b:Int} (hl:radOk l) (h:JT s F T b) (i:Nat) (hi:i≤l.length):JT s (inI s l x e sum i F) (inI s l x e sum i T) b:=by
 induction i with
 | zero=>exact h
 | succ i ih=>
  simp only[inI]
  split
  ·exact ih (by omega)
  ·exact jt_inP (hl i (by omega)) (ih (by omega)) s
theorem jt_inI1 {s:Nat} {l:List S58} {x:Nat} {sum:Int} {F T:Tb} {b:Int} (hl:radOk l) (hb:0≤b) (hs:b≤sum) (h:JT s F T b) (i:Nat) (hi:i≤l.length):JT s (inI s l x s sum i F) T b:=by
 induction i with
 | zero=>exact h
 | succ i ih=>
  simp only[inI]
  split
  ·exact ih (by omega)
  ·exact jt_inP1 (hl i (by omega)) hb hs (ih (by omega)) s
theorem JT.mono {s:Nat} {F T:Tb} {b b':Int} (h:JT s F T b) (k:0≤b→0≤b'∧b'≤b):JT s F T b':=by
 refine⟨h.eq,fun y=>?_⟩
 rcases h.top y with q|q
 ·exact .inl q
 ·have:=k q.1
  exact .inr ⟨this.1,by omega,by omega⟩
theorem bestT_ne {s e:Nat} (sum b:Int) (h:e≠s):bestT s e sum b=b:=by
 unfold bestT;exact if_neg (fun k=>h k.1)
theorem inE_neg {all:Bool} {s:Nat} {l:List S58} {x e:Nat} {st:Tb × Int} (c: (inE all s l x e st).1 x e<0):inE all s l x (e+1) st=inE all s l x e st:=by
 show(if _ then _ else _)=_
 exact if_pos c
theorem inE_pos {all:Bool} {s:Nat} {l:List S58} {x e:Nat} {st:Tb × Int} (c:¬(inE all s l x e st).1 x e<0) (k:e<s∨all=true):inE all s l x (e+1) st=(inI s l x e ((inE all s l x e st).1 x e) l.length (inE all s l x e st).1,bestT s e ((inE all s l x e st).1 x e) (inE all s l x e st).2):=by
 show(if _ then _ else(if _ then _ else _,_))=_
 rw[if_neg c,if_pos k]
theorem inE_end {s:Nat} {l:List S58} {x e:Nat} {st:Tb × Int} (c:¬(inE false s l x e st).1 x e<0) (k:¬e<s):inE false s l x (e+1) st=((inE false s l x e st).1,bestT s e ((inE false s l x e st).1 x e) (inE false s l x e st).2):=by
 show(if _ then _ else(if _ then _ else _,_))=_
 rw[if_neg c,if_neg (by simp[k])]
theorem inE_JT {s:Nat} {l:List S58} {x:Nat} (hl:radOk l) {A B:Tb × Int} (h:JT s A.1 B.1 A.2) (hb:A.2=B.2) (e:Nat) (he:e≤s+1):JT s (inE true s l x e A).1 (inE false s l x e B).1 (inE true s l x e A).2∧(inE true s l x e A).2=(inE false s l x e B).2:=by
 induction e with
 | zero=>exact⟨h,hb⟩
 | succ e ih=>
  obtain⟨ih1,ih2⟩:=ih (by omega)
  by_cases hes:e<s
  ·have heq:=ih1.eq x e hes
   by_cases c: (inE false s l x e B).1 x e<0
   ·rw[inE_neg (all:=true) (by rw[heq];exact c),inE_neg c];exact⟨ih1,ih2⟩
   ·rw[inE_pos (all:=true) (by rw[heq];exact c) (.inl hes),inE_pos c (.inl hes)]
    simp only[bestT_ne _ _ (show e≠s by omega),heq]
    exact⟨jt_inI hl ih1 _ (Nat.le_refl _),ih2⟩
  ·have hes':e=s:=by omega
   subst hes'
   have ht:=ih1.top x
   by_cases c: (inE true e l x e A).1 x e<0
   ·rw[inE_neg c]
    rcases ht with q|q
    ·rw[inE_neg (all:=false) (by omega)];exact⟨ih1,ih2⟩
    ·omega
   ·rw[inE_pos c (.inr rfl)]
    rcases ht with q|q
    ·rw[inE_end (by omega) hes]
     refine⟨?_,?_⟩
     ·refine jt_inI1 hl ?_ ?_ (ih1.mono ?_) _ (Nat.le_refl _)
      ·simp only;unfold bestT;split<;>omega
      ·simp only;unfold bestT;split<;>omega
      ·intro hh;simp only;unfold bestT;split<;>omega
     ·simp only
      rw[q,ih2]
    ·have e1:bestT e e ((inE true e l x e A).1 x e) (inE true e l x e A).2=(inE true e l x e A).2:=by unfold bestT;exact if_neg (by omega)
     simp only[e1]
     by_cases c2: (inE false e l x e B).1 x e<0
     ·rw[inE_neg c2]
      exact⟨jt_inI1 hl q.1 q.2.1 ih1 _ (Nat.le_refl _),ih2⟩
     ·rw[inE_end c2 hes]
      refine⟨jt_inI1 hl q.1 q.2.1 ih1 _ (Nat.le_refl _),?_⟩
      simp only
      have e2:bestT e e ((inE false e l x e B).1 x e) (inE false e l x e B).2=(inE false e l x e B).2:=by unfold bestT;exact if_neg (by omega)
      rw[e2];exact ih2
theorem inX_JT {s:Nat} {l:List S58} (hl:radOk l) (x:Nat):JT s (inX true s l x (T0,-1)).1 (inX false s l x (T0,-1)).1 (inX true s l x (T0,-1)).2∧(inX true s l x (T0,-1)).2=(inX false s l x (T0,-1)).2:=by
 induction x with
 | zero=>exact⟨⟨fun _ _ _=>rfl,fun _=> .inl rfl⟩,rfl⟩
 | succ x ih=>exact inE_JT hl ih.1 ih.2 (s+1) (Nat.le_refl _)
theorem lsum_both {s:Nat} {l:List S58} (hl:radOk l):lsum true s l=lsum false s l:=(inX_JT hl _).2
def bdT (T:Tb):Prop:=∀ x e,-1≤T x e∧T x e≤24*x
theorem bdT_low {T:Tb} (h:bdT T) {x e:Nat} {v:Int} (hv:0≤v∧v≤24*x):bdT (lowT T x e v):=by
 intro y f
 by_cases c:y=x∧f=e
 ·obtain⟨rfl,rfl⟩:=c
  rw[lowT_same]
  have:=h y f
  split<;>omega
 ·rw[lowT_other _ _ c];exact h y f
theorem gpP_le {a:Int} {p s:Nat} (ha:0≤a∧a≤s-1) (hp:p<s) (hs:s≤24):gpP a p≤23:=by
 have:=mx_ge (a-p) ((p:Int)-a)
 unfold gpP;omega
theorem bdT_inP {s:Nat} {a r:Int} {x e:Nat} {sum:Int} {T:Tb} (ha:0≤a∧a≤s-1) (hs:s≤24) (h:bdT T) (h0:0≤sum) (h1:sum+23≤24*x) (p:Nat) (hp:p≤s):bdT (inP s a r x e sum p T):=by
 induction p with
 | zero=>exact h
 | succ p ih=>
  unfold inP
  split
  ·exact ih (by omega)
  ·have g0:=gpP_nn a p
   have g1:=gpP_le (p:=p) ha (by omega) hs
   exact bdT_low (ih (by omega)) ⟨by omega,by omega⟩
theorem bdT_inI {s:Nat} {l:List S58} {x e:Nat} {sum:Int} {T:Tb} (ha:∀ j,j<l.length→0≤(l.getD j z58).f0∧(l.getD j z58).f0≤s-1) (hs:s≤24) (h:bdT T) (h0:0≤sum) (h1:sum≤24*x) (i:Nat) (hi:i≤l.length):bdT (inI s l x e sum i T):=by
 induction i with
 | zero=>exact h
 | succ i ih=>
  unfold inI
  split
  ·exact ih (by omega)
  ·have:=Nat.two_pow_pos i
   exact bdT_inP (ha i (by omega)) hs (ih (by omega)) h0 (by omega) s (Nat.le_refl _)
theorem inP_old {s:Nat} {a r:Int} {x e:Nat} {sum:Int} {T:Tb} {y f:Nat} (h:y≠x) (p:Nat):inP s a r x e sum p T y f=T y f:=by
 induction p with
 | zero=>rfl
 | succ p ih=>
  unfold inP
  split
  ·exact ih
  ·rw[lowT_other _ _ (by omega)];exact ih
theorem inI_old {s:Nat} {l:List S58} {x e:Nat} {sum:Int} {T:Tb} {y f:Nat} (h:y≤x) (i:Nat):inI s l x e sum i T y f=T y f:=by
 induction i with
 | zero=>rfl
 | succ i ih=>
  unfold inI
  split
  ·exact ih
  ·have:=Nat.two_pow_pos i
   rw[inP_old (by omega)];exact ih
theorem inE_bd {all:Bool} {s:Nat} {l:List S58} {x:Nat} (ha:∀ j,j<l.length→0≤(l.getD j z58).f0∧(l.getD j z58).f0≤s-1) (hs:s≤24) {A:Tb × Int} (h:bdT A.1) (hb: -1≤A.2∧A.2≤24*64) (hx:x<64) (e:Nat):bdT (inE all s l x e A).1∧-1≤(inE all s l x e A).2∧(inE all s l x e A).2≤24*64:=by
 induction e with
 | zero=>exact⟨h,hb⟩
 | succ e ih=>
  unfold inE
  split
  ·exact ih
  ·rename_i c
   have h1:=ih.1 x e
   refine⟨?_,?_⟩
   ·simp only
    split
    ·exact bdT_inI ha hs ih.1 (by omega) (by omega) _ (Nat.le_refl _)
    ·exact ih.1
   ·simp only
    unfold bestT
    split<;>omega
theorem inX_bd {all:Bool} {s:Nat} {l:List S58} (ha:∀ j,j<l.length→0≤(l.getD j z58).f0∧(l.getD j z58).f0≤s-1) (hs:s≤24) (x:Nat) (hx:x≤64):bdT (inX all s l x (T0,-1)).1∧-1≤(inX all s l x (T0,-1)).2∧(inX all s l x (T0,-1)).2≤24*64:=by
 induction x with
 | zero=>exact⟨fun y f=>by show-1≤(if y=0∧f=0 then(0:Int)else-1)∧(if y=0∧f=0 then(0:Int)else-1)≤24*y;split<;>omega,by show(-1:Int)≤-1;omega,by show(-1:Int)≤_;omega⟩
 | succ x ih=>
  have:=ih (by omega)
  exact inE_bd ha hs this.1 this.2 (by omega) (s+1)
theorem gap_eq (s a p:Int) (h0:0≤a∧a≤1000000) (h1:0≤p∧p≤1000000):impl_Road_gap.f s false a p=some (mx (a-p) (p-a)):=by
 unfold impl_Road_gap.f
 simp only[Bool.false_eq_true,if_false]
 rw[mx_abs (s:=s) h0 h1]
theorem l2Gap_eq (s a p:Int) (h0:0≤a∧a≤1000000) (h1:0≤p∧p≤1000000):spec_l2Gap.f s false a p=some (mx (a-p) (p-a)):=by
 unfold spec_l2Gap.f
 simp only[l1Most_eq,Option.bind_some,Bool.false_eq_true,if_false]
 rw[mx_abs (s:=s) h0 h1]
def mtOf (T:Tb) (c:Nat):Mt:=⟨fun y z=>if 0≤y∧0≤z then T y.toNat z.toNat else-1,c⟩
theorem mtOf_0:mt0=mtOf T0 1:=by
 unfold mt0 mtOf
 congr 1
 funext y z
 by_cases h:0≤y∧0≤z
 ·rw[if_pos h]
  unfold T0
  by_cases h2:y=0∧z=0
  ·rw[if_pos h2,if_pos (by omega)]
  ·rw[if_neg h2,if_neg (by omega)]
 ·rw[if_neg h,if_neg (by omega)]
theorem mtOf_at (T:Tb) (c x e:Nat): (mtOf T c).f (x:Int) (e:Int)=T x e:=by
 show(if 0≤(x:Int)∧0≤(e:Int)then T (x:Int).toNat (e:Int).toNat else-1)=_
 rw[if_pos (by omega),Int.toNat_natCast,Int.toNat_natCast]
theorem get_eq (T:Tb) (c:Nat) {x e:Nat} (hx:x≤100) (he:e≤100):mapGet.f (mtOf T c) (x:Int) (e:Int)=some (if T x e<0 then 0 else T x e,decide (0≤T x e)):=by
 unfold mapGet.f
 rw[if_pos (by omega),mtOf_at]
theorem put_eq (T:Tb) {c:Nat} {x e:Nat} {v:Int} (hx:x≤100) (he:e≤100) (hv:0≤v∧v≤100000) (hc:c<1000000000):mapPut.f (mtOf T c) (x:Int) (e:Int) v=some (mtOf (putT T x e v) (c+1)):=by
 unfold mapPut.f
 have hn: (mtOf T c).n=c:=rfl
 rw[if_pos (by rw[hn];omega)]
 congr 1
 unfold mtOf
 congr 1
 funext y z
 simp only
 by_cases h2:y=(x:Int)∧z=(e:Int)
 ·rw[if_pos h2,if_pos (by omega)]
  unfold putT
  rw[if_pos (by omega)]
 ·rw[if_neg h2]
  by_cases h:0≤y∧0≤z
  ·rw[if_pos h,if_pos h,putT_other _ _ (by omega)]
  ·rw[if_neg h,if_neg h]
theorem mn_nat (s:Nat) (v:Int) (h:0≤v):∃ q:Nat,mn (s:Int) v=(q:Int)∧q≤s∧(mn (s:Int) v).toNat=q:=by
 have:=mn_le (s:Int) v
 exact⟨(mn (s:Int) v).toNat,by omega,by omega,rfl⟩
section
variable {s:Nat} {l:List S58} {R:Int × Bool}
theorem l3_on (hs:s≤24) (hl:l.length≤6) {x e i:Nat} (hx:x<64) (hi:i<l.length) (hb:bitA x i=1) (m:Mt) (best sum N:Int)
  (h:Ev (fun k=>impl_LeastSum.l2 k l m best (x:Int) (e:Int) sum N (x:Int) ((s+1:Nat):Int) (e:Int) l (l.length:Int) ((i+1:Nat):Int) (s:Int) false) R):
  Ev (fun k=>impl_LeastSum.l3 k l m best (x:Int) (e:Int) sum (i:Int) N (x:Int) ((s+1:Nat):Int) (e:Int) l (l.length:Int) (i:Int) (s:Int) 0 (s:Int) false (rd_T58 l (i:Int)).f0 (rd_T58 l (i:Int)).f1) R:=by
 have key:=down (P:=fun p=>Ev (fun k=>impl_LeastSum.l3 k l m best (x:Int) (e:Int) sum (i:Int) N (x:Int) ((s+1:Nat):Int) (e:Int) l (l.length:Int) (i:Int) (s:Int) (p:Int) (s:Int) false (rd_T58 l (i:Int)).f0 (rd_T58 l (i:Int)).f1) R) (n:=s)
  (by
   refine Ev.step (fun k=>?_) h
   simp only[impl_LeastSum.l3]
   rw[if_neg (by omega),w64s hi (by omega)])
  (fun p hp ih=>by
   refine Ev.step (f:=fun k=>impl_LeastSum.j6 k l m best (x:Int) (e:Int) sum (i:Int) (p:Int) N (x:Int) ((s+1:Nat):Int) (e:Int) l (l.length:Int) (i:Int) (s:Int) (p:Int) true (s:Int) false (rd_T58 l (i:Int)).f0 (rd_T58 l (i:Int)).f1) (fun k=>?_) (Ev.step (fun k=>?_) ih)
   ·simp only[impl_LeastSum.l3]
    rw[if_pos (by omega),if_pos (by omega),bit_read (by omega) (by omega),hb,if_pos (by omega)]
   ·simp only[impl_LeastSum.j6]
    rw[if_pos True.intro,w64s hp (by omega)])
 exact key 0 (by omega)
set_option maxHeartbeats 2000000 in
theorem l3_off (hs:s≤24) (hl:l.length≤6) {x e i:Nat} (hx:x<64) (hi:i<l.length) (hb:bitA x i=0) (hx2:x+2^i<64) (he:e≤s) (a r:Int) (ha:0≤a∧a≤s-1) (hr:0≤r∧r≤12) (hgi:rd_T58 l (i:Int)=⟨a,r⟩)
  (T:Tb) (best sum N:Int) (hsum:0≤sum∧sum≤1600) (c0:Nat) (hc0:c0≤400000)
  (h:∀ c,c≤c0+24→Ev (fun k=>impl_LeastSum.l2 k l (mtOf (inP s a r (x+2^i) e sum s T) c) best (x:Int) (e:Int) sum N (x:Int) ((s+1:Nat):Int) (e:Int) l (l.length:Int) ((i+1:Nat):Int) (s:Int) false) R):
  ∀ c,c≤c0→Ev (fun k=>impl_LeastSum.l3 k l (mtOf T c) best (x:Int) (e:Int) sum (i:Int) N (x:Int) ((s+1:Nat):Int) (e:Int) l (l.length:Int) (i:Int) (s:Int) 0 (s:Int) false a r) R:=by
 have key:=down (P:=fun p=>∀ c,c≤c0+p→Ev (fun k=>impl_LeastSum.l3 k l (mtOf (inP s a r (x+2^i) e sum p T) c) best (x:Int) (e:Int) sum (i:Int) N (x:Int) ((s+1:Nat):Int) (e:Int) l (l.length:Int) (i:Int) (s:Int) (p:Int) (s:Int) false a r) R) (n:=s)
  (fun c hc=>by
   refine Ev.step (fun k=>?_) (h c (by omega))
   simp only[impl_LeastSum.l3]
   rw[if_neg (by omega),w64s hi (by omega)])
  (fun p hp ih c hc=>by
   have hskip: ((p:Int)-r>e∨(p:Int)+r<e)→Ev (fun k=>impl_LeastSum.j6 k l (mtOf (inP s a r (x+2^i) e sum p T) c) best (x:Int) (e:Int) sum (i:Int) (p:Int) N (x:Int) ((s+1:Nat):Int) (e:Int) l (l.length:Int) (i:Int) (s:Int) (p:Int) true (s:Int) false a r) R:=fun hh=>by
    have h2:=ih c (by omega)
    have e2:inP s a r (x+2^i) e sum (p+1) T=inP s a r (x+2^i) e sum p T:=by simp only[inP];rw[if_pos hh]
    rw[e2]at h2
    refine Ev.step (fun k=>?_) h2
    simp only[impl_LeastSum.j6]
    rw[if_pos True.intro,w64s hp (by omega)]
   by_cases c1: (p:Int)-r>e
   ·refine Ev.step (fun k=>?_) (hskip (.inl c1))
    simp only[impl_LeastSum.l3]
    rw[if_pos (by omega),if_pos (by omega),bit_read (by omega) (by omega),hb,if_neg (by decide),w64 (x:=(p:Int)-r) (by omega) (by omega),if_pos c1]
   ·by_cases c2: (p:Int)+r<e
    ·refine Ev.step (fun k=>?_) (hskip (.inr c2))
     simp only[impl_LeastSum.l3]
     rw[if_pos (by omega),if_pos (by omega),bit_read (by omega) (by omega),hb,if_neg (by decide),w64 (x:=(p:Int)-r) (by omega) (by omega),if_neg c1,w64 (x:=(p:Int)+r) (by omega) (by omega),decide_eq_true c2]
    ·refine Ev.step (f:=fun k=>impl_LeastSum.j6 k l (mtOf (inP s a r (x+2^i) e sum p T) c) best (x:Int) (e:Int) sum (i:Int) (p:Int) N (x:Int) ((s+1:Nat):Int) (e:Int) l (l.length:Int) (i:Int) (s:Int) (p:Int) false (s:Int) false a r) (fun k=>?_) ?_
     ·simp only[impl_LeastSum.l3]
      rw[if_pos (by omega),if_pos (by omega),bit_read (by omega) (by omega),hb,if_neg (by decide),w64 (x:=(p:Int)-r) (by omega) (by omega),if_neg c1,w64 (x:=(p:Int)+r) (by omega) (by omega),decide_eq_false c2]
     ·obtain⟨q,hq,hqs,hqn⟩:=mn_nat s ((p:Int)+r+1) (by omega)
      have hg0:=gpP_nn a p
      have hg1:=gpP_le (p:=p) ha hp hs
      have hgap:=gap_eq (s:Int) a (p:Int) (by omega) (by omega)
      have e2:inP s a r (x+2^i) e sum (p+1) T=lowT (inP s a r (x+2^i) e sum p T) (x+2^i) q (sum+gpP a p):=by
       simp only[inP]
       rw[if_neg (by omega),hqn]
      have e3:mx (a-p) ((p:Int)-a)=gpP a p:=rfl
      obtain⟨T',hT'⟩:∃ T',inP s a r (x+2^i) e sum p T=T':=⟨_,rfl⟩
      rw[e2,hT']at ih
      rw[hT']
      have hget:=get_eq T' c (x:=x+2^i) (e:=q) (by omega) (by omega)
      have hput:=put_eq T' (c:=c) (x:=x+2^i) (e:=q) (v:=sum+gpP a p) (by omega) (by omega) (by omega) (by omega)
      by_cases d0:T' (x+2^i) q<0
      ·have hlow:lowT T' (x+2^i) q (sum+gpP a p)=putT T' (x+2^i) q (sum+gpP a p):=by unfold lowT;rw[if_pos (.inl d0)]
       rw[hlow]at ih
       refine Ev.step (fun k=>?_) (ih (c+1) (by omega))
       simp only[impl_LeastSum.j6,hgap,e3,Option.bind_some,bit_on (show i<6 by omega) hx hb]
       rw[if_neg (by decide),if_pos (by omega),w64 (x:=(p:Int)+r) (by omega) (by omega),w64 (x:=(p:Int)+r+1) (by omega) (by omega),hq,w64 (x:=sum+gpP a p) (by omega) (by omega),hget,hput]
       simp only[Option.bind_some]
       rw[if_neg (by rw[decide_eq_false (by omega)];decide),w64s hp (by omega)]
      ·by_cases d1:sum+gpP a p<T' (x+2^i) q
       ·have hlow:lowT T' (x+2^i) q (sum+gpP a p)=putT T' (x+2^i) q (sum+gpP a p):=by unfold lowT;rw[if_pos (.inr d1)]
        rw[hlow]at ih
        refine Ev.step (fun k=>?_) (ih (c+1) (by omega))
        simp only[impl_LeastSum.j6,hgap,e3,Option.bind_some,bit_on (show i<6 by omega) hx hb]
        rw[if_neg (by decide),if_pos (by omega),w64 (x:=(p:Int)+r) (by omega) (by omega),w64 (x:=(p:Int)+r+1) (by omega) (by omega),hq,w64 (x:=sum+gpP a p) (by omega) (by omega),hget,hput]
        simp only[Option.bind_some]
        rw[if_pos (decide_eq_true (by omega)),if_neg d0,if_pos d1,w64s hp (by omega)]
       ·have hlow:lowT T' (x+2^i) q (sum+gpP a p)=T':=by unfold lowT;rw[if_neg (by omega)]
        rw[hlow]at ih
        refine Ev.step (fun k=>?_) (ih c (by omega))
        simp only[impl_LeastSum.j6,hgap,e3,Option.bind_some,bit_on (show i<6 by omega) hx hb]
        rw[if_neg (by decide),if_pos (by omega),w64 (x:=(p:Int)+r) (by omega) (by omega),w64 (x:=(p:Int)+r+1) (by omega) (by omega),hq,w64 (x:=sum+gpP a p) (by omega) (by omega),hget]
        simp only[Option.bind_some]
        rw[if_pos (decide_eq_true (by omega)),if_neg d0,if_neg d1,w64s hp (by omega)])
 have k0:=key 0 (by omega)
 exact k0
set_option maxHeartbeats 2000000 in
theorem l2_all (hs:s≤24) (hv:sensV (s:Int) false l=true) {x e:Nat} (hx:x<2^l.length) (he:e≤s) (best sum N:Int) (hsum:0≤sum∧sum≤1600) (T:Tb) (c0:Nat) (hc0:c0≤300000)
  (h:∀ c,c≤c0+144→Ev (fun k=>impl_LeastSum.l1 k l (mtOf (inI s l x e sum l.length T) c) best (x:Int) N (x:Int) ((s+1:Nat):Int) ((e+1:Nat):Int) (s:Int) false) R):
  ∀ c,c≤c0→Ev (fun k=>impl_LeastSum.l2 k l (mtOf T c) best (x:Int) (e:Int) sum N (x:Int) ((s+1:Nat):Int) (e:Int) l (l.length:Int) 0 (s:Int) false) R:=by
 have hv':=sens_of hv
 have hl:=hv'.2.1
 have h64:2^l.length≤64:=Nat.le_trans (Nat.pow_le_pow_right (by decide) hl) (by decide)
 have key:=down (P:=fun i=>∀ c,c≤c0+24*i→Ev (fun k=>impl_LeastSum.l2 k l (mtOf (inI s l x e sum i T) c) best (x:Int) (e:Int) sum N (x:Int) ((s+1:Nat):Int) (e:Int) l (l.length:Int) (i:Int) (s:Int) false) R) (n:=l.length)
  (fun c hc=>by
   refine Ev.step (fun k=>?_) (h c (by omega))
   simp only[impl_LeastSum.l2]
   rw[if_neg (by omega),w64s (n:=1000) (by omega) (by omega)])
  (fun i hi ih c hc=>by
   have hsc:=hv'.2.2 i hi
   unfold sC at hsc
   have hgi:rd_T58 l (i:Int)=⟨(l.getD i z58).f0,(l.getD i z58).f1⟩:=rfl
   have hstep:Ev (fun k=>impl_LeastSum.l3 k l (mtOf (inI s l x e sum i T) c) best (x:Int) (e:Int) sum (i:Int) N (x:Int) ((s+1:Nat):Int) (e:Int) l (l.length:Int) (i:Int) (s:Int) 0 (s:Int) false (l.getD i z58).f0 (l.getD i z58).f1) R:=by
    rcases bit_cases x i with hb|hb
    ·have e1:inI s l x e sum (i+1) T=inP s (l.getD i z58).f0 (l.getD i z58).f1 (x+2^i) e sum s (inI s l x e sum i T):=by
      simp only[inI]
      rw[if_neg (by omega)]
     rw[e1]at ih
     have hon:=(bitA_on (show i<6 by omega) (show x<64 by omega) hb).1
     exact l3_off hs hl (by omega) hi hb hon he _ _ hsc.1 hsc.2 hgi (inI s l x e sum i T) best sum N hsum (c0+24*i) (by omega) (fun c' hc'=>ih c' (by omega)) c hc
    ·have e1:inI s l x e sum (i+1) T=inI s l x e sum i T:=by
      simp only[inI]
      rw[if_pos hb]
     rw[e1]at ih
     exact l3_on hs hl (by omega) hi hb _ best sum N (ih c (by omega))
   refine Ev.step (fun k=>?_) hstep
   simp only[impl_LeastSum.l2]
   rw[if_pos (by omega),if_pos (by omega),if_pos (by omega)]
   rfl)
 exact key 0 (by omega)
set_option maxHeartbeats 2000000 in
theorem l1_all (hs:2≤s∧s≤24) (hv:sensV (s:Int) false l=true) {x:Nat} (hx:x<2^l.length) (N:Int) (st:Tb × Int) (hT:bdT st.1) (hb: -1≤st.2∧st.2≤1536) (c0:Nat) (hc0:c0≤280000)
  (h:∀ c,c≤c0+3600→Ev (fun k=>impl_LeastSum.l0 k l (mtOf (inE true s l x (s+1) st).1 c) (inE true s l x (s+1) st).2 N ((x+1:Nat):Int) (s:Int) false) R):
  ∀ c,c≤c0→Ev (fun k=>impl_LeastSum.l1 k l (mtOf st.1 c) st.2 (x:Int) N (x:Int) ((s+1:Nat):Int) 0 (s:Int) false) R:=by
 have hv':=sens_of hv
 have hl:=hv'.2.1
 have h64:2^l.length≤64:=Nat.le_trans (Nat.pow_le_pow_right (by decide) hl) (by decide)
 have key:=down (P:=fun e=>∀ c,c≤c0+144*e→Ev (fun k=>impl_LeastSum.l1 k l (mtOf (inE true s l x e st).1 c) (inE true s l x e st).2 (x:Int) N (x:Int) ((s+1:Nat):Int) (e:Int) (s:Int) false) R) (n:=s+1)
  (fun c hc=>by
   refine Ev.step (fun k=>?_) (h c (by omega))
   simp only[impl_LeastSum.l1]
   rw[if_neg (by omega),w64s (n:=1000) (by omega) (by omega)])
  (fun e he ih c hc=>by
   have hbd:=inE_bd (all:=true) (x:=x) (fun j hj=>(hv'.2.2 j hj).1) hs.2 hT hb (by omega) e
   obtain⟨S,hS⟩:∃ S,inE true s l x e st=S:=⟨_,rfl⟩
   have hbx:=hbd.1 x e
   rw[hS]at hbd hbx
   by_cases c1:S.1 x e<0
   ·have e1:inE true s l x (e+1) st=S:=by rw[inE_neg (by rw[hS];exact c1),hS]
    rw[e1]at ih
    rw[hS]
    refine Ev.step (fun k=>?_) (ih c (by omega))
    simp only[impl_LeastSum.l1,get_eq S.1 c (show x≤100 by omega) (show e≤100 by omega),Option.bind_some]
    rw[if_pos (by omega),if_neg (by rw[decide_eq_false (by omega)];decide),w64s (n:=1000) (by omega) (by omega)]
   ·have e1:inE true s l x (e+1) st=(inI s l x e (S.1 x e) l.length S.1,bestT s e (S.1 x e) S.2):=by
     rw[inE_pos (by rw[hS];exact c1) (.inr rfl),hS]
    rw[e1]at ih
    rw[hS]
    have h2:=l2_all hs.2 hv hx (show e≤s by omega) (bestT s e (S.1 x e) S.2) (S.1 x e) N (by omega) S.1 (c0+144*e) (by omega) (fun c' hc'=>ih c' (by omega)) c hc
    have h3:Ev (fun k=>impl_LeastSum.j3 k l (mtOf S.1 c) (bestT s e (S.1 x e) S.2) (x:Int) (e:Int) (S.1 x e) N (x:Int) ((s+1:Nat):Int) (e:Int) (s:Int) false) R:=Ev.step (fun k=>by simp only[impl_LeastSum.j3]) h2
    have h4:∀ q:Bool,(if q=true then S.1 x e else S.2)=bestT s e (S.1 x e) S.2→Ev (fun k=>impl_LeastSum.j2 k l (mtOf S.1 c) S.2 (x:Int) (e:Int) (S.1 x e) N (x:Int) ((s+1:Nat):Int) (e:Int) q (s:Int) false) R:=fun q hq=>by
     refine Ev.step (fun k=>?_) h3
     simp only[impl_LeastSum.j2]
     rw[←hq]
     cases q<;>simp
    have hg: (if S.1 x e<0 then 0 else S.1 x e)=S.1 x e:=if_neg c1
    by_cases c2:e=s
    ·by_cases c3:S.2<0
     ·refine Ev.step (fun k=>?_) (h4 true (by unfold bestT;rw[if_pos rfl,if_pos ⟨c2, .inl c3⟩]))
      simp only[impl_LeastSum.l1,get_eq S.1 c (show x≤100 by omega) (show e≤100 by omega),Option.bind_some,hg]
      rw[if_pos (by omega),if_pos (decide_eq_true (by omega)),if_pos (by omega),if_pos c3]
     ·refine Ev.step (fun k=>?_) (h4 (decide (S.1 x e<S.2)) (by
       unfold bestT
       by_cases c4:S.1 x e<S.2
       ·rw[if_pos (decide_eq_true c4),if_pos ⟨c2, .inr c4⟩]
       ·rw[if_neg (by rw[decide_eq_false c4];decide),if_neg (by omega)]))
      simp only[impl_LeastSum.l1,get_eq S.1 c (show x≤100 by omega) (show e≤100 by omega),Option.bind_some,hg]
      rw[if_pos (by omega),if_pos (decide_eq_true (by omega)),if_pos (by omega),if_neg c3]
    ·refine Ev.step (fun k=>?_) (h4 false (by rw[bestT_ne _ _ c2];rfl))
     simp only[impl_LeastSum.l1,get_eq S.1 c (show x≤100 by omega) (show e≤100 by omega),Option.bind_some,hg]
     rw[if_pos (by omega),if_pos (decide_eq_true (by omega)),if_neg (by omega)])
 exact key 0 (by omega)
end
def foundR (v:Int):Int × Bool:=(mx 0 v,decide (v≥0))
set_option maxHeartbeats 2000000 in
set_option maxRecDepth 100000 in
theorem implSum_all {s:Nat} {l:List S58} (hv:sensV (s:Int) false l=true):Ev (fun k=>impl_LeastSum.l0 k l mt0 (-1) (shl .i64 1 (l.length:Int)) 0 (s:Int) false) (foundR (lsum true s l)):=by
 have hv':=sens_of hv
 have hl:=hv'.2.1
 have hs:=hv'.1.1
 have h64:2^l.length≤64:=Nat.le_trans (Nat.pow_le_pow_right (by decide) hl) (by decide)
 obtain⟨M,hM⟩:∃ M,2^l.length=M:=⟨_,rfl⟩
 have key:=down (P:=fun x=>∀ c,c≤1+3600*x→Ev (fun k=>impl_LeastSum.l0 k l (mtOf (inX true s l x (T0,-1)).1 c) (inX true s l x (T0,-1)).2 (M:Int) (x:Int) (s:Int) false) (foundR (inX true s l M (T0,-1)).2)) (n:=M)
  (fun c hc=>by
   refine ev_now (fun k=>?_)
   simp only[impl_LeastSum.l0,impl_found.f,Option.bind_some]
   rw[if_neg (by omega)]
   rfl)
  (fun x hx ih c hc=>by
   have hbd:=inX_bd (all:=true) (s:=s) (fun j hj=>(hv'.2.2 j hj).1) (by omega) x (by omega)
   have eX:inX true s l (x+1) (T0,-1)=inE true s l x (s+1) (inX true s l x (T0,-1)):=rfl
   rw[eX]at ih
   obtain⟨S,hS⟩:∃ S,inX true s l x (T0,-1)=S:=⟨_,rfl⟩
   rw[hS]at ih hbd⊢
   have hx64:x<64:=by omega
   have hxM:x<2^l.length:=by omega
   have hsb:2≤s∧s≤24:=by omega
   clear hM hS eX
   obtain⟨c0,hc0⟩:∃ c0,c0=1+3600*x:=⟨_,rfl⟩
   have hle:c0≤280000:=by omega
   have h2:=l1_all hsb hv hxM (M:Int) S hbd.1 hbd.2 c0 hle (fun c' hc'=>ih c' (by omega)) c (by omega)
   refine Ev.step (fun k=>?_) h2
   simp only[impl_LeastSum.l0]
   rw[if_pos (by omega),w64s (n:=1000) (by omega) (by omega)])
 unfold lsum
 rw[shl_one (by omega),mtOf_0,hM]
 exact key 0 (by omega) 1 (by omega)
theorem l1Least_eq (a b:Int):spec_l1Least.f a b=some (mn a b):=by
 unfold spec_l1Least.f mn
 by_cases h:a<b
 ·rw[if_pos h,if_neg (by omega)]
 ·rw[if_neg h]
  by_cases h2:b<a
  ·rw[if_pos h2]
  ·rw[if_neg h2];congr 1;omega
def L2 (T:Tb) (N s:Nat):List (List Int):=tg N (fun x=>tab (s+1) (fun e=>T x e))
theorem L2_len (T:Tb) (N s:Nat): (L2 T N s).length=N:=tg_len _ _
theorem L2_row {T:Tb} {N s x:Nat} (hx:x<N):rd_L2 (L2 T N s) (x:Int)=tab (s+1) (fun e=>T x e):=by
 unfold rd_L2 L2
 rw[Int.toNat_natCast,tg_get hx]
theorem L2_at {T:Tb} {N s x e:Nat} (hx:x<N) (he:e≤s):rd (rd_L2 (L2 T N s) (x:Int)) (e:Int)=T x e:=by
 rw[L2_row hx,tab_rd (by omega)]
theorem L2_rowlen {T:Tb} {N s x:Nat} (hx:x<N): (rd_L2 (L2 T N s) (x:Int)).length=s+1:=by
 rw[L2_row hx,tab_len]
theorem L2_set {T:Tb} {N s x e:Nat} {v:Int} (hx:x<N) (he:e≤s): (L2 T N s).set x ((rd_L2 (L2 T N s) (x:Int)).set e v)=L2 (putT T x e v) N s:=by
 rw[L2_row hx]
 unfold L2
 rw[tg_set]
 refine tg_congr (fun q _=>?_)
 by_cases h:q=x
 ·subst h
  rw[if_pos rfl,tab_set]
  refine tab_congr (fun f _=>?_)
  by_cases h2:f=e
  ·subst h2;rw[if_pos rfl,putT_same]
  ·rw[if_neg h2,putT_other _ _ (by omega)]
 ·rw[if_neg h]
  refine tab_congr (fun f _=>?_)
  rw[putT_other _ _ (by omega)]
theorem inP_skip {s:Nat} {a r:Int} {x e:Nat} {sum:Int} {T:Tb} (p:Nat):∀ q,(∀ j,p≤j→j<p+q→((j:Int)-r>e∨(j:Int)+r<e))→inP s a r x e sum (p+q) T=inP s a r x e sum p T:=by
 intro q
 induction q with
 | zero=>intro _;rfl
 | succ q ih=>
  intro h
  have e1:inP s a r x e sum (p+q+1) T=inP s a r x e sum (p+q) T:=by
   simp only[inP]
   rw[if_pos (h (p+q) (by omega) (by omega))]
  rw[show p+(q+1)=p+q+1 by omega,e1]
  exact ih (fun j h1 h2=>h j h1 (by omega))
section
variable {s:Nat} {l:List S58} {R:Int}
set_option maxHeartbeats 2000000 in
theorem l5_all (hs:2≤s∧s≤24) (hl:l.length≤6) {x e i N:Nat} (hx:x<64) (hN:N≤64) (hi:i<l.length) (hb:bitA x i=0) (hx2:x+2^i<N) (he:e<s) (ha:0≤(l.getD i z58).f0∧(l.getD i z58).f0≤s-1) (hr:0≤(l.getD i z58).f1∧(l.getD i z58).f1≤12)
  (T:Tb) (best sum:Int) (hsum:0≤sum∧sum≤1600)
  (h:Ev (fun k=>spec_l9Sum.l4 k l (L2 (inP s (l.getD i z58).f0 (l.getD i z58).f1 (x+2^i) e sum s T) N s) best (x:Int) (e:Int) sum ((i+1:Nat):Int) (s:Int) false) R):
  Ev (fun k=>spec_l9Sum.l5 k l (L2 T N s) best (x:Int) (e:Int) sum (i:Int) (mx 0 ((e:Int)-(l.getD i z58).f1)) (s:Int) false) R:=by
 obtain⟨a,hga⟩:∃ a,(l.getD i z58).f0=a:=⟨_,rfl⟩
 obtain⟨r,hgr⟩:∃ r,(l.getD i z58).f1=r:=⟨_,rfl⟩
 rw[hga]at ha
 rw[hgr]at hr
 rw[hga,hgr]at h
 have hra: (rd_T58 l (i:Int)).f0=a:=hga
 have hrr: (rd_T58 l (i:Int)).f1=r:=hgr
 rw[hgr]
 have hlo:=mx_ge 0 ((e:Int)-r)
 have hhi:=mn_le ((s:Int)-1) ((e:Int)+r)
 obtain⟨lo,hlo'⟩:∃ lo:Nat,mx 0 ((e:Int)-r)=lo:=⟨(mx 0 ((e:Int)-r)).toNat,by omega⟩
 obtain⟨hi',hhi'⟩:∃ q:Nat,mn ((s:Int)-1) ((e:Int)+r)=q:=⟨(mn ((s:Int)-1) ((e:Int)+r)).toNat,by omega⟩
 rw[hlo']at hlo
 rw[hhi']at hhi
 rw[hlo']
 have hpow:=Nat.two_pow_pos i
 have eEnd:inP s a r (x+2^i) e sum s T=inP s a r (x+2^i) e sum (hi'+1) T:=by
  have:=inP_skip (s:=s) (a:=a) (r:=r) (x:=x+2^i) (e:=e) (sum:=sum) (T:=T) (hi'+1) (s-(hi'+1)) (fun j h1 h2=>by omega)
  rw[show hi'+1+(s-(hi'+1))=s by omega]at this
  exact this
 have eBeg:inP s a r (x+2^i) e sum lo T=T:=by
  have:=inP_skip (s:=s) (a:=a) (r:=r) (x:=x+2^i) (e:=e) (sum:=sum) (T:=T) 0 lo (fun j h1 h2=>by omega)
  rw[Nat.zero_add]at this
  exact this
 have key:=down (P:=fun p=>lo≤p→Ev (fun k=>spec_l9Sum.l5 k l (L2 (inP s a r (x+2^i) e sum p T) N s) best (x:Int) (e:Int) sum (i:Int) (p:Int) (s:Int) false) R) (n:=hi'+1)
  (fun _=>by
   rw[eEnd]at h
   refine Ev.step (fun k=>?_) h
   simp only[spec_l9Sum.l5,hrr]
   rw[if_pos (by omega),if_pos (by omega),w64 (x:=(s:Int)-1) (by omega) (by omega),w64 (x:=(e:Int)+r) (by omega) (by omega),l1Least_eq,hhi']
   simp only[Option.bind_some]
   rw[if_neg (by omega),w64s hi (by omega)])
  (fun p hp ih hlp=>by
   have ih:=ih (by omega)
   obtain⟨q,hq,hqs,hqn⟩:=mn_nat s ((p:Int)+r+1) (by omega)
   have hg0:=gpP_nn a p
   have hg1:=gpP_le (s:=s) (p:=p) ha (by omega) hs.2
   have hgap:=l2Gap_eq (s:Int) a (p:Int) (by omega) (by omega)
   have e2:inP s a r (x+2^i) e sum (p+1) T=lowT (inP s a r (x+2^i) e sum p T) (x+2^i) q (sum+gpP a p):=by
    simp only[inP]
    rw[if_neg (by omega),hqn]
   have e3:mx (a-p) ((p:Int)-a)=gpP a p:=rfl
   obtain⟨T',hT'⟩:∃ T',inP s a r (x+2^i) e sum p T=T':=⟨_,rfl⟩
   rw[e2,hT']at ih
   rw[hT']
   obtain⟨X,hX⟩:∃ X,x+2^i=X:=⟨_,rfl⟩
   rw[hX]at ih hx2
   have hshl:wrap64 ((x:Int)+shl .i64 1 (i:Int))=(X:Int):=by rw[shl_one (by omega),w64 (by omega) (by omega)];omega
   have hput:∀ v,(L2 T' N s).set (X:Int).toNat ((rd_L2 (L2 T' N s) (X:Int)).set (q:Int).toNat v)=L2 (putT T' X q v) N s:=fun v=>by
    rw[Int.toNat_natCast,Int.toNat_natCast]
    exact L2_set hx2 hqs
   have hrow:=L2_rowlen (T:=T') (s:=s) hx2
   have hat:=L2_at (T:=T') hx2 hqs
   have hlen:=L2_len T' N s
   by_cases d0:T' X q<0
   ·have hlow:lowT T' X q (sum+gpP a p)=putT T' X q (sum+gpP a p):=by unfold lowT;rw[if_pos (.inl d0)]
    rw[hlow]at ih
    clear hX
    refine Ev.step (fun k=>?_) ih
    simp only[spec_l9Sum.l5,hrr,hra,hgap,e3,hshl]
    rw[if_pos (by omega),if_pos (by omega),w64 (x:=(s:Int)-1) (by omega) (by omega),w64 (x:=(e:Int)+r) (by omega) (by omega),l1Least_eq,hhi']
    simp only[Option.bind_some]
    rw[if_pos (by omega),w64 (x:=(p:Int)+r) (by omega) (by omega),w64 (x:=(p:Int)+r+1) (by omega) (by omega),l1Least_eq,hq]
    simp only[Option.bind_some,hput,hat,hrow,hlen]
    rw[if_pos (by omega),if_pos (by omega),if_pos (by omega),if_pos (by omega),if_pos d0,w64 (x:=sum+gpP a p) (by omega) (by omega),w64s (n:=1000) (by omega) (by omega)]
   ·by_cases d1:sum+gpP a p<T' X q
    ·have hlow:lowT T' X q (sum+gpP a p)=putT T' X q (sum+gpP a p):=by unfold lowT;rw[if_pos (.inr d1)]
     rw[hlow]at ih
     clear hX
     refine Ev.step (fun k=>?_) ih
     simp only[spec_l9Sum.l5,hrr,hra,hgap,e3,hshl]
     rw[if_pos (by omega),if_pos (by omega),w64 (x:=(s:Int)-1) (by omega) (by omega),w64 (x:=(e:Int)+r) (by omega) (by omega),l1Least_eq,hhi']
     simp only[Option.bind_some]
     rw[if_pos (by omega),w64 (x:=(p:Int)+r) (by omega) (by omega),w64 (x:=(p:Int)+r+1) (by omega) (by omega),l1Least_eq,hq]
     simp only[Option.bind_some,hput,hat,hrow,hlen]
     rw[if_pos (by omega),if_pos (by omega),if_pos (by omega),if_pos (by omega),if_neg d0,w64 (x:=sum+gpP a p) (by omega) (by omega),if_pos d1,w64s (n:=1000) (by omega) (by omega)]
    ·have hlow:lowT T' X q (sum+gpP a p)=T':=by unfold lowT;rw[if_neg (by omega)]
     rw[hlow]at ih
     clear hX
     refine Ev.step (fun k=>?_) ih
     simp only[spec_l9Sum.l5,hrr,hra,hgap,e3,hshl]
     rw[if_pos (by omega),if_pos (by omega),w64 (x:=(s:Int)-1) (by omega) (by omega),w64 (x:=(e:Int)+r) (by omega) (by omega),l1Least_eq,hhi']
     simp only[Option.bind_some]
     rw[if_pos (by omega),w64 (x:=(p:Int)+r) (by omega) (by omega),w64 (x:=(p:Int)+r+1) (by omega) (by omega),l1Least_eq,hq]
     simp only[Option.bind_some,hput,hat,hrow,hlen]
     rw[if_pos (by omega),if_pos (by omega),if_pos (by omega),if_pos (by omega),if_neg d0,w64 (x:=sum+gpP a p) (by omega) (by omega),if_neg d1,w64s (n:=1000) (by omega) (by omega)])
 have k0:=key lo (by omega) (Nat.le_refl _)
 rw[eBeg]at k0
 exact k0
set_option maxHeartbeats 2000000 in
theorem l4_all (hv:sensV (s:Int) false l=true) {x e N:Nat} (hN:N=2^l.length) (hx:x<N) (he:e<s) (best sum:Int) (hsum:0≤sum∧sum≤1600) (T:Tb)
  (h:Ev (fun k=>spec_l9Sum.l3 k l (L2 (inI s l x e sum l.length T) N s) best (x:Int) ((e+1:Nat):Int) (s:Int) false) R):
  Ev (fun k=>spec_l9Sum.l4 k l (L2 T N s) best (x:Int) (e:Int) sum 0 (s:Int) false) R:=by
 have hv':=sens_of hv
 have hl:=hv'.2.1
 have h64:2^l.length≤64:=Nat.le_trans (Nat.pow_le_pow_right (by decide) hl) (by decide)
 have key:=down (P:=fun i=>Ev (fun k=>spec_l9Sum.l4 k l (L2 (inI s l x e sum i T) N s) best (x:Int) (e:Int) sum (i:Int) (s:Int) false) R) (n:=l.length)
  (by
   refine Ev.step (f:=fun k=>spec_l9Sum.j7 k l (L2 (inI s l x e sum l.length T) N s) best (x:Int) (e:Int) sum (l.length:Int) false (s:Int) false) (fun k=>?_) (Ev.step (fun k=>?_) h)
   ·simp only[spec_l9Sum.l4]
    rw[if_neg (by omega)]
   ·simp only[spec_l9Sum.j7]
    rw[if_neg (by decide),w64s (n:=1000) (by omega) (by omega)])
  (fun i hi ih=>by
   have hsc:=hv'.2.2 i hi
   unfold sC at hsc
   refine Ev.step (f:=fun k=>spec_l9Sum.j7 k l (L2 (inI s l x e sum i T) N s) best (x:Int) (e:Int) sum (i:Int) true (s:Int) false) (fun k=>?_) ?_
   ·simp only[spec_l9Sum.l4]
    rw[if_pos (by omega),decide_eq_true (by omega)]
   ·rcases bit_cases x i with hb|hb
    ·have e1:inI s l x e sum (i+1) T=inP s (l.getD i z58).f0 (l.getD i z58).f1 (x+2^i) e sum s (inI s l x e sum i T):=by
      simp only[inI]
      rw[if_neg (by omega)]
     rw[e1]at ih
     have hlt:x+2^i<N:=by
      have h1:2^i*2≤2^l.length:=by rw[←Nat.pow_succ];exact Nat.pow_le_pow_right (by decide) (by omega)
      rw[hN]at hx⊢
      obtain⟨M,hM⟩:∃ M,2^l.length=M*2^ (i+1):=⟨2^ (l.length-(i+1)),by rw[←Nat.pow_add];congr 1;omega⟩
      unfold bitA at hb
      have hp:=Nat.two_pow_pos i
      have hps:2^ (i+1)=2^i*2:=Nat.pow_succ 2 i
      obtain⟨q,hq⟩:∃ q,x/ 2^i=q:=⟨_,rfl⟩
      have hdm:=Nat.div_add_mod x (2^i)
      have hml:=Nat.mod_lt x hp
      rw[hq]at hdm hb
      rw[hM,hps]at hx⊢
      obtain⟨P,hP⟩:∃ P,2^i=P:=⟨_,rfl⟩
      rw[hP]at hdm hml hx⊢hp
      obtain⟨m,hm⟩:∃ m,q=2*m:=⟨q/ 2,by omega⟩
      subst hm
      have hmM:m<M:=by
       rcases Nat.lt_or_ge m M with h|h
       ·exact h
       ·exfalso
        have:M*(P*2)≤m*(P*2):=Nat.mul_le_mul_right _ h
        have e5:P*(2*m)=m*(P*2):=by rw[Nat.mul_comm 2 m,←Nat.mul_assoc,Nat.mul_comm P m,Nat.mul_assoc]
        omega
      have h7: (m+1)*(P*2)≤M*(P*2):=Nat.mul_le_mul_right _ hmM
      have e6: (m+1)*(P*2)=m*(P*2)+P*2:=Nat.succ_mul _ _
      have e5:P*(2*m)=m*(P*2):=by rw[Nat.mul_comm 2 m,←Nat.mul_assoc,Nat.mul_comm P m,Nat.mul_assoc]
      omega
     have h5:=l5_all (s:=s) (by omega) hl (by omega) (by omega) hi hb hlt he hsc.1 hsc.2 (inI s l x e sum i T) best sum hsum ih
     refine Ev.step (fun k=>?_) h5
     have hrr: (rd_T58 l (i:Int)).f1=(l.getD i z58).f1:=rfl
     simp only[spec_l9Sum.j7,hrr]
     rw[if_pos True.intro,if_pos (by omega),bit_read (by omega) (by omega),hb,if_neg (by decide),if_pos (by omega),w64 (x:=(e:Int)-(l.getD i z58).f1) (by omega) (by omega),l1Most_eq]
     rfl
    ·have e1:inI s l x e sum (i+1) T=inI s l x e sum i T:=by
      simp only[inI]
      rw[if_pos hb]
     rw[e1]at ih
     refine Ev.step (fun k=>?_) ih
     simp only[spec_l9Sum.j7]
     rw[if_pos True.intro,if_pos (by omega),bit_read (by omega) (by omega),hb,if_pos (by decide),w64s hi (by omega)])
 exact key 0 (by omega)
theorem l4_end {x N:Nat} (hl:l.length≤6) (hs:s≤24) (best sum:Int) (T:List (List Int)) (h:Ev (fun k=>spec_l9Sum.l3 k l T best (x:Int) ((s+1:Nat):Int) (s:Int) false) R):
  Ev (fun k=>spec_l9Sum.l4 k l T best (x:Int) (s:Int) sum 0 (s:Int) false) R:=by
 refine Ev.step (f:=fun k=>spec_l9Sum.j7 k l T best (x:Int) (s:Int) sum 0 false (s:Int) false) (fun k=>?_) (Ev.step (fun k=>?_) h)
 ·simp only[spec_l9Sum.l4]
  by_cases c: (0:Int)<(l.length:Int)
  ·rw[if_pos c,decide_eq_false (by omega)]
  ·rw[if_neg c]
 ·simp only[spec_l9Sum.j7]
  rw[if_neg (by decide),w64s (n:=1000) (by omega) (by omega)]
set_option maxHeartbeats 2000000 in
theorem l3_all (hv:sensV (s:Int) false l=true) {x N:Nat} (hN:N=2^l.length) (hx:x<N) (st:Tb × Int) (hT:bdT st.1) (hb: -1≤st.2∧st.2≤1536)
  (h:Ev (fun k=>spec_l9Sum.l2 k l (L2 (inE false s l x (s+1) st).1 N s) (inE false s l x (s+1) st).2 ((x+1:Nat):Int) (s:Int) false) R):
  Ev (fun k=>spec_l9Sum.l3 k l (L2 st.1 N s) st.2 (x:Int) 0 (s:Int) false) R:=by
 have hv':=sens_of hv
 have hl:=hv'.2.1
 have hs:=hv'.1.1
 have h64:2^l.length≤64:=Nat.le_trans (Nat.pow_le_pow_right (by decide) hl) (by decide)
 have key:=down (P:=fun e=>Ev (fun k=>spec_l9Sum.l3 k l (L2 (inE false s l x e st).1 N s) (inE false s l x e st).2 (x:Int) (e:Int) (s:Int) false) R) (n:=s+1)
  (by
   refine Ev.step (fun k=>?_) h
   simp only[spec_l9Sum.l3]
   rw[if_neg (by omega),w64s (n:=1000) (by omega) (by omega)])
  (fun e he ih=>by
   have hbd:=inE_bd (all:=false) (x:=x) (fun j hj=>(hv'.2.2 j hj).1) (show s≤24 by omega) hT hb (by omega) e
   obtain⟨S,hS⟩:∃ S,inE false s l x e st=S:=⟨_,rfl⟩
   have hbx:=hbd.1 x e
   rw[hS]at hbd hbx
   have hlen:=L2_len S.1 N s
   have hrow:=L2_rowlen (T:=S.1) (s:=s) hx
   have hat:=L2_at (T:=S.1) (s:=s) (e:=e) hx (by omega)
   by_cases c1:S.1 x e<0
   ·have e1:inE false s l x (e+1) st=S:=by rw[inE_neg (by rw[hS];exact c1),hS]
    rw[e1]at ih
    rw[hS]
    refine Ev.step (fun k=>?_) ih
    simp only[spec_l9Sum.l3,hlen,hrow,hat]
    rw[if_pos (by omega),if_pos (by omega),if_pos (by omega),if_pos (by omega),if_pos (by omega),if_pos c1,w64s (n:=1000) (by omega) (by omega)]
   ·have h3:Ev (fun k=>spec_l9Sum.j5 k l (L2 S.1 N s) (bestT s e (S.1 x e) S.2) (x:Int) (e:Int) (S.1 x e) (s:Int) false) R:=by
     by_cases hes:e<s
     ·have e1:inE false s l x (e+1) st=(inI s l x e (S.1 x e) l.length S.1,bestT s e (S.1 x e) S.2):=by
       rw[inE_pos (by rw[hS];exact c1) (.inl hes),hS]
      rw[e1]at ih
      exact Ev.step (fun k=>by simp only[spec_l9Sum.j5]) (l4_all hv hN hx hes (bestT s e (S.1 x e) S.2) (S.1 x e) (by omega) S.1 ih)
     ·have hes':e=s:=by omega
      have e1:inE false s l x (e+1) st=(S.1,bestT s e (S.1 x e) S.2):=by
       rw[inE_end (by rw[hS];exact c1) hes,hS]
      rw[e1]at ih
      rw[hes']at ih⊢
      exact Ev.step (fun k=>by simp only[spec_l9Sum.j5]) (l4_end (N:=N) hl (by omega) _ (S.1 x s) _ ih)
    have h4:∀ q:Bool,(if q=true then S.1 x e else S.2)=bestT s e (S.1 x e) S.2→Ev (fun k=>spec_l9Sum.j4 k l (L2 S.1 N s) S.2 (x:Int) (e:Int) (S.1 x e) q (s:Int) false) R:=fun q hq=>by
     refine Ev.step (fun k=>?_) h3
     simp only[spec_l9Sum.j4]
     rw[←hq]
     cases q<;>simp
    rw[hS]
    by_cases c2:e=s
    ·by_cases c3:S.2<0
     ·refine Ev.step (fun k=>?_) (h4 true (by unfold bestT;rw[if_pos rfl,if_pos ⟨c2, .inl c3⟩]))
      simp only[spec_l9Sum.l3,hlen,hrow,hat]
      rw[if_pos (by omega),if_pos (by omega),if_pos (by omega),if_pos (by omega),if_pos (by omega),if_neg c1,if_pos (by omega),if_pos c3]
     ·refine Ev.step (fun k=>?_) (h4 (decide (S.1 x e<S.2)) (by
       unfold bestT
       by_cases c4:S.1 x e<S.2
       ·rw[if_pos (decide_eq_true c4),if_pos ⟨c2, .inr c4⟩]
       ·rw[if_neg (by rw[decide_eq_false c4];decide),if_neg (by omega)]))
      simp only[spec_l9Sum.l3,hlen,hrow,hat]
      rw[if_pos (by omega),if_pos (by omega),if_pos (by omega),if_pos (by omega),if_pos (by omega),if_neg c1,if_pos (by omega),if_neg c3]
    ·refine Ev.step (fun k=>?_) (h4 false (by rw[bestT_ne _ _ c2];rfl))
     simp only[spec_l9Sum.l3,hlen,hrow,hat]
     rw[if_pos (by omega),if_pos (by omega),if_pos (by omega),if_pos (by omega),if_pos (by omega),if_neg c1,if_neg (by omega)])
 exact key 0 (by omega)
end
def Tm:Tb:=fun _ _=> -1
set_option maxHeartbeats 2000000 in
theorem l9Sum_ev {s:Nat} {l:List S58} (hv:sensV (s:Int) false l=true):Ev (fun k=>spec_l9Sum.f k (s:Int) false l) (lsum false s l):=by
 have hv':=sens_of hv
 have hl:=hv'.2.1
 have hs:=hv'.1.1
 have h64:2^l.length≤64:=Nat.le_trans (Nat.pow_le_pow_right (by decide) hl) (by decide)
 obtain⟨N,hN⟩:∃ N,N=2^l.length:=⟨_,rfl⟩
 have hN0:0<N:=by rw[hN];exact Nat.two_pow_pos _
 have hN64:N≤64:=by omega
 have h2:=down (P:=fun x=>Ev (fun k=>spec_l9Sum.l2 k l (L2 (inX false s l x (T0,-1)).1 N s) (inX false s l x (T0,-1)).2 (x:Int) (s:Int) false) (inX false s l N (T0,-1)).2) (n:=N)
  (ev_now (fun k=>by simp only[spec_l9Sum.l2,L2_len];rw[if_neg (by omega)]))
  (fun x hx ih=>by
   have hbd:=inX_bd (all:=false) (s:=s) (fun j hj=>(hv'.2.2 j hj).1) (by omega) x (by omega)
   have eX:inX false s l (x+1) (T0,-1)=inE false s l x (s+1) (inX false s l x (T0,-1)):=rfl
   rw[eX]at ih
   have h3:=l3_all hv hN hx (inX false s l x (T0,-1)) hbd.1 hbd.2 ih
   refine Ev.step (fun k=>?_) h3
   simp only[spec_l9Sum.l2,L2_len]
   rw[if_pos (by omega)])
 have h20:=h2 0 (by omega)
 have eX0:inX false s l 0 (T0,-1)=(T0,-1):=rfl
 rw[eX0]at h20
 have hset: (L2 Tm N s).set (0:Int).toNat ((rd_L2 (L2 Tm N s) 0).set (0:Int).toNat 0)=L2 T0 N s:=by
  have:=L2_set (T:=Tm) (N:=N) (s:=s) (x:=0) (e:=0) (v:=0) hN0 (by omega)
  exact this
 have hrow0: (rd_L2 (L2 Tm N s) 0).length=s+1:=L2_rowlen (T:=Tm) (N:=N) (s:=s) (x:=0) hN0
 have h0:=down (P:=fun x=>Ev (fun k=>spec_l9Sum.l0 k l (L2 Tm x s) (x:Int) (s:Int) false) (inX false s l N (T0,-1)).2) (n:=N)
  (by
   refine Ev.step (fun k=>?_) h20
   simp only[spec_l9Sum.l0,hset,hrow0,L2_len]
   rw[shl_one (by omega),←hN,if_neg (by omega),if_pos (by omega),if_pos (by omega)]
   rfl)
  (fun x hx ih=>by
   have h1:=down (P:=fun e=>Ev (fun k=>spec_l9Sum.l1 k l (L2 Tm x s) (x:Int) (tab (s+1) (fun q=>if q<e then-1 else 0)) (e:Int) (s:Int) false) (inX false s l N (T0,-1)).2) (n:=s+1)
    (by
     refine Ev.step (fun k=>?_) ih
     simp only[spec_l9Sum.l1,L2_len]
     rw[if_neg (by omega),if_pos (by omega),w64s hx (by omega)]
     congr 1
     have:tab (s+1) (fun q=>if q<s+1 then(-1:Int)else 0)=tab (s+1) (fun e=>Tm x e):=tab_congr (fun q hq=>by rw[if_pos hq];rfl)
     rw[this]
     exact tg_snoc x (fun x=>tab (s+1) (fun e=>Tm x e)))
    (fun e he ih1=>by
     refine Ev.step (fun k=>?_) ih1
     simp only[spec_l9Sum.l1,tab_len]
     rw[if_pos (by omega),if_pos (by omega),if_pos (by omega),w64s (n:=1000) (by omega) (by omega),Int.toNat_natCast,tab_set]
     congr 1
     refine tab_congr (fun q _=>?_)
     by_cases c:q=e
     ·rw[if_pos c,if_pos (by omega)]
     ·rw[if_neg c]
      by_cases c2:q<e
      ·rw[if_pos c2,if_pos (by omega)]
      ·rw[if_neg c2,if_neg (by omega)])
   have h10:=h1 0 (by omega)
   have e0:tab (s+1) (fun q=>if q<0 then(-1:Int)else 0)=List.replicate (s+1) 0:=by
    rw[tab_rep]
    exact tab_congr (fun q _=>by rw[if_neg (by omega)])
   rw[e0]at h10
   refine Ev.step (fun k=>?_) h10
   simp only[spec_l9Sum.l0]
   rw[shl_one (by omega),←hN,if_pos (by omega),w64s (i:=s) (n:=1000) (by omega) (by omega),if_pos (by omega),Int.toNat_natCast,if_pos (by omega)]
   rfl)
 unfold spec_l9Sum.f lsum
 rw[←hN]
 exact h0 0 (by omega)
def sumR (s:Int) (r:Bool) (l:List S58):Int × Bool:=if sensV s r l=true then foundR (lsum false s.toNat l)else(0,false)
theorem told_eq (v:Int):spec_l7Told.f v=some (foundR v):=by
 unfold spec_l7Told.f foundR
 rw[l1Most_eq]
 simp only[Option.bind_some]
 congr 2
 unfold mx
 (repeat' split)<;>omega
theorem specSum_ev (s:Int) (r:Bool) (l:List S58) (hl:l.length≤1048576):Ev (fun k=>spec_LeastSum.f k s r l) (sumR s r l):=by
 unfold spec_LeastSum.f sumR
 refine Ev.bind (l9Sensors_ev s r l hl) ?_
 cases hv:sensV s r l with
 | true=>
  have h:=sens_of hv
  obtain⟨n,rfl⟩:∃ n:Nat,s=n:=⟨s.toNat,by omega⟩
  have hr:=h.1.2
  subst hr
  refine ev_pos rfl (Ev.bind (l9Sum_ev hv) ?_)
  refine ev_bind0 (told_eq _) ?_
  exact Ev.now _
 | false=>exact ev_neg (by simp) (Ev.now _)
theorem implSum_ev (s:Int) (r:Bool) (l:List S58) (hl:l.length≤1048576):Ev (fun k=>impl_LeastSum.f k s r l) (sumR s r l):=by
 unfold impl_LeastSum.f sumR
 refine Ev.bind (isGuarded_ev s r l hl) ?_
 cases hv:sensV s r l with
 | true=>
  have h:=sens_of hv
  obtain⟨n,rfl⟩:∃ n:Nat,s=n:=⟨s.toNat,by omega⟩
  have hr:=h.1.2
  subst hr
  have hrad:radOk l:=fun j hj=>(h.2.2 j hj).2.1
  rw[if_pos (by rfl),Int.toNat_natCast,←lsum_both hrad]
  exact ev_pos rfl (implSum_all hv)
 | false=>exact ev_neg (by simp) (Ev.now _)
theorem slicesMax_ev (l:List Int) (h0:0<l.length) (hl:l.length≤1048576):Ev (fun k=>slices_Max_int_int.f k l) (rmax (rd l 0) (fun j=>rd l ((j+1:Nat):Int)) (l.length-1)):=by
 have key:=down (P:=fun i=>Ev (fun k=>slices_Max_int_int.l0 k l (rmax (rd l 0) (fun j=>rd l ((j+1:Nat):Int)) i) ((i+1:Nat):Int)) (rmax (rd l 0) (fun j=>rd l ((j+1:Nat):Int)) (l.length-1))) (n:=l.length-1)
  (ev_now (fun k=>by simp only[slices_Max_int_int.l0];rw[if_neg (by omega)]))
  (fun i hi ih=>by
   refine Ev.step (fun k=>?_) ih
   simp only[slices_Max_int_int.l0]
   rw[if_pos (by omega),if_pos (by omega),w64s (n:=l.length) (by omega) (by omega)]
   rfl)
 unfold slices_Max_int_int.f
 exact ev_neg (by omega) (ev_pos (by omega) (key 0 (by omega)))
def insK (x:S58) (l:List S58):Nat→List S58
 | 0=>x::l
 | k+1=>if x.f0<(l.getD k z58).f0 then insK x l k else l.take (k+1)++x::l.drop (k+1)
theorem insK_len (x:S58) (l:List S58):∀ k,k≤l.length→(insK x l k).length=l.length+1:=by
 intro k
 induction k with
 | zero=>intro _;rfl
 | succ k ih=>
  intro h
  unfold insK
  split
  ·exact ih (by omega)
  ·rw[List.length_append,List.length_cons,List.length_take,List.length_drop];omega
theorem insK_mem (x:S58) (l:List S58):∀ k y,y∈insK x l k→y=x∨y∈l:=by
 intro k
 induction k with
 | zero=>intro y h;exact List.mem_cons.1 h
 | succ k ih=>
  intro y h
  unfold insK at h
  split at h
  ·exact ih y h
  ·rcases List.mem_append.1 h with h|h
   ·exact .inr (List.mem_of_mem_take h)
   ·rcases List.mem_cons.1 h with h|h
    ·exact .inl h
    ·exact .inr (List.mem_of_mem_drop h)
def byPlace (l:List S58):Prop:=l.Pairwise (fun x y=>x.f0≤y.f0)
theorem insK_pw (x:S58) (l:List S58) (hl:byPlace l):∀ k,k≤l.length→(∀ y∈l.drop k,x.f0<y.f0)→byPlace (insK x l k):=by
 intro k
 induction k with
 | zero=>
  intro _ h
  exact List.pairwise_cons.2 ⟨fun y hy=>by have:=h y hy;omega,hl⟩
 | succ k ih=>
  intro hk h
  have hkl:k<l.length:=by omega
  have hg:l.getD k z58=l[k]:=by simp[List.getD,hkl]
  unfold insK
  split
  ·rename_i hlt
   refine ih (by omega) (fun y hy=>?_)
   rw[List.drop_eq_getElem_cons hkl]at hy
   rcases List.mem_cons.1 hy with rfl|hy
   ·rw[hg]at hlt;exact hlt
   ·exact h y hy
  ·rename_i hlt
   rw[hg]at hlt
   have hs: (l.take (k+1)++l.drop (k+1)).Pairwise (fun x y=>x.f0≤y.f0):=by rw[List.take_append_drop];exact hl
   rw[List.pairwise_append]at hs
   have htk:l.take (k+1)=l.take k++[l[k]]:=List.take_succ_eq_append_getElem hkl
   have hle:∀ y∈l.take (k+1),y.f0≤l[k].f0:=by
    intro y hy
    have h1:=hs.1
    rw[htk,List.pairwise_append]at h1
    rw[htk]at hy
    rcases List.mem_append.1 hy with hy|hy
    ·exact h1.2.2 y hy _ List.mem_cons_self
    ·rw[List.mem_singleton.1 hy];exact Int.le_refl _
   refine List.pairwise_append.2 ⟨hs.1,List.pairwise_cons.2 ⟨fun y hy=>by have:=h y hy;omega,hs.2.1⟩,fun y hy z hz=>?_⟩
   rcases List.mem_cons.1 hz with rfl|hz
   ·have:=hle y hy;omega
   ·exact hs.2.2 y hy z hz
def srtN (l:List S58):Nat→List S58
 | 0=>[]
 | i+1=>insK (l.getD i z58) (srtN l i) i
theorem srtN_len (l:List S58) (i:Nat): (srtN l i).length=i:=by
 induction i with
 | zero=>rfl
 | succ i ih=>unfold srtN;rw[insK_len _ _ _ (by omega),ih]
theorem srtN_pw (l:List S58) (i:Nat):byPlace (srtN l i):=by
 induction i with
 | zero=>exact List.Pairwise.nil
 | succ i ih=>
  refine insK_pw _ _ ih i (by rw[srtN_len];exact Nat.le_refl _) (fun y hy=>?_)
  rw[List.drop_of_length_le (by rw[srtN_len];exact Nat.le_refl _)]at hy
  exact absurd hy List.not_mem_nil
theorem srtN_mem {l:List S58} {P:S58→Prop} (h:∀ j,j<l.length→P (l.getD j z58)):∀ i,i≤l.length→∀ y∈srtN l i,P y:=by
 intro i
 induction i with
 | zero=>intro _ y hy;exact absurd hy List.not_mem_nil
 | succ i ih=>
  intro hi y hy
  rcases insK_mem _ _ _ y hy with rfl|hy
  ·exact h i (by omega)
  ·exact ih (by omega) y hy
def pm (E:List Int):Nat→Int
 | 0=> -1
 | p+1=>mx (pm E p) (rd E (p:Int))
theorem pm_ge (E:List Int) (p q:Nat) (h:q<p):rd E (q:Int)≤pm E p:=by
 induction p with
 | zero=>omega
 | succ p ih=>
  have:=mx_ge (pm E p) (rd E (p:Int))
  unfold pm
  by_cases e:q=p
  ·subst e;omega
  ·have:=ih (by omega);omega
theorem pm_le {E:List Int} {B:Int} (hB: -1≤B) (p:Nat) (h:∀ q,q<p→rd E (q:Int)≤B):pm E p≤B:=by
 induction p with
 | zero=>exact hB
 | succ p ih=>
  have h1:=mx_ge (pm E p) (rd E (p:Int))
  have h2:=ih (fun q hq=>h q (by omega))
  have h3:=h p (by omega)
  unfold pm;omega
theorem pm_lo (E:List Int) (p:Nat): -1≤pm E p:=by
 induction p with
 | zero=>exact Int.le_refl _
 | succ p ih=>have:=mx_ge (pm E p) (rd E (p:Int));unfold pm;omega
def nxt (d a r:Int) (E:List Int) (p:Nat):Int:=if pm E (p+1)<0 then-1 else if d<mx (a-p) ((p:Int)-a)then-1 else if(p:Int)-r≤pm E (p+1)then mx (pm E (p+1)) ((p:Int)+r+1)else pm E (p+1)
def dpS (n:Nat) (d:Int):List Int→List S58→List Int
 | E,[]=>E
 | E,x::t=>dpS n d (tab n (nxt d x.f0 x.f1 E)) t
def plv (s d a r f:Int):Int:=if plcOk s d a r f then plc s d a r f else-1
def grd (s d:Int):Int→Int→List S58→Int
 | f,_,[]=>f
 | f,l,x::t=>if f<s∧mx l (x.f0-d)≤plv s d x.f0 x.f1 f then grd s d (plv s d x.f0 x.f1 f+x.f1+1) (plv s d x.f0 x.f1 f) t else grd s d f (mx l (x.f0-d)) t
structure InO (n:Nat) (d:Int) (E:List Int) (f:Int) (l:Nat) (am:Int):Prop where
 len:E.length=n
 bd:∀ p,p<n→-1≤rd E (p:Int)∧rd E (p:Int)≤36
 f0:0≤f
 f1:f≤36
 ln:l<n
 la: (l:Int)≤am+d
 lb: (l:Int)≤f∨(l:Int)≤am-d
 lo:f≤rd E (l:Int)
 hi: (n:Int)≤f∨∀ p,p<n→rd E (p:Int)≤f
theorem nxt_bd {n:Nat} {d a r:Int} {E:List Int} (hn:n≤24) (hr:0≤r∧r≤12) (h:∀ p,p<n→-1≤rd E (p:Int)∧rd E (p:Int)≤36) (p:Nat) (hp:p<n): -1≤nxt d a r E p∧nxt d a r E p≤36:=by
 have h1:=pm_lo E (p+1)
 have h2:=pm_le (E:=E) (B:=36) (by omega) (p+1) (fun q hq=>(h q (by omega)).2)
 have h3:=mx_ge (pm E (p+1)) ((p:Int)+r+1)
 unfold nxt
 (repeat' split)<;>omega
theorem plc_le (s d a r f:Int):plc s d a r f≤a+d∧plc s d a r f≤f+r∧plc s d a r f≤s-1∧(plc s d a r f=a+d∨plc s d a r f=f+r∨plc s d a r f=s-1):=by
 have h2:=mn_le (a+d) (f+r)
 have h3:=mn_le (mn (a+d) (f+r)) (s-1)
 unfold plc
 omega
theorem InO_step {n:Nat} {d:Int} {E:List Int} {f:Int} {l:Nat} {am a r:Int} (hn:2≤n∧n≤24) (hd:0≤d∧d≤24) (ha:0≤a∧a≤n-1) (hr:0≤r∧r≤12) (hm:am≤a) (h:InO n d E f l am):
  ∃ l':Nat,(if f<n∧mx l (a-d)≤plv n d a r f then plv n d a r f else mx l (a-d))=(l':Int)∧InO n d (tab n (nxt d a r E)) (if f<n∧mx l (a-d)≤plv n d a r f then plv n d a r f+r+1 else f) l' a:=by
 have hlo:=h.lo;have hln:=h.ln;have hla:=h.la;have hf0:=h.f0;have hf1:=h.f1;have hlb:=h.lb
 have hp:=plc_le n d a r f
 have hmx:=mx_ge l (a-d)
 have hnb:=fun p hp=>nxt_bd (d:=d) (a:=a) hn.2 hr h.bd p hp
 by_cases hc:f<n∧mx l (a-d)≤plv n d a r f
 ·rw[if_pos hc,if_pos hc]
  have hok:plcOk n d a r f:=by
   by_cases ho:plcOk n d a r f
   ·exact ho
   ·have h2:=hc.2
    unfold plv at h2
    rw[if_neg ho]at h2
    omega
  have hv:plv n d a r f=plc n d a r f:=by unfold plv;rw[if_pos hok]
  rw[hv]at hc⊢
  have ho1:=hok.1
  have ho2:=hok.2
  obtain⟨q,hq⟩:∃ q:Nat,plc n d a r f=q:=⟨(plc n d a r f).toNat,by omega⟩
  rw[hq]at hc hp ho1 ho2⊢
  refine⟨q,rfl,tab_len _ _,fun p hp=>by rw[tab_rd hp];exact hnb p hp,by omega,by omega,by omega,by omega,by omega,?_,?_⟩
  ·rw[tab_rd (by omega)]
   have hb:=pm_ge E (q+1) l (by omega)
   have hg:=mx_ge (a-q) ((q:Int)-a)
   have hx:=mx_ge (pm E (q+1)) ((q:Int)+r+1)
   unfold nxt
   rw[if_neg (by omega),if_neg (by omega),if_pos (by omega)]
   omega
  ·rcases h.hi with hh|hh
   ·exact absurd hh (by omega)
   ·refine .inr (fun p hp'=>?_)
    rw[tab_rd hp']
    have hb:=pm_le (E:=E) (B:=f) (by omega) (p+1) (fun q hq=>hh q (by omega))
    have hg:=mx_ge (a-p) ((p:Int)-a)
    have hx:=mx_ge (pm E (p+1)) ((p:Int)+r+1)
    unfold nxt
    (repeat' split)<;>omega
 ·rw[if_neg hc,if_neg hc]
  obtain⟨q,hq⟩:∃ q:Nat,mx l (a-d)=q:=⟨(mx l (a-d)).toNat,by omega⟩
  rw[hq]at hc hmx⊢
  refine⟨q,rfl,tab_len _ _,fun p hp=>by rw[tab_rd hp];exact hnb p hp,hf0,hf1,by omega,by omega,by omega,?_,?_⟩
  ·rw[tab_rd (by omega)]
   have hb:=pm_ge E (q+1) l (by omega)
   have hg:=mx_ge (a-q) ((q:Int)-a)
   have hx:=mx_ge (pm E (q+1)) ((q:Int)+r+1)
   unfold nxt
   rw[if_neg (by omega),if_neg (by omega)]
   split<;>omega
  ·rcases h.hi with hh|hh
   ·exact .inl hh
   ·by_cases hfn: (n:Int)≤f
    ·exact .inl hfn
    refine .inr (fun p hp'=>?_)
    rw[tab_rd hp']
    have hb:=pm_le (E:=E) (B:=f) (by omega) (p+1) (fun q hq=>hh q (by omega))
    have hg:=mx_ge (a-p) ((p:Int)-a)
    have hx:=mx_ge (pm E (p+1)) ((p:Int)+r+1)
    unfold nxt
    split
    ·omega
    split
    ·omega
    split
    ·by_cases hle: (p:Int)+r+1≤f
     ·omega
     ·exfalso
      have hok:plcOk n d a r f:=⟨by omega,by omega⟩
      have hv:plv n d a r f=plc n d a r f:=by unfold plv;rw[if_pos hok]
      rw[hv]at hc
      omega
    ·omega
theorem dp_grd {n:Nat} {d:Int} (hn:2≤n∧n≤24) (hd:0≤d∧d≤24):∀ (t:List S58) (E:List Int) (f:Int) (l:Nat) (am:Int),byPlace t→(∀ x∈t,(0≤x.f0∧x.f0≤n-1)∧0≤x.f1∧x.f1≤12)→(∀ x∈t,am≤x.f0)→InO n d E f l am→
  ∃ (l':Nat) (am':Int),InO n d (dpS n d E t) (grd n d f l t) l' am':=by
 intro t
 induction t with
 | nil=>intro E f l am _ _ _ h;exact⟨l,am,h⟩
 | cons x t ih=>
  intro E f l am hp hx hm h
  have hx0:=hx x List.mem_cons_self
  obtain⟨l',hl',h'⟩:=InO_step hn hd hx0.1 hx0.2 (hm x List.mem_cons_self) h
  have hp2:=List.pairwise_cons.1 hp
  have:=ih _ _ l' x.f0 hp2.2 (fun y hy=>hx y (List.mem_cons_of_mem _ hy)) (fun y hy=>hp2.1 y hy) h'
  unfold dpS grd
  by_cases hc:f<n∧mx l (x.f0-d)≤plv n d x.f0 x.f1 f
  ·rw[if_pos hc]at this hl'⊢
   rw[hl']at this⊢;exact this
  ·rw[if_neg hc]at this hl'⊢
   rw[hl'];exact this
theorem dp_iff {n:Nat} {d:Int} (hn:2≤n∧n≤24) (hd:0≤d∧d≤24) (t:List S58) (hp:byPlace t) (hx:∀ x∈t,(0≤x.f0∧x.f0≤n-1)∧0≤x.f1∧x.f1≤12):
  (dpS n d (tab n (fun q=>if q=0 then 0 else-1)) t).length=n∧((∃ q,q<n∧(n:Int)≤rd (dpS n d (tab n (fun q=>if q=0 then 0 else-1)) t) (q:Int))↔(n:Int)≤grd n d 0 0 t):=by
 have h0:InO n d (tab n (fun q=>if q=0 then 0 else-1)) 0 0 0:=by
  refine⟨tab_len _ _,fun p hp=>?_,by omega,by omega,by omega,by omega,by omega,?_, .inr (fun p hp=>?_)⟩
  ·rw[tab_rd hp];split<;>omega
  ·rw[tab_rd (by omega)];simp
  ·rw[tab_rd hp];split<;>omega
 obtain⟨l',am',h⟩:=dp_grd hn hd t _ 0 0 0 hp hx (fun x h=>(hx x h).1.1) h0
 refine⟨h.len,?_⟩
 constructor
 ·rintro⟨q,hq,hle⟩
  rcases h.hi with hh|hh
  ·exact hh
  ·have:=hh q hq
   exact Int.le_trans hle this
 ·intro hle
  exact⟨l',h.ln,Int.le_trans hle h.lo⟩
theorem l1Own_eq (l:List Int) (h:l.length≤1048576):spec_l1Own.f l=some l:=by
 unfold spec_l1Own.f
 simp only[Option.bind_some,List.length_nil,List.nil_append]
 rw[if_pos (by omega)]
def insI (l:List S58) (x:Nat) (o:List Int):Nat→List Int
 | 0=>(x:Int)::o
 | k+1=>if(l.getD x z58).f0<(rd_T58 l (rd o (k:Int))).f0 then insI l x o k else o.take (k+1)++(x:Int)::o.drop (k+1)
def ordN (l:List S58):Nat→List Int
 | 0=>[]
 | i+1=>insI l i (ordN l i) i
theorem insI_map (l:List S58) (x:Nat) (o:List Int):∀ k,k≤o.length→(insI l x o k).map (rd_T58 l)=insK (l.getD x z58) (o.map (rd_T58 l)) k∧(insI l x o k).length=o.length+1∧∀ y∈insI l x o k,y=(x:Int)∨y∈o:=by
 intro k
 induction k with
 | zero=>intro _;exact⟨rfl,rfl,fun y h=>List.mem_cons.1 h⟩
 | succ k ih=>
  intro h
  have hk:k<o.length:=by omega
  have e: (o.map (rd_T58 l)).getD k z58=rd_T58 l (rd o (k:Int)):=by
   rw[List.getD_eq_getElem?_getD,List.getElem?_map,List.getElem?_eq_getElem hk]
   simp[rd,List.getD,hk]
  unfold insI insK
  rw[e]
  split
  ·exact ih (by omega)
  ·refine⟨by rw[List.map_append,List.map_cons,List.map_take,List.map_drop];rfl,by rw[List.length_append,List.length_cons,List.length_take,List.length_drop];omega,fun y hy=>?_⟩
   rcases List.mem_append.1 hy with hy|hy
   ·exact .inr (List.mem_of_mem_take hy)
   ·rcases List.mem_cons.1 hy with hy|hy
    ·exact .inl hy
    ·exact .inr (List.mem_of_mem_drop hy)
theorem ordN_ok (l:List S58) (i:Nat): (ordN l i).map (rd_T58 l)=srtN l i∧(ordN l i).length=i∧∀ y∈ordN l i,0≤y∧y<(i:Int):=by
 induction i with
 | zero=>exact⟨rfl,rfl,fun y h=>absurd h List.not_mem_nil⟩
 | succ i ih=>
  obtain⟨h1,h2,h3⟩:=ih
  obtain⟨g1,g2,g3⟩:=insI_map l i (ordN l i) i (by omega)
  unfold ordN srtN
  refine⟨by rw[g1,h1],by rw[g2,h2],fun y hy=>?_⟩
  rcases g3 y hy with e|e
  ·omega
  ·have:=h3 y e;omega
set_option maxHeartbeats 4000000 in
theorem l9Sorted_ev (l:List S58) (hl:l.length≤1000):Ev (fun k=>spec_l9Sorted.f k l) (ordN l l.length):=by
 unfold spec_l9Sorted.f
 have key:=down (P:=fun i=>Ev (fun k=>spec_l9Sorted.l0 k l (ordN l i) (i:Int)) (ordN l l.length)) (n:=l.length)
  (ev_now (fun k=>by simp only[spec_l9Sorted.l0];rw[if_neg (by omega)]))
  (fun i hi ih=>by
   obtain⟨h1,h2,h3⟩:=ordN_ok l i
   have inner:∀ q,q≤i→insI l i (ordN l i) q=ordN l (i+1)→Ev (fun k=>spec_l9Sorted.l1 k l (ordN l i) (i:Int) (q:Int)) (ordN l l.length):=by
    intro q
    induction q with
    | zero=>
     intro _ he
     refine Ev.step (fun k=>?_) ih
     simp only[spec_l9Sorted.l1,Option.bind_some,List.nil_append,List.length_nil,Nat.zero_add]
     rw[if_neg (by omega),if_pos (by omega),if_pos (by omega)]
     simp only[l1Own_eq _ (show((ordN l i).take ((0:Nat):Int).toNat).length≤1048576 by rw[List.length_take];omega),Option.bind_some]
     rw[if_pos (by simp),if_pos (by simp;omega),w64s hi (by omega),←he]
     simp[insI]
    | succ q ihq=>
     intro hq he
     have hm:rd (ordN l i) (q:Int)∈ordN l i:=mem_of_rd (by omega)
     have hb:=h3 _ hm
     have e1:wrap64 (((q+1:Nat):Int)-1)=(q:Int):=by rw[w64 (by omega) (by omega)];omega
     have hgi:rd_T58 l (i:Int)=l.getD i z58:=rfl
     by_cases hlt: (l.getD i z58).f0<(rd_T58 l (rd (ordN l i) (q:Int))).f0
     ·have he':insI l i (ordN l i) q=ordN l (i+1):=by rw[←he];exact(if_pos hlt).symm
      refine Ev.step (fun k=>?_) (ihq (by omega) he')
      simp only[spec_l9Sorted.l1,e1,hgi]
      rw[if_pos (by omega),if_pos (by omega),if_pos (by omega),if_pos (by omega),if_pos (by omega),if_pos (by omega),if_pos (by omega),if_pos hlt]
     ·have he': (ordN l i).take (q+1)++(i:Int):: (ordN l i).drop (q+1)=ordN l (i+1):=by rw[←he];exact(if_neg hlt).symm
      refine Ev.step (fun k=>?_) ih
      simp only[spec_l9Sorted.l1,e1,hgi]
      rw[if_pos (by omega),if_pos (by omega),if_pos (by omega),if_pos (by omega),if_pos (by omega),if_pos (by omega),if_pos (by omega),if_neg hlt,if_pos (by omega),if_pos (by omega)]
      simp only[Int.toNat_natCast,l1Own_eq _ (show((ordN l i).take (q+1)).length≤1048576 by rw[List.length_take];omega),Option.bind_some]
      rw[if_pos (by simp;omega),if_pos (by simp;omega),w64s hi (by omega),←he']
      simp
   refine Ev.step (fun k=>?_) (inner i (Nat.le_refl _) rfl)
   simp only[spec_l9Sorted.l0,h2]
   rw[if_pos (by omega)])
 exact key 0 (by omega)
theorem srtN_getD {l:List S58} {m i:Nat} (h:i<m): (srtN l m).getD i z58=rd_T58 l (rd (ordN l m) (i:Int)):=by
 obtain⟨h1,h2,h3⟩:=ordN_ok l m
 rw[←h1,List.getD_eq_getElem?_getD,List.getElem?_map,List.getElem?_eq_getElem (by omega)]
 simp[rd,List.getD,h2,h]
def okS1 (n:Nat) (x:S58):Prop:=(0≤x.f0∧x.f0≤n-1)∧0≤x.f1∧x.f1≤12
theorem srtN_ok {n:Nat} {l:List S58} (hv:sensV (n:Int) false l=true):∀ y∈srtN l l.length,okS1 n y:=
 srtN_mem (P:=okS1 n) (sens_of hv).2.2 l.length (Nat.le_refl _)
theorem getD_mem' {l:List S58} {i:Nat} (h:i<l.length):l.getD i z58∈l:=by
 rw[List.getD_eq_getElem?_getD,List.getElem?_eq_getElem h]
 exact List.getElem_mem _
set_option maxHeartbeats 4000000 in
theorem l9InOrder_ev {n:Nat} {d:Int} {l:List S58} (hv:sensV (n:Int) false l=true) (hd:0≤d∧d≤24):Ev (fun k=>spec_l9InOrder.f k (n:Int) false l (ordN l l.length) d) (decide ((n:Int)≤grd n d 0 0 (srtN l l.length))):=by
 have h:=sens_of hv
 have hs:=h.1.1
 obtain⟨h1,h2,h3⟩:=ordN_ok l l.length
 unfold spec_l9InOrder.f
 have hlen:=srtN_len l l.length
 have key:=down (P:=fun i=>∀ f b:Int,0≤f→f≤36→0≤b→b≤n-1→Ev (fun k=>spec_l9InOrder.l0 k l (ordN l l.length) d f b (i:Int) (n:Int) false) (decide ((n:Int)≤grd n d f b ((srtN l l.length).drop i)))) (n:=l.length)
  (fun f b _ _ _ _=>ev_now (fun k=>by
   simp only[spec_l9InOrder.l0]
   rw[if_neg (by omega),List.drop_of_length_le (by omega)]
   rfl))
  (fun i hi ih f b hf0 hf1 hb0 hb1=>by
   have hm:rd (ordN l l.length) (i:Int)∈ordN l l.length:=mem_of_rd (by omega)
   have hb:=h3 _ hm
   have hx: (srtN l l.length).getD i z58=rd_T58 l (rd (ordN l l.length) (i:Int)):=srtN_getD hi
   have hsc:=srtN_ok hv ((srtN l l.length).getD i z58) (getD_mem' (by omega))
   rw[drop_consG z58 (by omega)]
   obtain⟨x,hg⟩:∃ x,rd_T58 l (rd (ordN l l.length) (i:Int))=x:=⟨_,rfl⟩
   rw[hx,hg]at hsc⊢
   unfold okS1 at hsc
   have hp:=plc_le n d x.f0 x.f1 f
   have hmx:=mx_ge b (x.f0-d)
   have e1:wrap64 (x.f0-d)=x.f0-d:=w64 (by omega) (by omega)
   have e2:spec_l9Place.f (n:Int) false x.f0 x.f1 f d=some (plv n d x.f0 x.f1 f):=l9Place_eq hs hd hsc.1 hsc.2 ⟨hf0,hf1⟩
   have hpv:plv n d x.f0 x.f1 f=plc n d x.f0 x.f1 f∨plv n d x.f0 x.f1 f=-1:=by unfold plv;split<;>simp
   have eg:grd n d f b (x:: (srtN l l.length).drop (i+1))=if f<n∧mx b (x.f0-d)≤plv n d x.f0 x.f1 f then grd n d (plv n d x.f0 x.f1 f+x.f1+1) (plv n d x.f0 x.f1 f) ((srtN l l.length).drop (i+1))else grd n d f (mx b (x.f0-d)) ((srtN l l.length).drop (i+1)):=rfl
   rw[eg]
   by_cases hfn:f<n
   ·by_cases hpl:mx b (x.f0-d)≤plv n d x.f0 x.f1 f
    ·rw[if_pos ⟨hfn,hpl⟩]
     refine Ev.step (fun k=>?_) (ih (plv n d x.f0 x.f1 f+x.f1+1) (plv n d x.f0 x.f1 f) (by omega) (by omega) (by omega) (by omega))
     simp only[spec_l9InOrder.l0,hg,l1Most_eq,e1,e2,Option.bind_some]
     rw[if_pos (by omega),if_pos (by omega),if_pos (by omega),if_pos (by omega),if_pos hfn,if_pos (by omega),w64s hi (by omega),w64 (x:=plv n d x.f0 x.f1 f+x.f1) (by omega) (by omega),w64 (by omega) (by omega)]
    ·rw[if_neg (fun c=>hpl c.2)]
     refine Ev.step (fun k=>?_) (ih f (mx b (x.f0-d)) hf0 hf1 (by omega) (by omega))
     simp only[spec_l9InOrder.l0,hg,l1Most_eq,e1,e2,Option.bind_some]
     rw[if_pos (by omega),if_pos (by omega),if_pos (by omega),if_pos (by omega),if_pos hfn,if_neg (by omega),w64s hi (by omega)]
   ·rw[if_neg (fun c=>hfn c.1)]
    refine Ev.step (fun k=>?_) (ih f (mx b (x.f0-d)) hf0 hf1 (by omega) (by omega))
    simp only[spec_l9InOrder.l0,hg,l1Most_eq,e1,e2,Option.bind_some]
    rw[if_pos (by omega),if_pos (by omega),if_pos (by omega),if_pos (by omega),if_neg hfn,w64s hi (by omega)])
 have:=key 0 (by omega) 0 0 (by omega) (by omega) (by omega) (by omega)
 simpa using this
theorem at_mid (A:List S58) (x:S58) (B:List S58):rd_T58 (A++x::B) (A.length:Int)=x:=by
 show(A++x::B).getD (A.length:Int).toNat z58=x
 simp[List.getD]
theorem set_midS (A:List S58) (x v:S58) (B:List S58): (A++x::B).set A.length v=A++v::B:=by
 rw[List.set_append_right _ _ (Nat.le_refl _)];simp
theorem swap_midS (A:List S58) (x y:S58) (B:List S58): ((A++y::x::B).set (A.length+1) y).set A.length x=A++x::y::B:=by
 have h:A++y::x::B=(A++[y])++x::B:=by simp
 rw[h,show A.length+1=(A++[y]).length by simp,set_midS,List.append_assoc,List.singleton_append,set_midS]
set_option maxHeartbeats 4000000 in
theorem insertS_ev (n i:Int) (r:List S58) (x:S58) (O:List S58) (hx:0≤x.f0∧x.f0≤1000) (hO:∀ y∈O,0≤y.f0∧y.f0≤1000) (C:List S58) (hb:O.length+C.length+1≤1048576) (N:Nat) (hN:insK x O N++C=insK x O N++C)
  (h:Ev (fun k=>impl_Sensor_87.l0 k (insK x O N++C) 0 n (wrap64 (i+1))) r):∀ q,q≤O.length→insK x O q=insK x O N→
  Ev (fun k=>impl_Sensor_87.l1 k (O.take q++x:: (O.drop q++C)) 0 n i (q:Int)) r:=by
 intro q
 induction q with
 | zero=>
  intro _ he
  refine Ev.step (fun k=>?_) h
  simp only[impl_Sensor_87.l1]
  rw[if_neg (by omega),←he]
  simp[insK]
 | succ q ih=>
  intro hq he
  have hqO:q<O.length:=by omega
  have ht:O.take (q+1)=O.take q++[O.getD q z58]:=by
   rw[List.take_succ_eq_append_getElem hqO];congr 1;simp[List.getD,hqO]
  have hdr:O.drop q=O.getD q z58::O.drop (q+1):=drop_consG z58 hqO
  have hA: (O.take q).length=q:=by rw[List.length_take];omega
  have hD: (O.drop (q+1)).length=O.length-(q+1):=List.length_drop
  have hy:=hO _ (getD_mem' hqO)
  have e0:O.take (q+1)++x:: (O.drop (q+1)++C)=O.take q++O.getD q z58::x:: (O.drop (q+1)++C):=by rw[ht];simp
  have e1:rd_T58 (O.take q++O.getD q z58::x:: (O.drop (q+1)++C)) ((q+1:Nat):Int)=x:=by
   have:=at_mid (O.take q++[O.getD q z58]) x (O.drop (q+1)++C)
   rw[List.length_append,List.length_singleton,hA,List.append_assoc]at this
   exact this
  have e2:rd_T58 (O.take q++O.getD q z58::x:: (O.drop (q+1)++C)) (q:Int)=O.getD q z58:=by
   have:=at_mid (O.take q) (O.getD q z58) (x:: (O.drop (q+1)++C))
   rw[hA]at this;exact this
  have e3:wrap64 (((q+1:Nat):Int)-1)=(q:Int):=by rw[w64 (by omega) (by omega)];omega
  have hlen: (O.take q++O.getD q z58::x:: (O.drop (q+1)++C)).length=O.length+C.length+1:=by simp[hA,hD];omega
  have e4:impl_placeCmp.f x.f0 x.f1 (O.getD q z58).f0 (O.getD q z58).f1=some (x.f0-(O.getD q z58).f0):=by unfold impl_placeCmp.f;rw[w64 (by omega) (by omega)]
  have es: (⟨x.f0,x.f1⟩:S58)=x:=rfl
  have ey: (⟨(O.getD q z58).f0,(O.getD q z58).f1⟩:S58)=O.getD q z58:=rfl
  rw[e0]
  by_cases hlt:x.f0<(O.getD q z58).f0
  ·have he':insK x O q=insK x O N:=by rw[←he];exact(if_pos hlt).symm
   have h2:=ih (by omega) he'
   rw[hdr]at h2
   refine Ev.step (fun k=>?_) h2
   simp only[impl_Sensor_87.l1,e1,e2,e3,e4,es,ey,hlen,Option.bind_some,Int.toNat_natCast]
   rw[if_pos (by omega),if_pos (by omega),if_pos (by omega),if_pos (by omega),if_pos (by omega),if_pos (by omega)]
   have:=swap_midS (O.take q) x (O.getD q z58) (O.drop (q+1)++C)
   rw[hA]at this
   rw[this];simp
  ·have he':O.take (q+1)++x::O.drop (q+1)=insK x O N:=by rw[←he];exact(if_neg hlt).symm
   refine Ev.step (fun k=>?_) h
   simp only[impl_Sensor_87.l1,e1,e2,e3,e4,es,ey,hlen,Option.bind_some]
   rw[if_pos (by omega),if_pos (by omega),if_pos (by omega),if_pos (by omega),if_pos (by omega),if_neg (by omega),←he',←e0]
   simp
theorem insSort_ev (l:List S58) (hl:l.length≤1000) (hb:∀ j,j<l.length→0≤(l.getD j z58).f0∧(l.getD j z58).f0≤1000) (a3:Int):Ev (fun k=>impl_Sensor_87.f k l 0 (l.length:Int) a3) (srtN l l.length):=by
 have key:=down (P:=fun i=>Ev (fun k=>impl_Sensor_87.l0 k (srtN l i++l.drop i) 0 (l.length:Int) (i:Int)) (srtN l l.length)) (n:=l.length)
  (ev_now (fun k=>by simp only[impl_Sensor_87.l0];rw[if_neg (by omega),List.drop_length,List.append_nil]))
  (fun i hi ih=>by
   have hO:=srtN_mem (P:=fun y=>0≤y.f0∧y.f0≤1000) hb i (by omega)
   have hOl:=srtN_len l i
   have hd:l.drop i=l.getD i z58::l.drop (i+1):=drop_consG z58 hi
   have hdl: (l.drop (i+1)).length=l.length-(i+1):=List.length_drop
   have h2:=insertS_ev (l.length:Int) (i:Int) (srtN l l.length) (l.getD i z58) (srtN l i) (hb i hi) hO (l.drop (i+1)) (by omega) i rfl (by rw[w64s hi (by omega)];exact ih) i (by omega) rfl
   rw[List.take_of_length_le (by omega),List.drop_of_length_le (by omega),List.nil_append,←hd]at h2
   refine Ev.step (fun k=>?_) h2
   simp only[impl_Sensor_87.l0]
   rw[if_pos (by omega)])
 unfold impl_Sensor_87.f
 rw[show wrap64 ((0:Int)+1)=((1:Nat):Int)by rw[w64 (by omega) (by omega)];rfl]
 rcases Nat.lt_or_ge l.length 1 with h0|h0
 ·obtain rfl:=List.length_eq_zero_iff.1 (Nat.lt_one_iff.1 h0)
  refine ev_now (fun k=>?_)
  simp only[impl_Sensor_87.l0]
  rw[if_neg (by simp)]
  rfl
 ·have k1:=key 1 h0
  have e:srtN l 1++l.drop 1=l:=by
   obtain⟨x,t,rfl⟩:=List.exists_cons_of_length_pos h0
   rfl
  rw[e]at k1
  exact k1
theorem sortS_ev (l:List S58) (hl:l.length≤6) (hb:∀ j,j<l.length→0≤(l.getD j z58).f0∧(l.getD j z58).f0≤1000) (a:Int):Ev (fun k=>impl_Sensor_64.f k l a) (srtN l l.length):=by
 unfold impl_Sensor_64.f
 refine Ev.bind (f:=fun _ t=>some t) ?_ (Ev.now _)
 unfold impl_Sensor_83.f
 refine Ev.step (f:=fun k=>(impl_Sensor_87.f k l 0 (l.length:Int) a).bind fun t=>impl_Sensor_83.l1 k t (l.length:Int) 20) (fun k=>by simp only[impl_Sensor_83.l0];rw[if_neg (by omega)]) (Ev.bind (insSort_ev l (by omega) hb a) ?_)
 exact ev_now (fun k=>by simp only[impl_Sensor_83.l1];rw[if_neg (by omega)])
theorem rep_eq (k:Nat) (v:Int) (n:Nat) (h:n≤24):slices_Repeat_int_int.f k [v] (n:Int)=some (List.replicate n v):=by
 show(if 0≤(n:Int)∧(n:Int)≤24 then some (List.replicate (n:Int).toNat v)else none)=_
 rw[if_pos (by omega),Int.toNat_natCast]
def resE (n:Nat) (E:List Int):Bool:=decide ((n:Int)≤rmax (rd E 0) (fun j=>rd E ((j+1:Nat):Int)) (n-1))
set_option maxHeartbeats 4000000 in
theorem canLoop_ev {n:Nat} {d:Int} (hs:2≤n∧n≤24) (hd:0≤d∧d≤24) (S:List S58) (hS:∀ x∈S,okS1 n x) (hm:S.length≤1000):∀ i,i≤S.length→∀ E:List Int,E.length=n→Ev (fun k=>impl_CanInOrder.l0 k d E S (S.length:Int) (i:Int) (n:Int) false) (resE n (dpS n d E (S.drop i)),true):=by
 refine down (P:=fun i=>∀ E:List Int,E.length=n→Ev (fun k=>impl_CanInOrder.l0 k d E S (S.length:Int) (i:Int) (n:Int) false) (resE n (dpS n d E (S.drop i)),true)) (n:=S.length) ?_ ?_
 ·intro E hE
  refine Ev.step (f:=fun k=>(slices_Max_int_int.f k E).bind fun t=>some (decide (t≥(n:Int)),true)) (fun k=>by simp only[impl_CanInOrder.l0];rw[if_neg (by omega)]) (Ev.bind (slicesMax_ev E (by omega) (by omega)) ?_)
  rw[List.drop_of_length_le (Nat.le_refl _),hE]
  exact Ev.now _
 ·intro i hi ih E hE
  rw[drop_consG z58 hi]
  have hx:=hS _ (getD_mem' hi)
  obtain⟨x,hg⟩:∃ x,S.getD i z58=x:=⟨_,rfl⟩
  have hg':rd_T58 S (i:Int)=x:=hg
  rw[hg]at hx⊢
  unfold okS1 at hx
  have key:=down (P:=fun p=>Ev (fun k=>impl_CanInOrder.l1 k d E (tab n (fun q=>if q<p then nxt d x.f0 x.f1 E q else-1)) (pm E p) S (S.length:Int) (i:Int) (n:Int) (p:Int) (n:Int) false x.f0 x.f1) (resE n (dpS n d E (x::S.drop (i+1))),true)) (n:=n)
   (by
    have h2:=ih (tab n (nxt d x.f0 x.f1 E)) (tab_len _ _)
    refine Ev.step (fun k=>?_) h2
    simp only[impl_CanInOrder.l1]
    rw[if_neg (by omega),w64s hi (by omega)]
    congr 1
    exact tab_congr (fun q hq=>by rw[if_pos hq]))
   (fun p hp ihp=>by
    have hpm:mx (pm E p) (rd E (p:Int))=pm E (p+1):=rfl
    have hgp:=gap_eq (n:Int) x.f0 (p:Int) (by omega) (by omega)
    have hl: (tab n (fun q=>if q<p then nxt d x.f0 x.f1 E q else-1)).length=n:=tab_len _ _
    have hsame:nxt d x.f0 x.f1 E p=-1→tab n (fun q=>if q<p then nxt d x.f0 x.f1 E q else-1)=tab n (fun q=>if q<p+1 then nxt d x.f0 x.f1 E q else-1):=fun hn=>tab_congr (fun q _=>by
     by_cases c:q<p
     ·rw[if_pos c,if_pos (by omega)]
     ·rw[if_neg c]
      by_cases c2:q=p
      ·subst c2;rw[if_pos (by omega),hn]
      ·rw[if_neg (by omega)])
    have hset:∀ v,nxt d x.f0 x.f1 E p=v→(tab n (fun q=>if q<p then nxt d x.f0 x.f1 E q else-1)).set p v=tab n (fun q=>if q<p+1 then nxt d x.f0 x.f1 E q else-1):=fun v hn=>by
     rw[tab_set]
     refine tab_congr (fun q _=>?_)
     by_cases c2:q=p
     ·subst c2;rw[if_pos rfl,if_pos (by omega),hn]
     ·rw[if_neg c2]
      by_cases c:q<p
      ·rw[if_pos c,if_pos (by omega)]
      ·rw[if_neg c,if_neg (by omega)]
    by_cases c1:pm E (p+1)<0
    ·have hn:nxt d x.f0 x.f1 E p=-1:=by unfold nxt;rw[if_pos c1]
     rw[←hsame hn]at ihp
     refine Ev.step (f:=fun k=>impl_CanInOrder.j3 k d E (tab n (fun q=>if q<p then nxt d x.f0 x.f1 E q else-1)) (pm E (p+1)) (p:Int) S (S.length:Int) (i:Int) (n:Int) (p:Int) true (n:Int) false x.f0 x.f1) (fun k=>?_) (Ev.step (fun k=>by simp only[impl_CanInOrder.j3];rw[if_pos True.intro,w64s hp (by omega)]) ihp)
     simp only[impl_CanInOrder.l1,hpm]
     rw[if_pos (by omega),if_pos (by omega),if_pos (by omega),if_pos c1]
    ·refine Ev.step (f:=fun k=>impl_CanInOrder.j3 k d E (tab n (fun q=>if q<p then nxt d x.f0 x.f1 E q else-1)) (pm E (p+1)) (p:Int) S (S.length:Int) (i:Int) (n:Int) (p:Int) (decide (mx (x.f0-p) ((p:Int)-x.f0)>d)) (n:Int) false x.f0 x.f1) (fun k=>?_) ?_
     ·simp only[impl_CanInOrder.l1,hpm,hgp,Option.bind_some]
      rw[if_pos (by omega),if_pos (by omega),if_pos (by omega),if_neg c1]
     ·by_cases c2:mx (x.f0-p) ((p:Int)-x.f0)>d
      ·have hn:nxt d x.f0 x.f1 E p=-1:=by unfold nxt;rw[if_neg c1,if_pos c2]
       rw[←hsame hn]at ihp
       exact Ev.step (fun k=>by simp only[impl_CanInOrder.j3];rw[if_pos (decide_eq_true c2),w64s hp (by omega)]) ihp
      ·by_cases c3: (p:Int)-x.f1≤pm E (p+1)
       ·have hn:nxt d x.f0 x.f1 E p=mx (pm E (p+1)) ((p:Int)+x.f1+1):=by unfold nxt;rw[if_neg c1,if_neg c2,if_pos c3]
        rw[←hset _ hn]at ihp
        refine Ev.step (fun k=>?_) ihp
        simp only[impl_CanInOrder.j3,Option.bind_some,Int.toNat_natCast,hl]
        rw[if_neg (by rw[decide_eq_false c2];decide),if_pos (by omega),if_pos (by omega),w64 (x:=(p:Int)-x.f1) (by omega) (by omega),if_pos c3,w64s hp (by omega),w64 (x:=(p:Int)+x.f1) (by omega) (by omega),w64 (by omega) (by omega)]
        congr 1
        simp[List.set_set]
       ·have hn:nxt d x.f0 x.f1 E p=pm E (p+1):=by unfold nxt;rw[if_neg c1,if_neg c2,if_neg c3]
        rw[←hset _ hn]at ihp
        refine Ev.step (fun k=>?_) ihp
        simp only[impl_CanInOrder.j3,Option.bind_some,Int.toNat_natCast,hl]
        rw[if_neg (by rw[decide_eq_false c2];decide),if_pos (by omega),if_pos (by omega),w64 (x:=(p:Int)-x.f1) (by omega) (by omega),if_neg c3,w64s hp (by omega)])
  have k0:=key 0 (by omega)
  have e0:tab n (fun q=>if q<0 then nxt d x.f0 x.f1 E q else-1)=List.replicate n (-1):=by
   rw[tab_rep]
   exact tab_congr (fun q _=>by rw[if_neg (by omega)])
  rw[e0]at k0
  refine Ev.step (fun k=>?_) k0
  simp only[impl_CanInOrder.l0,rep_eq _ _ n hs.2,Option.bind_some,hg']
  rw[if_pos (by omega),if_pos (by omega),if_pos (by omega)]
  rfl
def inOrdB (s d:Int) (l:List S58):Bool:=decide (s≤grd s d 0 0 (srtN l l.length))
theorem resE_eq {n:Nat} {d:Int} {l:List S58} (hv:sensV (n:Int) false l=true) (hd:0≤d∧d≤24):resE n (dpS n d (tab n (fun q=>if q=0 then 0 else-1)) (srtN l l.length))=inOrdB (n:Int) d l:=by
 have h:=sens_of hv
 have hs:=h.1.1
 obtain⟨hl,hiff⟩:=dp_iff (n:=n) (by omega) hd (srtN l l.length) (srtN_pw l l.length) (srtN_ok hv)
 unfold resE inOrdB
 rw[Bool.eq_iff_iff,decide_eq_true_iff,decide_eq_true_iff,←hiff]
 generalize dpS n d (tab n (fun q=>if q=0 then 0 else-1)) (srtN l l.length)=E at*
 constructor
 ·intro hle
  rcases rmax_mem (rd E 0) (fun j=>rd E ((j+1:Nat):Int)) (n-1)with e|⟨j,hj,e⟩
  ·exact⟨0,by omega,by rw[e]at hle;exact hle⟩
  ·exact⟨j+1,by omega,by rw[e]at hle;exact hle⟩
 ·rintro⟨q,hq,hle⟩
  have:=rmax_ge (rd E 0) (fun j=>rd E ((j+1:Nat):Int)) (n-1)
  cases q with
  | zero=>exact Int.le_trans hle this.1
  | succ q=>exact Int.le_trans hle (this.2 q (by omega))
def askO (s:Int) (r:Bool) (l:List S58) (d:Int):Bool:=sensV s r l&&inR 0 24 d
def inOrdR (s:Int) (r:Bool) (l:List S58) (d:Int):Bool × Bool:=if askO s r l d=true then(inOrdB s d l,true)else(false,false)
theorem specInOrd_ev (s:Int) (r:Bool) (l:List S58) (d:Int) (hl:l.length≤1048576):Ev (fun k=>spec_CanInOrder.f k s r l d) (inOrdR s r l d):=by
 have ha:Ev (fun k=>spec_l9Asks.f k s r l d) (askO s r l d):=by
  unfold spec_l9Asks.f askO
  refine Ev.bind (l9Sensors_ev s r l hl) ?_
  simp only[l1In_eq,Option.bind_some]
  cases sensV s r l with
  | true=>exact ev_pos rfl (Ev.now _)
  | false=>exact ev_neg (by simp) (Ev.now _)
 unfold spec_CanInOrder.f inOrdR
 refine Ev.bind ha ?_
 cases hv:askO s r l d with
 | true=>
  have h:=hv
  unfold askO at h
  rw[Bool.and_eq_true,inR_iff]at h
  have h6:=sens_of h.1
  obtain⟨n,rfl⟩:∃ n:Nat,s=n:=⟨s.toNat,by omega⟩
  have hr:=h6.1.2
  subst hr
  exact ev_pos rfl (Ev.bind (l9Sorted_ev l (by omega)) (Ev.bind (l9InOrder_ev h.1 h.2) (Ev.now _)))
 | false=>exact ev_neg (by simp) (Ev.now _)
theorem implInOrd_ev (s:Int) (r:Bool) (l:List S58) (d:Int) (hl:l.length≤1048576):Ev (fun k=>impl_CanInOrder.f k s r l d) (inOrdR s r l d):=by
 unfold impl_CanInOrder.f inOrdR askO
 simp only[impl_isMove.f,within_eq,Option.bind_some]
 refine Ev.bind (isGuarded_ev s r l hl) ?_
 cases hv:sensV s r l with
 | true=>
  have h6:=sens_of hv
  obtain⟨n,rfl⟩:∃ n:Nat,s=n:=⟨s.toNat,by omega⟩
  have hr:=h6.1.2
  subst hr
  refine ev_pos rfl ?_
  cases hd:inR 0 24 d with
  | true=>
   have hd':=inR_iff.1 hd
   rw[if_pos (by rfl)]
   have hc:impl_Sensor_63.f l=some l:=by
    unfold impl_Sensor_63.f
    simp only[Option.bind_some,List.length_nil,List.nil_append]
    rw[if_pos (by omega)]
   refine Ev.step (f:=fun k=>(impl_Sensor_64.f k l 0).bind fun t=>impl_CanInOrder.l0 k d (tab n (fun q=>if q=0 then 0 else-1)) t (l.length:Int) 0 (n:Int) false) (fun k=>?_) (Ev.bind (sortS_ev l h6.2.1 (fun j hj=>by have:=(h6.2.2 j hj).1;omega) 0) ?_)
   ·simp only[impl_CanInOrder.j0,hc,Option.bind_some,rep_eq _ _ n (by omega)]
    rw[if_neg (by decide)]
    congr 1
    funext t
    rw[if_pos (by simp;omega),tab_rep,tab_set]
    congr 1
   ·have:=canLoop_ev (n:=n) (by omega) hd' (srtN l l.length) (srtN_ok hv) (by rw[srtN_len];omega) 0 (by omega) (tab n (fun q=>if q=0 then 0 else-1)) (tab_len _ _)
    rw[srtN_len]at this
    rw[List.drop_zero,resE_eq hv hd']at this
    exact this
  | false=>
   rw[if_neg (by simp)]
   exact ev_now (fun k=>by simp only[impl_CanInOrder.j0];rw[if_pos (by rfl)])
 | false=>
  refine ev_neg (by simp) ?_
  rw[if_neg (by simp)]
  exact ev_now (fun k=>by simp only[impl_CanInOrder.j0];rw[if_pos True.intro])
def see (l:List S58) (p:Nat) (j:Nat):Int:=if mx ((l.getD j z58).f0-p) ((p:Int)-(l.getD j z58).f0)≤(l.getD j z58).f1 then 1 else 0
def seenP (l:List S58) (p:Nat):Int:=sm l.length (see l p)
def seenL (n:Nat) (l:List S58):List Int:=tab n (seenP l)
def seenT (n:Nat) (l:List S58) (p i:Nat):List Int:=tab n (fun q=>if q<p then seenP l q else if q=p then sm i (see l q)else 0)
theorem see_bd (l:List S58) (p i:Nat):0≤sm i (see l p)∧sm i (see l p)≤i:=sm_bound (fun q=>by unfold see;split<;>omega) i
theorem seenT_next (n:Nat) (l:List S58) (p:Nat):seenT n l p l.length=seenT n l (p+1) 0:=by
 refine tab_congr (fun q _=>?_)
 by_cases h1:q<p
 ·rw[if_pos h1,if_pos (by omega)]
 ·rw[if_neg h1]
  by_cases h2:q=p
  ·rw[if_pos h2,if_pos (by omega)];rfl
  ·rw[if_neg h2,if_neg (by omega)]
   split<;>rfl
theorem seenT_step {n:Nat} {l:List S58} {p i:Nat} (hp:p<n) (hi:i≤1000): (if mx ((l.getD i z58).f0-p) ((p:Int)-(l.getD i z58).f0)≤(l.getD i z58).f1 then(seenT n l p i).set p (wrap64 (rd (seenT n l p i) (p:Int)+1))else seenT n l p i)=seenT n l p (i+1):=by
 have hb:=see_bd l p i
 by_cases h:mx ((l.getD i z58).f0-p) ((p:Int)-(l.getD i z58).f0)≤(l.getD i z58).f1
 ·rw[if_pos h]
  unfold seenT
  rw[tab_rd hp,if_neg (by omega),if_pos rfl,w64 (by omega) (by omega),tab_set]
  refine tab_congr (fun q _=>?_)
  by_cases e:q=p
  ·subst e
   rw[if_pos rfl,if_neg (by omega),if_pos rfl,sm_succ]
   congr 1
   unfold see;rw[if_pos h]
  ·rw[if_neg e]
   by_cases h1:q<p
   ·rw[if_pos h1,if_pos h1]
   ·rw[if_neg h1,if_neg h1,if_neg e,if_neg e]
 ·rw[if_neg h]
  refine tab_congr (fun q _=>?_)
  by_cases h1:q<p
  ·rw[if_pos h1,if_pos h1]
  ·rw[if_neg h1,if_neg h1]
   by_cases e:q=p
   ·subst e
    rw[if_pos rfl,if_pos rfl,sm_succ]
    have:see l q i=0:=by unfold see;rw[if_neg h]
    omega
   ·rw[if_neg e,if_neg e]
theorem seenT_zero (n:Nat) (l:List S58):List.replicate n 0=seenT n l 0 0:=by
 rw[tab_rep]
 refine tab_congr (fun q _=>?_)
 rw[if_neg (by omega)]
 split<;>rfl
theorem seenT_end (n:Nat) (l:List S58):seenT n l n 0=seenL n l:=tab_congr (fun q hq=>by rw[if_pos hq])
theorem seenT_len (n:Nat) (l:List S58) (p i:Nat): (seenT n l p i).length=n:=tab_len _ _
theorem implSeen_ev (n:Nat) (l:List S58) (hv:sensV (n:Int) false l=true):Ev (fun k=>impl_Road_seen.f k (n:Int) false l) (seenL n l):=by
 have h:=sens_of hv
 have key:=down (P:=fun p=>Ev (fun k=>impl_Road_seen.l0 k l (seenT n l p 0) (n:Int) (p:Int) (n:Int) false) (seenL n l)) (n:=n)
  (ev_now (fun k=>by simp only[impl_Road_seen.l0];rw[if_neg (by omega),seenT_end]))
  (fun p hp ih=>by
   refine Ev.step (f:=fun k=>impl_Road_seen.l1 k l (seenT n l p 0) (p:Int) (n:Int) (p:Int) l (l.length:Int) ((0:Nat):Int) (n:Int) false) (fun k=>by simp only[impl_Road_seen.l0];rw[if_pos (by omega)];rfl) ?_
   have inner:=down (P:=fun i=>Ev (fun k=>impl_Road_seen.l1 k l (seenT n l p i) (p:Int) (n:Int) (p:Int) l (l.length:Int) (i:Int) (n:Int) false) (seenL n l)) (n:=l.length)
    (by
     refine Ev.step (fun k=>?_) ih
     simp only[impl_Road_seen.l1]
     rw[if_neg (by omega),w64s hp (by omega),seenT_next])
    (fun i hi ihi=>by
     have hc:=(h.2.2 i hi).1
     rw[←seenT_step hp (by omega)]at ihi
     refine Ev.step (fun k=>?_) ihi
     simp only[impl_Road_seen.l1,rdT_nat]
     rw[if_pos (by omega),if_pos (by omega),if_pos (by omega),gap_eq _ _ _ (by omega) (by omega),Option.bind_some,w64s hi (by omega),if_pos (by omega),if_pos (by rw[seenT_len];omega),Int.toNat_natCast]
     by_cases hg:mx ((l.getD i z58).f0-p) ((p:Int)-(l.getD i z58).f0)≤(l.getD i z58).f1
     ·simp only[hg,if_true]
     ·simp only[hg,if_false])
   exact inner 0 (by omega))
 unfold impl_Road_seen.f
 refine ev_pos (by omega) (ev_pos (by omega) ?_)
 simp only[Option.bind_some]
 rw[Int.toNat_natCast,seenT_zero n l,seenT_len]
 exact key 0 (by omega)
theorem sens_nat {s:Int} {r:Bool} {l:List S58} (h:sensV s r l=true):∃ n:Nat,s=n∧r=false∧2≤n∧n≤24:=by
 have:=sens_of h
 exact⟨s.toNat,by omega,this.1.2,by omega,by omega⟩
theorem slicesMin_ev (l:List Int) (h0:0<l.length) (hl:l.length≤1048576):Ev (fun k=>slices_Min_int_int.f k l) (rmin (rd l 0) (fun j=>rd l ((j+1:Nat):Int)) (l.length-1)):=by
 have key:=down (P:=fun i=>Ev (fun k=>slices_Min_int_int.l0 k l (rmin (rd l 0) (fun j=>rd l ((j+1:Nat):Int)) i) ((i+1:Nat):Int)) (rmin (rd l 0) (fun j=>rd l ((j+1:Nat):Int)) (l.length-1))) (n:=l.length-1)
  (ev_now (fun k=>by simp only[slices_Min_int_int.l0];rw[if_neg (by omega)]))
  (fun i hi ih=>by
   refine Ev.step (fun k=>?_) ih
   simp only[slices_Min_int_int.l0]
   rw[if_pos (by omega),if_pos (by omega),w64s (n:=l.length) (by omega) (by omega)]
   rfl)
 unfold slices_Min_int_int.f
 exact ev_neg (by omega) (ev_pos (by omega) (key 0 (by omega)))
def strL (l:List Int):Int:=rmin (rd l 0) (fun j=>rd l ((j+1:Nat):Int)) (l.length-1)
def strR (s:Int) (r:Bool) (l:List S58):Int × Bool:=if sensV s r l=true then(strL (seenL s.toNat l),true)else(0,false)
theorem implStr_ev (s:Int) (r:Bool) (l:List S58) (hl:l.length≤1048576):Ev (fun k=>impl_StrengthOf.f k s r l) (strR s r l):=by
 unfold impl_StrengthOf.f strR
 refine Ev.bind (isGuarded_ev s r l hl) ?_
 cases hv:sensV s r l with
 | true=>
  obtain⟨n,rfl,rfl,h2,h3⟩:=sens_nat hv
  have hlen: (seenL n l).length=n:=tab_len _ _
  exact ev_pos rfl (Ev.bind (implSeen_ev n l hv) (Ev.bind (slicesMin_ev (seenL n l) (by omega) (by omega)) (Ev.now _)))
 | false=>exact ev_neg (by simp) (Ev.now _)
def mvG (l:List S58) (P:List Int) (j:Nat):Int:=mx ((l.getD j z58).f0-rd P (j:Int)) (rd P (j:Int)-(l.getD j z58).f0)
def mvS (l:List S58) (P:List Int) (n:Nat):List S58:=tg n (fun q=>⟨rd P (q:Int),(l.getD q z58).f1⟩)
theorem mvS_succ (l:List S58) (P:List Int) (i:Nat):mvS l P i++[⟨rd P (i:Int),(l.getD i z58).f1⟩]=mvS l P (i+1):=tg_snoc i (fun q=>(⟨rd P (q:Int),(l.getD q z58).f1⟩:S58))
def mvOk (l:List S58) (P:List Int):List S58 × Int × Int × Bool:=(mvS l P l.length,rmax 0 (mvG l P) l.length,sm l.length (mvG l P),true)
def mvR (s:Int) (r:Bool) (l:List S58) (P:List Int):List S58 × Int × Int × Bool:=if sensV s r l=true∧P.length=l.length∧inAll 0 (s-1) P=true then mvOk l P else([],0,0,false)
theorem mvR_len (s:Int) (r:Bool) (l:List S58) (P:List Int) (hl:l.length≤1048576): (mvR s r l P).1.length≤1048576:=by
 unfold mvR
 split
 ·unfold mvOk mvS;simp only[tg_len];omega
 ·simp
theorem mvG_bd {s:Int} {l:List S58} {P:List Int} {j:Nat} (hs:2≤s∧s≤24) (hc:sC s l j) (hp:0≤rd P (j:Int)∧rd P (j:Int)≤s-1):0≤mvG l P j∧mvG l P j≤24:=by
 have:=mx_ge ((l.getD j z58).f0-rd P (j:Int)) (rd P (j:Int)-(l.getD j z58).f0)
 unfold sC at hc
 unfold mvG
 omega
theorem mvSum_bd {f:Nat→Int} {n i:Nat} (h:∀ j,j<i→0≤f j∧f j≤24):0≤sm i f∧sm i f≤24*i:=by
 induction i with
 | zero=>exact⟨Int.le_refl _,Int.le_refl _⟩
 | succ i ih=>
  have a:=ih (fun j hj=>h j (by omega))
  have b:=h i (by omega)
  rw[sm_succ]
  omega
theorem implMove_loop (s:Int) (l:List S58) (P:List Int) (hv:sensV s false l=true) (he:P.length=l.length) (hP:inAll 0 (s-1) P=true):Ev (fun k=>impl_MoveSensors.l0 k l [] 0 0 P (P.length:Int) 0 s false) (mvOk l P):=by
 have h:=sens_of hv
 have hp:∀ j,j<l.length→0≤rd P (j:Int)∧rd P (j:Int)≤s-1:=fun j hj=>inAll_iff.1 hP _ (mem_of_rd (by omega))
 have key:=down (P:=fun i=>Ev (fun k=>impl_MoveSensors.l0 k l (mvS l P i) (rmax 0 (mvG l P) i) (sm i (mvG l P)) P (P.length:Int) (i:Int) s false) (mvOk l P)) (n:=l.length)
  (ev_now (fun k=>by simp only[impl_MoveSensors.l0];rw[if_neg (by omega)];rfl))
  (fun i hi ih=>by
   have hcs:=h.2.2 i hi
   have hg:=mvG_bd h.1.1 hcs (hp i hi)
   have hsum:=mvSum_bd (n:=0) (i:=i) (f:=mvG l P) (fun j hj=>mvG_bd h.1.1 (h.2.2 j (by omega)) (hp j (by omega)))
   have hpi:=hp i hi
   unfold sC at hcs
   have eg:mx ((l.getD i z58).f0-rd P (i:Int)) (rd P (i:Int)-(l.getD i z58).f0)=mvG l P i:=rfl
   refine Ev.step (fun k=>?_) ih
   simp only[impl_MoveSensors.l0,rdT_nat]
   rw[if_pos (by omega),if_pos (by omega),if_pos (by omega),if_pos (by omega),gap_eq _ _ _ (by omega) (by omega),Option.bind_some,eg,if_pos (by unfold mvS;rw[tg_len];omega),mvS_succ,w64 (x:=sm i (mvG l P)+mvG l P i) (by omega) (by omega),w64s hi (by omega)]
   rfl)
 exact key 0 (by omega)
theorem specMove_loop (s:Int) (l:List S58) (P:List Int) (hv:sensV s false l=true) (he:P.length=l.length):Ev (fun k=>spec_MoveSensors.l0 k l P [] 0 0 0 s false) (if inAll 0 (s-1) P=true then mvOk l P else([],0,0,false)):=by
 have h:=sens_of hv
 have key:=down (P:=fun i=>(∀ j,j<i→0≤rd P (j:Int)∧rd P (j:Int)≤s-1)→Ev (fun k=>spec_MoveSensors.l0 k l P (mvS l P i) (rmax 0 (mvG l P) i) (sm i (mvG l P)) (i:Int) s false) (if inAll 0 (s-1) (P.drop i)=true then mvOk l P else([],0,0,false))) (n:=l.length)
  (fun _=>ev_now (fun k=>by
   simp only[spec_MoveSensors.l0]
   rw[if_neg (by omega),if_pos (by rw[←he,List.drop_length];rfl)]
   rfl))
  (fun i hi ih hp=>by
   have hcs:=h.2.2 i hi
   rw[drop_cons (by omega),inAll_cons]
   cases hr:inR 0 (s-1) (rd P (i:Int))with
   | true=>
    have hpi:=inR_iff.1 hr
    have hp':∀ j,j<i+1→0≤rd P (j:Int)∧rd P (j:Int)≤s-1:=fun j hj=>by
     by_cases e:j=i
     ·subst e;exact hpi
     ·exact hp j (by omega)
    have hg:=mvG_bd h.1.1 hcs hpi
    have hsum:=mvSum_bd (n:=0) (i:=i) (f:=mvG l P) (fun j hj=>mvG_bd h.1.1 (h.2.2 j (by omega)) (hp j (by omega)))
    unfold sC at hcs
    have eg:mx ((l.getD i z58).f0-rd P (i:Int)) (rd P (i:Int)-(l.getD i z58).f0)=mvG l P i:=rfl
    rw[Bool.true_and]
    refine Ev.step (fun k=>?_) (ih hp')
    simp only[spec_MoveSensors.l0,l1In_eq,l1Most_eq,Option.bind_some,rdT_nat]
    rw[if_pos (by omega),if_pos (by omega),if_pos (by omega),w64 (x:=s-1) (by omega) (by omega),if_pos hr,l2Gap_eq _ _ _ (by omega) (by omega),Option.bind_some,eg,if_pos (by unfold mvS;rw[tg_len];omega),mvS_succ,w64 (x:=sm i (mvG l P)+mvG l P i) (by omega) (by omega),w64s hi (by omega)]
    rfl
   | false=>
    refine ev_now (fun k=>?_)
    simp only[spec_MoveSensors.l0,l1In_eq,Option.bind_some,rdT_nat,Bool.false_and,Bool.false_eq_true,if_false]
    rw[if_pos (by omega),if_pos (by omega),if_pos (by omega),w64 (x:=s-1) (by omega) (by omega),hr]
    simp)
 exact key 0 (by omega) (fun j hj=>by omega)
theorem specMove_ev (s:Int) (r:Bool) (l:List S58) (P:List Int) (hl:l.length≤1048576):Ev (fun k=>spec_MoveSensors.f k s r l P) (mvR s r l P):=by
 unfold spec_MoveSensors.f mvR
 simp only[Option.bind_some]
 refine Ev.bind (l9Sensors_ev s r l hl) ?_
 have hno:Ev (fun k=>spec_MoveSensors.j0 k l P [] true s r) (([],0,0,false):List S58 × Int × Int × Bool):=ev_now (fun k=>by simp only[spec_MoveSensors.j0,if_true])
 cases hv:sensV s r l with
 | true=>
  have hr:=(sens_of hv).1.2
  subst hr
  refine ev_pos rfl ?_
  by_cases he:P.length=l.length
  ·have e: ((P.length:Int) !=(l.length:Int))=false:=by rw[he];simp
   rw[e]
   refine Ev.step (fun k=>by simp only[spec_MoveSensors.j0,Bool.false_eq_true,if_false];rfl) ?_
   have:=specMove_loop s l P hv he
   by_cases ha:inAll 0 (s-1) P=true
   ·rw[if_pos ⟨rfl,he,ha⟩];rwa [if_pos ha]at this
   ·rw[if_neg (fun h=>ha h.2.2)];rwa [if_neg ha]at this
  ·have e: ((P.length:Int) !=(l.length:Int))=true:=by simp;omega
   rw[e,if_neg (fun h=>he h.2.1)]
   exact hno
 | false=>
  rw[if_neg (fun h=>absurd h.1 (by decide))]
  exact ev_neg (by simp) hno
theorem implMove_ev (s:Int) (r:Bool) (l:List S58) (P:List Int) (hl:l.length≤1048576) (hpl:P.length≤1048576):Ev (fun k=>impl_MoveSensors.f k s r l P) (mvR s r l P):=by
 unfold impl_MoveSensors.f mvR
 refine Ev.bind (isGuarded_ev s r l hl) ?_
 have hno:Ev (fun k=>impl_MoveSensors.j0 k l P true s r) (([],0,0,false):List S58 × Int × Int × Bool):=ev_now (fun k=>by simp only[impl_MoveSensors.j0,if_true])
 cases hv:sensV s r l with
 | true=>
  have h:=sens_of hv
  have hr:=h.1.2
  subst hr
  refine ev_pos rfl ?_
  by_cases he:P.length=l.length
  ·refine ev_pos (by omega) ?_
   have hh:Ev (fun k=>impl_Road_has.f k s false P) (inAll 0 (s-1) P):=by
    unfold impl_Road_has.f
    rw[w64 (by omega) (by omega)]
    exact Ev.bind (allWithin_ev P 0 (s-1) (by omega)) (Ev.now _)
   refine Ev.bind hh ?_
   cases ha:inAll 0 (s-1) P with
   | true=>
    rw[if_pos ⟨rfl,he,rfl⟩]
    refine Ev.step (fun k=>by simp only[impl_MoveSensors.j0,Bool.not_true,Bool.false_eq_true,if_false];rfl) ?_
    exact implMove_loop s l P hv he ha
   | false=>
    rw[if_neg (fun h=>absurd h.2.2 (by decide))]
    exact hno
  ·rw[if_neg (fun h=>he h.2.1)]
   exact ev_neg (by omega) hno
 | false=>
  rw[if_neg (fun h=>absurd h.1 (by decide))]
  exact ev_neg (by simp) hno
def mirS (s:Int) (l:List S58) (n:Nat):List S58:=tg n (fun q=>⟨s-1-(l.getD q z58).f0,(l.getD q z58).f1⟩)
def mirSR (s:Int) (r:Bool) (l:List S58):List S58 × Bool:=if sensV s r l=true then(mirS s l l.length,true)else([],false)
theorem mirS_succ (s:Int) (l:List S58) (i:Nat):mirS s l i++[⟨s-1-(l.getD i z58).f0,(l.getD i z58).f1⟩]=mirS s l (i+1):=tg_snoc i (fun q=>(⟨s-1-(l.getD q z58).f0,(l.getD q z58).f1⟩:S58))
theorem implMirS_ev (s:Int) (r:Bool) (l:List S58) (hl:l.length≤1048576):Ev (fun k=>impl_MirrorSensors.f k s r l) (mirSR s r l):=by
 unfold impl_MirrorSensors.f mirSR
 refine Ev.bind (isGuarded_ev s r l hl) ?_
 cases hv:sensV s r l with
 | true=>
  have h:=sens_of hv
  refine ev_pos rfl ?_
  have key:=down (P:=fun i=>Ev (fun k=>impl_MirrorSensors.l0 k (mirS s l i) l (l.length:Int) (i:Int) s r) (mirS s l l.length,true)) (n:=l.length)
   (ev_now (fun k=>by simp only[impl_MirrorSensors.l0];rw[if_neg (by omega)]))
   (fun i hi ih=>by
    have hc:=(h.2.2 i hi).1
    refine Ev.step (fun k=>?_) ih
    simp only[impl_MirrorSensors.l0,impl_Road_mirror.f,Option.bind_some,rdT_nat]
    rw[if_pos (by omega),if_pos (by omega),if_pos (by omega),if_pos (by unfold mirS;rw[tg_len];omega),w64s hi (by omega),w64 (x:=s-1) (by omega) (by omega),w64 (by omega) (by omega),mirS_succ])
  exact key 0 (by omega)
 | false=>exact ev_neg (by simp) (Ev.now _)
theorem evMost_eq (a b:Int):spec_l1Most.f a b=some (mx a b):=by
 unfold spec_l1Most.f mx
 by_cases h:a>b
 ·rw[if_pos h,if_neg (by omega)]
 ·rw[if_neg h]
  by_cases h2:a<b
  ·rw[if_pos h2]
  ·rw[if_neg h2];congr 1;omega
theorem evLeast_eq (a b:Int):spec_l1Least.f a b=some (mn a b):=by
 unfold spec_l1Least.f mn
 by_cases h:a<b
 ·rw[if_pos h,if_neg (by omega)]
 ·rw[if_neg h]
  by_cases h2:b<a
  ·rw[if_pos h2]
  ·rw[if_neg h2];congr 1;omega
def evAt (s R:Nat) (i:Nat):Int:=mx 0 (mn (((i*(2*R+1):Nat):Int)+R) ((s:Int)-1-R))
def evN (s R:Nat):Nat:=(s+(2*R+1)-1)/ (2*R+1)
theorem evN_lt {s R i:Nat} (h:i<evN s R) (hs:0<s):i*(2*R+1)<s:=by
 unfold evN at h
 have h1: (i+1)*(2*R+1)≤s+(2*R+1)-1:=(Nat.le_div_iff_mul_le (by omega)).1 h
 rw[Nat.succ_mul]at h1
 omega
theorem evN_ge (s R:Nat):s≤evN s R*(2*R+1):=by
 unfold evN
 have h1:=Nat.lt_succ_iff.1 (Nat.lt_succ_self ((s+(2*R+1)-1)/ (2*R+1)))
 have h2:=Nat.div_add_mod (s+(2*R+1)-1) (2*R+1)
 have h3:=Nat.mod_lt (s+(2*R+1)-1) (show 2*R+1>0 by omega)
 rw[Nat.mul_comm]at h2
 omega
theorem evN_le {s R:Nat}:evN s R≤s:=by
 unfold evN
 rw[Nat.div_le_iff_le_mul_add_pred (by omega)]
 have:s≤(2*R+1)*s:=Nat.le_mul_of_pos_left s (by omega)
 omega
def evenV (s:Int) (r:Bool) (a:Int):Bool:=lineV s r&&inR 0 12 a
def evenR (s:Int) (r:Bool) (a:Int):List Int × Bool:=if evenV s r a=true then(if evN s.toNat a.toNat>6 then([],false)else(tab (evN s.toNat a.toNat) (evAt s.toNat a.toNat),true))else([],false)
theorem evenR_len (s:Int) (r:Bool) (a:Int): (evenR s r a).1.length≤1048576:=by
 unfold evenR
 split
 ·split
  ·simp
  ·simp only[tab_len];omega
 ·simp
theorem even_of {s:Int} {r:Bool} {a:Int} (h:evenV s r a=true):∃ n R:Nat,s=n∧r=false∧a=R∧2≤n∧n≤24∧R≤12:=by
 unfold evenV at h
 rw[Bool.and_eq_true,inR_iff]at h
 have:=line_of h.1
 exact⟨s.toNat,a.toNat,by omega,this.2,by omega,by omega,by omega,by omega⟩
theorem specEven_loop (n R:Nat) (h2:2≤n) (hn:n≤24) (hR:R≤12):Ev (fun k=>spec_EvenPlaces.l0 k (R:Int) [] 0 (n:Int) false) (if evN n R>6 then([],false)else(tab (evN n R) (evAt n R),true)):=by
 have hN:=evN_le (s:=n) (R:=R)
 have key:=down (P:=fun i=>Ev (fun k=>spec_EvenPlaces.l0 k (R:Int) (tab i (evAt n R)) ((i*(2*R+1):Nat):Int) (n:Int) false) (if evN n R>6 then([],false)else(tab (evN n R) (evAt n R),true))) (n:=evN n R)
  (ev_now (fun k=>by
   have h1:=evN_ge n R
   simp only[spec_EvenPlaces.l0]
   rw[if_neg (by omega),tab_len]
   by_cases h:evN n R>6
   ·rw[if_pos (by omega),if_pos h]
   ·rw[if_neg (by omega),if_neg h]))
  (fun i hi ih=>by
   have h1:=evN_lt hi (by omega)
   refine Ev.step (fun k=>?_) ih
   simp only[spec_EvenPlaces.l0,evLeast_eq,evMost_eq,Option.bind_some]
   rw[if_pos (by omega),if_pos (by rw[tab_len];omega),w64 (x:=((i*(2*R+1):Nat):Int)+R) (by omega) (by omega),w64 (x:=(n:Int)-1) (by omega) (by omega),w64 (x:=(n:Int)-1-R) (by omega) (by omega),w64 (x:=2*(R:Int)) (by omega) (by omega),w64 (x:=((i*(2*R+1):Nat):Int)+2*R) (by omega) (by omega),w64 (by omega) (by omega)]
   have e: ((i*(2*R+1):Nat):Int)+2*(R:Int)+1=(((i+1)*(2*R+1):Nat):Int):=by
    have e0: (i+1)*(2*R+1)=i*(2*R+1)+(2*R+1):=Nat.succ_mul _ _
    rw[e0];omega
   rw[e]
   have:=tab_snoc i (evAt n R)
   unfold evAt at this⊢
   rw[this])
 have k0:=key 0 (by omega)
 simpa [tab_zero]using k0
theorem specEven_ev (s:Int) (r:Bool) (a:Int):Ev (fun k=>spec_EvenPlaces.f k s r a) (evenR s r a):=by
 unfold spec_EvenPlaces.f evenR
 simp only[Option.bind_some,l2Road_eq,l1In_eq]
 have hno:∀ r',Ev (fun k=>spec_EvenPlaces.j0 k a [] true s r') (([],false):List Int × Bool):=fun r'=>ev_now (fun k=>by simp only[spec_EvenPlaces.j0,if_true])
 cases hv:evenV s r a with
 | true=>
  obtain⟨n,R,rfl,rfl,rfl,h2,hn,hR⟩:=even_of hv
  have e1:inR 2 24 (n:Int)=true:=inR_iff.2 (by omega)
  have e2:inR 0 12 (R:Int)=true:=inR_iff.2 (by omega)
  rw[e1,e2]
  refine ev_pos (by simp) (ev_neg (by simp) (Ev.step (fun k=>by simp only[spec_EvenPlaces.j0,Bool.not_true,Bool.false_eq_true,if_false];rfl) ?_))
  simp only[if_true,Int.toNat_natCast]
  exact specEven_loop n R h2 hn hR
 | false=>
  simp only[Bool.false_eq_true,if_false]
  cases h1:inR 2 24 s with
  | false=>exact ev_neg (by simp) (hno r)
  | true=>
   cases r with
   | true=>
    by_cases h2:s>2
    ·exact ev_pos (by simp[h2]) (ev_pos rfl (hno true))
    ·exact ev_neg (by simp[h2]) (hno true)
   | false=>
    refine ev_pos (by simp) (ev_neg (by simp) ?_)
    have e2:inR 0 12 a=false:=by
     cases h3:inR 0 12 a with
     | false=>rfl
     | true=>unfold evenV lineV at hv;rw[h1,h3]at hv;simp at hv
    rw[e2]
    exact hno false
theorem implEven_loop (n R:Nat) (h2:2≤n) (hn:n≤24) (hR:R≤12) (h6:evN n R≤6):Ev (fun k=>impl_EvenPlaces.l0 k (R:Int) (2*(R:Int)+1) [] (evN n R:Int) 0 (n:Int) false) (tab (evN n R) (evAt n R),true):=by
 have key:=down (P:=fun i=>Ev (fun k=>impl_EvenPlaces.l0 k (R:Int) (2*(R:Int)+1) (tab i (evAt n R)) (evN n R:Int) (i:Int) (n:Int) false) (tab (evN n R) (evAt n R),true)) (n:=evN n R)
  (ev_now (fun k=>by simp only[impl_EvenPlaces.l0];rw[if_neg (by omega)]))
  (fun i hi ih=>by
   have h1:=evN_lt hi (by omega)
   refine Ev.step (fun k=>?_) ih
   have e: (i:Int)*(2*(R:Int)+1)=((i*(2*R+1):Nat):Int):=by simp
   simp only[impl_EvenPlaces.l0]
   rw[if_pos (by omega),if_pos (by rw[tab_len];omega),e,w64 (x:=((i*(2*R+1):Nat):Int)) (by omega) (by omega),w64 (x:=(R:Int)+((i*(2*R+1):Nat):Int)) (by omega) (by omega),w64 (x:=(n:Int)-1) (by omega) (by omega),w64 (x:=(n:Int)-1-R) (by omega) (by omega),w64s hi (by omega),Int.add_comm (R:Int)]
   have:=tab_snoc i (evAt n R)
   unfold evAt at this⊢
   rw[this])
 have k0:=key 0 (by omega)
 simpa [tab_zero]using k0
theorem implEven_ev (s:Int) (r:Bool) (a:Int):Ev (fun k=>impl_EvenPlaces.f k s r a) (evenR s r a):=by
 unfold impl_EvenPlaces.f evenR
 simp only[Option.bind_some,isLine_eq,within_eq]
 have hno:∀ r',Ev (fun k=>impl_EvenPlaces.j0 k a true s r') (([],false):List Int × Bool):=fun r'=>ev_now (fun k=>by simp only[impl_EvenPlaces.j0,if_true])
 cases hv:evenV s r a with
 | true=>
  obtain⟨n,R,rfl,rfl,rfl,h2,hn,hR⟩:=even_of hv
  have hN:=evN_le (s:=n) (R:=R)
  have e1:lineV (n:Int) false=true:=by unfold lineV;rw[inR_iff.2 (by omega)];rfl
  have e2:inR 0 12 (R:Int)=true:=inR_iff.2 (by omega)
  rw[e1,e2]
  simp only[if_true,Int.toNat_natCast]
  have ec:wrap64 (Int.tdiv (wrap64 (wrap64 ((n:Int)+wrap64 (wrap64 (2*(R:Int))+1))-1)) (wrap64 (wrap64 (2*(R:Int))+1)))=(evN n R:Int):=by
   rw[w64 (x:=2*(R:Int)) (by omega) (by omega),w64 (x:=2*(R:Int)+1) (by omega) (by omega),w64 (x:=(n:Int)+(2*(R:Int)+1)) (by omega) (by omega),w64 (x:=(n:Int)+(2*(R:Int)+1)-1) (by omega) (by omega),Int.tdiv_eq_ediv_of_nonneg (by omega)]
   have e: ((n:Int)+(2*(R:Int)+1)-1)/ (2*(R:Int)+1)=(evN n R:Int):=by
    unfold evN
    rw[Int.natCast_ediv]
    congr 1
    omega
   rw[e,w64 (by omega) (by omega)]
  refine Ev.step (fun k=>by simp only[impl_EvenPlaces.j0,Bool.not_true,Bool.false_eq_true,if_false,ec];rfl) ?_
  rw[w64 (x:=2*(R:Int)) (by omega) (by omega),w64 (x:=2*(R:Int)+1) (by omega) (by omega)]
  refine ev_neg (by omega) ?_
  by_cases h6:evN n R>6
  ·rw[if_pos h6]
   exact ev_pos (by omega) (Ev.now _)
  ·rw[if_neg h6]
   exact ev_neg (by omega) (implEven_loop n R h2 hn hR (by omega))
 | false=>
  simp only[Bool.false_eq_true,if_false]
  cases h1:lineV s r with
  | false=>exact ev_neg (by simp) (hno r)
  | true=>
   refine ev_pos rfl ?_
   have e2:inR 0 12 a=false:=by
    cases h3:inR 0 12 a with
    | false=>rfl
    | true=>unfold evenV at hv;rw[h1,h3]at hv;simp at hv
   rw[e2]
   exact hno r
def bAt (l:List S58) (j:Nat):Int:=(l.getD j z58).f0
def bRe (l:List S58) (j:Nat):Int:=(l.getD j z58).f1
def inSet (c j:Nat):Prop:=bitA c j=1
def Cov (l:List S58) (c:Nat) (p:Nat→Int) (M:Int):Prop:=∀ x:Int,0≤x→x<M→∃ j,j<l.length∧inSet c j∧p j-bRe l j≤x∧x≤p j+bRe l j
def Pl (s d:Int) (l:List S58) (p:Nat→Int):Prop:=∀ j,j<l.length→(0≤p j∧p j≤s-1)∧bAt l j-d≤p j∧p j≤bAt l j+d
def upd (p:Nat→Int) (i:Nat) (v:Int):Nat→Int:=fun j=>if j=i then v else p j
theorem upd_same (p:Nat→Int) (i:Nat) (v:Int):upd p i v i=v:=if_pos rfl
theorem upd_other (p:Nat→Int) {i j:Nat} (v:Int) (h:j≠i):upd p i v j=p j:=if_neg h
theorem bit_sub_lt {c i:Nat} (h:inSet c i):c-2^i<c:=by
 have:=bit_le h
 have:=Nat.two_pow_pos i
 omega
theorem cov_mono {l:List S58} {c:Nat} {p:Nat→Int} {M N:Int} (h:Cov l c p M) (k:N≤M):Cov l c p N:=fun x h0 h1=>h x h0 (by omega)
theorem cov_last {l:List S58} {c:Nat} (hc:c<64) (hl:l.length≤6) {p:Nat→Int} {M:Int} (h:Cov l c p M) (hM:1≤M):
  ∃ i,i<l.length∧inSet c i∧p i-bRe l i≤M-1∧M-1≤p i+bRe l i∧Cov l (c-2^i) p (mx 0 (p i-bRe l i)):=by
 obtain⟨i,hi,hs,h1,h2⟩:=h (M-1) (by omega) (by omega)
 refine⟨i,hi,hs,h1,h2,fun x x0 x1=>?_⟩
 have hm:=mx_ge 0 (p i-bRe l i)
 obtain⟨j,hj,js,j1,j2⟩:=h x x0 (by omega)
 have hne:j≠i:=fun e=>by subst e;omega
 exact⟨j,hj,(bit_drop (by omega) (by omega) hc hs).2 ⟨hne,js⟩,j1,j2⟩
theorem cov_put {l:List S58} {c:Nat} (hc:c<64) (hl:l.length≤6) {p:Nat→Int} {e v N:Int} {i:Nat} (hi:i<l.length) (hs:inSet c i) (h:Cov l (c-2^i) p e) (h1:v-bRe l i≤e) (h2:N≤mx e (v+bRe l i+1)):Cov l c (upd p i v) N:=by
 intro x x0 x1
 have hm:=mx_ge e (v+bRe l i+1)
 by_cases c0:x<e
 ·obtain⟨j,hj,js,j1,j2⟩:=h x x0 c0
  have:=(bit_drop (by omega) (by omega) hc hs).1 js
  exact⟨j,hj,this.2,by rw[upd_other _ _ this.1];exact j1,by rw[upd_other _ _ this.1];exact j2⟩
 ·exact⟨i,hi,hs,by rw[upd_same];omega,by rw[upd_same];omega⟩
theorem cov_grow {l:List S58} {c:Nat} (hc:c<64) (hl:l.length≤6) {p:Nat→Int} {e:Int} {i:Nat} (hi:i<l.length) (hs:inSet c i) (h:Cov l (c-2^i) p e):Cov l c p e:=by
 intro x x0 x1
 obtain⟨j,hj,js,j1,j2⟩:=h x x0 x1
 exact⟨j,hj,((bit_drop (by omega) (by omega) hc hs).1 js).2,j1,j2⟩
theorem pl_upd {s d:Int} {l:List S58} {p:Nat→Int} (h:Pl s d l p) {i:Nat} {v:Int} (h1:0≤v∧v≤s-1) (h2:bAt l i-d≤v∧v≤bAt l i+d):Pl s d l (upd p i v):=by
 intro j hj
 by_cases e:j=i
 ·subst e;rw[upd_same];exact⟨h1,h2⟩
 ·rw[upd_other _ _ e];exact h j hj
theorem pl_own {s d:Int} {l:List S58} (h:∀ j,j<l.length→sC s l j) (hd:0≤d):Pl s d l (bAt l):=by
 intro j hj
 have:=(h j hj).1
 unfold bAt;omega
theorem tabI_at (s d:Int) (l:List S58) {N c:Nat} (h:c<N):rd (tabF (upI s d) l N) (c:Int)=rowF (upI s d) l (tabF (upI s d) l c) c l.length:=tabF_rd _ _ h
def eN (s d:Int) (l:List S58) (c:Nat):Int:=rd (tabF (upI s d) l (c+1)) (c:Int)
theorem eN_row (s d:Int) (l:List S58) (c:Nat):eN s d l c=rowF (upI s d) l (tabF (upI s d) l c) c l.length:=tabI_at s d l (Nat.lt_succ_self c)
theorem eN_at (s d:Int) (l:List S58) {N c:Nat} (h:c<N):rd (tabF (upI s d) l N) (c:Int)=eN s d l c:=by rw[tabI_at s d l h,eN_row]
theorem upI_ge (s d a r f b:Int):b≤upI s d a r f b∧f≤upI s d a r f b∧(plcOk s d a r f→plc s d a r f+r+1≤upI s d a r f b):=by
 have h1:=mx_ge b f
 have h2:=mx_ge b (mx f (plc s d a r f+r+1))
 have h3:=mx_ge f (plc s d a r f+r+1)
 rw[upI_eq]
 by_cases c:plcOk s d a r f
 ·rw[if_pos c];omega
 ·rw[if_neg c];exact⟨h1.1,h1.2.1,fun h=>absurd h c⟩
theorem can_sound {s d:Int} {l:List S58} (hs:2≤s∧s≤24) (hd:0≤d∧d≤24) (hl:l.length≤6) (h:∀ j,j<l.length→sC s l j):∀ c,c<64→∃ p,Pl s d l p∧Cov l c p (eN s d l c):=by
 intro c
 induction c using Nat.strongRecOn with
 | _ c ih=>
  intro hc
  rw[eN_row]
  have key:∀ i,i≤l.length→∃ p,Pl s d l p∧Cov l c p (rowF (upI s d) l (tabF (upI s d) l c) c i):=by
   intro i
   induction i with
   | zero=>intro _;exact⟨bAt l,pl_own h hd.1,fun x h0 h1=>by unfold rowF at h1;omega⟩
   | succ i ihi=>
    intro hi
    obtain⟨p,hp,hcv⟩:=ihi (by omega)
    rw[rowF_succ]
    by_cases hb:bitA c i=1
    ·rw[if_pos hb]
     have hlt:=bit_sub_lt (c:=c) (i:=i) hb
     obtain⟨q,hq,hqc⟩:=ih (c-2^i) hlt (by omega)
     rw[eN_at s d l hlt]
     have hbd:=tabF_bd (okI hs hd h) (c-2^i+1) (c-2^i) (Nat.lt_succ_self _)
     have hbd2:0≤eN s d l (c-2^i)∧eN s d l (c-2^i)≤36:=hbd
     generalize eN s d l (c-2^i)=f at*
     generalize rowF (upI s d) l (tabF (upI s d) l c) c i=b at*
     have hsc:=h i (by omega)
     have hpl:=plc_nn hs hd hsc.1 hsc.2 hbd2
     have hle:=plc_le s d (l.getD i z58).f0 (l.getD i z58).f1 f
     have m1:=mx_ge b f
     have m2:=mx_ge b (mx f (plc s d (l.getD i z58).f0 (l.getD i z58).f1 f+(l.getD i z58).f1+1))
     rw[upI_eq]
     have hgr:=cov_grow hc hl (by omega) hb hqc
     by_cases hk:plcOk s d (l.getD i z58).f0 (l.getD i z58).f1 f
     ·rw[if_pos hk]
      rcases m2.2.2 with e|e
      ·rw[e];exact⟨p,hp,hcv⟩
      ·rw[e]
       have hk':=hk
       unfold plcOk at hk'
       refine⟨upd q i (plc s d (l.getD i z58).f0 (l.getD i z58).f1 f),pl_upd hq (by omega) (by unfold bAt;omega),cov_put hc hl (by omega) hb hqc (by unfold bRe;omega) (Int.le_refl _)⟩
     ·rw[if_neg hk]
      rcases m1.2.2 with e|e
      ·rw[e];exact⟨p,hp,hcv⟩
      ·rw[e];exact⟨q,hq,hgr⟩
    ·rw[if_neg hb];exact⟨p,hp,hcv⟩
  exact key _ (Nat.le_refl _)
theorem row_mono (s d:Int) (l:List S58) (T:List Int) (c:Nat) {i j:Nat} (h:i≤j):rowF (upI s d) l T c i≤rowF (upI s d) l T c j:=by
 induction j with
 | zero=>rw[show i=0 by omega];exact Int.le_refl _
 | succ j ih=>
  by_cases e:i=j+1
  ·subst e;exact Int.le_refl _
  ·refine Int.le_trans (ih (by omega)) ?_
   rw[rowF_succ]
   split
   ·exact(upI_ge _ _ _ _ _ _).1
   ·exact Int.le_refl _
theorem can_full {s d:Int} {l:List S58} (hs:2≤s∧s≤24) (hd:0≤d∧d≤24) (hl:l.length≤6) (h:∀ j,j<l.length→sC s l j) {p:Nat→Int} (hp:Pl s d l p):∀ c,c<64→∀ M,Cov l c p M→M≤s→M≤eN s d l c:=by
 intro c
 induction c using Nat.strongRecOn with
 | _ c ih=>
  intro hc M hM hMs
  have hbd:=(tabF_bd (okI hs hd h) (c+1) c (Nat.lt_succ_self _)).1
  by_cases h1:1≤M
  ·obtain⟨i,hi,hb,i1,i2,hcv⟩:=cov_last hc hl hM h1
   have hlt:=bit_sub_lt hb
   have hm:=mx_ge 0 (p i-bRe l i)
   have hf:=ih (c-2^i) hlt (by omega) _ hcv (by have:=(hp i hi).1;have:=(h i hi).2;unfold bRe at*;omega)
   have hrow:=row_mono s d l (tabF (upI s d) l c) c (show i+1≤l.length from hi)
   rw[←eN_row,rowF_succ,if_pos (show bitA c i=1 from hb),eN_at s d l hlt]at hrow
   have hu:=upI_ge s d (l.getD i z58).f0 (l.getD i z58).f1 (eN s d l (c-2^i)) (rowF (upI s d) l (tabF (upI s d) l c) c i)
   generalize eN s d l (c-2^i)=f at*
   by_cases hfm:M≤f
   ·omega
   ·have hpi:=hp i hi
    unfold bRe bAt at*
    have hle:=plc_le s d (l.getD i z58).f0 (l.getD i z58).f1 f
    have:=hu.2.2 (by unfold plcOk;omega)
    omega
  ·have:eN s d l c=rd (tabF (upI s d) l (c+1)) (c:Int):=rfl
   omega
theorem canB_iff {s d:Int} {l:List S58} (hs:2≤s∧s≤24) (hd:0≤d∧d≤24) (hl:l.length≤6) (h:∀ j,j<l.length→sC s l j):canB s d l=true↔∃ p,Pl s d l p∧Cov l (2^l.length-1) p s:=by
 have hp:=Nat.two_pow_pos l.length
 have h64:=pow_le64 hl
 rw[canB_impl,decide_eq_true_iff,eN_at s d l (by omega)]
 constructor
 ·intro hle
  obtain⟨p,h1,h2⟩:=can_sound hs hd hl h (2^l.length-1) (by omega)
  exact⟨p,h1,cov_mono h2 hle⟩
 ·rintro⟨p,h1,h2⟩
  exact can_full hs hd hl h h1 _ (by omega) _ h2 (Int.le_refl _)
def gpF (l:List S58) (p:Nat→Int) (j:Nat):Int:=mx (bAt l j-p j) (p j-bAt l j)
def onF (c:Nat) (f:Nat→Int) (j:Nat):Int:=if bitA c j=1 then f j else 0
def cost (l:List S58) (p:Nat→Int):Int:=sm l.length (gpF l p)
theorem gpF_nn (l:List S58) (p:Nat→Int) (j:Nat):0≤gpF l p j:=by
 have:=mx_ge (bAt l j-p j) (p j-bAt l j)
 unfold gpF;omega
theorem sm_nn {n:Nat} {f:Nat→Int} (h:∀ j,j<n→0≤f j):0≤sm n f:=by
 have:=sm_le (n:=n) (f:=fun _=>0) (g:=f) h
 rw[sm_const]at this;omega
theorem sm_one_le {n:Nat} {f:Nat→Int} (h:∀ j,j<n→0≤f j) {i:Nat} (hi:i<n):f i≤sm n f:=by
 induction n with
 | zero=>omega
 | succ n ih=>
  rw[sm_succ]
  have h0:=sm_nn (n:=n) (f:=f) (fun j hj=>h j (by omega))
  have h1:=h n (by omega)
  by_cases e:i=n
  ·subst e;omega
  ·have:=ih (fun j hj=>h j (by omega)) (by omega);omega
theorem sm_at {n:Nat} {f g:Nat→Int} {i:Nat} (hi:i<n) (h:∀ j,j<n→j≠i→g j=f j):sm n g=sm n f-f i+g i:=by
 induction n with
 | zero=>omega
 | succ n ih=>
  rw[sm_succ,sm_succ]
  by_cases e:i=n
  ·subst e
   rw[sm_congr (f:=g) (g:=f) (fun q hq=>h q (by omega) (by omega))]
   omega
  ·rw[ih (by omega) (fun j hj hne=>h j (by omega) hne),h n (by omega) (fun e2=>e e2.symm)]
   omega
theorem on_drop {l:List S58} {c:Nat} (hc:c<64) (hl:l.length≤6) (f:Nat→Int) {i:Nat} (hi:i<l.length) (hs:inSet c i):sm l.length (onF c f)=sm l.length (onF (c-2^i) f)+f i:=by
 have h0:onF (c-2^i) f i=0:=by
  unfold onF
  rw[if_neg (fun e=>((bit_drop (by omega) (by omega) hc hs).1 e).1 rfl)]
 have h1:onF c f i=f i:=by unfold onF;rw[if_pos (show bitA c i=1 from hs)]
 rw[sm_at (f:=onF (c-2^i) f) (g:=onF c f) hi (fun j hj hne=>?_)]
 ·omega
 ·unfold onF
  by_cases e:bitA c j=1
  ·rw[if_pos e,if_pos ((bit_drop (by omega) (by omega) hc hs).2 ⟨hne,e⟩)]
  ·rw[if_neg e,if_neg (fun k=>e ((bit_drop (by omega) (by omega) hc hs).1 k).2)]
theorem cov_count {l:List S58} (hl:l.length≤6) (hr:∀ j,j<l.length→0≤bRe l j) {p:Nat→Int}:∀ c,c<64→∀ M,Cov l c p M→M≤sm l.length (onF c (fun j=>2*bRe l j+1)):=by
 intro c
 induction c using Nat.strongRecOn with
 | _ c ih=>
  intro hc M hM
  by_cases h1:1≤M
  ·obtain⟨i,hi,hb,i1,i2,hcv⟩:=cov_last hc hl hM h1
   have hm:=mx_ge 0 (p i-bRe l i)
   have hlt:=bit_sub_lt hb
   have hf:=ih (c-2^i) hlt (by omega) _ hcv
   have:=on_drop hc hl (fun j=>2*bRe l j+1) hi hb
   omega
  ·have:=sm_nn (n:=l.length) (f:=onF c (fun j=>2*bRe l j+1)) (fun j hj=>by have:=hr j hj;unfold onF;dsimp only;split<;>omega)
   omega
theorem on_full {l:List S58} (hl:l.length≤6) (f:Nat→Int):sm l.length (onF (2^l.length-1) f)=sm l.length f:=by
 refine sm_congr (fun q hq=>?_)
 unfold onF;rw[if_pos (bit_full hl hq)]
theorem on_le {n c:Nat} {f:Nat→Int} (h:∀ j,j<n→0≤f j):sm n (onF c f)≤sm n f:=by
 refine sm_le (fun q hq=>?_)
 have:=h q hq
 unfold onF;split<;>omega
def okP (s:Nat) (l:List S58) (x:Nat) (e v:Int):Prop:=∃ p,Pl s s l p∧Cov l x p e∧cost l p≤v
def okT (s:Nat) (l:List S58) (T:Tb):Prop:=∀ x e:Nat,x<64→0≤T x e→okP s l x e (T x e)
theorem okT_low {s:Nat} {l:List S58} {T:Tb} (h:okT s l T) {x e:Nat} {v:Int} (hv:x<64→okP s l x e v):okT s l (lowT T x e v):=by
 intro y f hy h0
 by_cases c:y=x∧f=e
 ·obtain⟨rfl,rfl⟩:=c
  rw[lowT_same]at h0⊢
  by_cases k:T y f<0∨v<T y f
  ·rw[if_pos k];exact hv hy
  ·rw[if_neg k]at h0⊢;exact h y f hy h0
 ·rw[lowT_other T v c]at h0⊢;exact h y f hy h0
theorem on_bit {x i:Nat} (hi:i<6) (hx:x<64) (hb:bitA x i=0):x+2^i<64∧inSet (x+2^i) i∧x+2^i-2^i=x:=by
 have:=bitA_on hi hx hb
 exact⟨this.1,(this.2 i hi).2 (.inl rfl),Nat.add_sub_cancel ..⟩
theorem okP_put {s:Nat} {l:List S58} (hl:l.length≤6) (hc:∀ j,j<l.length→sC s l j) {x i:Nat} (hx:x<64) (hi:i<l.length) (hb:bitA x i=0) {e v:Int} {q:Nat} (hq:q<s) (h:okP s l x e v) (h1: (q:Int)-bRe l i≤e) (he:0≤e) {N:Int} (hN:N≤(q:Int)+bRe l i+1):
  okP s l (x+2^i) N (v+gpP (bAt l i) q):=by
 obtain⟨p,hp,hcv,hco⟩:=h
 obtain⟨b1,b2,b3⟩:=on_bit (i:=i) (by omega) hx hb
 have hm:=mx_ge e ((q:Int)+bRe l i+1)
 have hat:=(hc i hi).1
 refine⟨upd p i q,pl_upd hp (by omega) (by unfold bAt;omega),cov_put b1 hl hi b2 (by rw[b3];exact hcv) h1 (by omega),?_⟩
 have:=sm_at (n:=l.length) (f:=gpF l p) (g:=gpF l (upd p i q)) hi (fun j hj hne=>by unfold gpF;rw[upd_other _ _ hne])
 have h2:=gpF_nn l p i
 have h3:gpF l (upd p i q) i=gpP (bAt l i) q:=by unfold gpF gpP;rw[upd_same]
 unfold cost at*
 omega
theorem okT_inP {s:Nat} {l:List S58} (hl:l.length≤6) (hc:∀ j,j<l.length→sC s l j) {x e i:Nat} {sum:Int} (hx:x<64) (hi:i<l.length) (hb:bitA x i=0) (hs:okP s l x e sum) {T:Tb} (h:okT s l T) (q:Nat) (hq:q≤s):okT s l (inP s (l.getD i z58).f0 (l.getD i z58).f1 (x+2^i) e sum q T):=by
 induction q with
 | zero=>exact h
 | succ q ih=>
  have:=ih (by omega)
  unfold inP
  split
  ·exact this
  ·rename_i c
   have hm:=mn_le (s:Int) ((q:Int)+(l.getD i z58).f1+1)
   have hr:=(hc i hi).2
   refine okT_low this (fun _=>?_)
   have:=okP_put hl hc hx hi hb (q:=q) (by omega) hs (by unfold bRe;omega) (by omega) (N:=((mn (s:Int) ((q:Int)+(l.getD i z58).f1+1)).toNat:Int)) (by unfold bRe;omega)
   exact this
theorem okT_inI {s:Nat} {l:List S58} (hl:l.length≤6) (hc:∀ j,j<l.length→sC s l j) {x e:Nat} {sum:Int} (hx:x<64) (hs:okP s l x e sum) {T:Tb} (h:okT s l T) (i:Nat) (hi:i≤l.length):okT s l (inI s l x e sum i T):=by
 induction i with
 | zero=>exact h
 | succ i ih=>
  have:=ih (by omega)
  unfold inI
  split
  ·exact this
  ·rename_i c
   have hb:bitA x i=0:=(bit_cases x i).resolve_right c
   exact okT_inP hl hc hx (by omega) hb hs this s (Nat.le_refl _)
def okB (s:Nat) (l:List S58) (b:Int):Prop:=0≤b→∃ x,x<64∧okP s l x s b
theorem okT_inE {s:Nat} {l:List S58} (hl:l.length≤6) (hc:∀ j,j<l.length→sC s l j) {all:Bool} {x:Nat} (hx:x<64) {st:Tb × Int} (h:okT s l st.1) (hb:okB s l st.2) (e:Nat):okT s l (inE all s l x e st).1∧okB s l (inE all s l x e st).2:=by
 induction e with
 | zero=>exact⟨h,hb⟩
 | succ e ih=>
  unfold inE
  split
  ·exact ih
  ·rename_i c
   have ho:=ih.1 x e hx (by omega)
   constructor
   ·show okT s l (if _ then _ else _)
    split
    ·exact okT_inI hl hc hx ho ih.1 _ (Nat.le_refl _)
    ·exact ih.1
   ·show okB s l (bestT _ _ _ _)
    unfold bestT
    split
    ·rename_i k
     intro _
     refine⟨x,hx,?_⟩
     rw[show(e:Int)=(s:Int)by rw[k.1]]at ho
     exact ho
    ·exact ih.2
theorem okT_0 {s:Nat} {l:List S58} (hc:∀ j,j<l.length→sC s l j):okT s l T0:=by
 intro x e hx h0
 unfold T0 at h0⊢
 by_cases k:x=0∧e=0
 ·rw[if_pos k]
  obtain⟨rfl,rfl⟩:=k
  refine⟨bAt l,pl_own hc (by omega),fun y y0 y1=>by omega,?_⟩
  unfold cost
  have:sm l.length (gpF l (bAt l))=sm l.length (fun _=>0):=sm_congr (fun q _=>by
   have:=mx_ge (bAt l q-bAt l q) (bAt l q-bAt l q)
   unfold gpF;omega)
  rw[this,sm_const];omega
 ·rw[if_neg k]at h0;omega
theorem okT_inX {s:Nat} {l:List S58} (hl:l.length≤6) (hc:∀ j,j<l.length→sC s l j) {all:Bool} (x:Nat) (hx:x≤64):okT s l (inX all s l x (T0,-1)).1∧okB s l (inX all s l x (T0,-1)).2:=by
 induction x with
 | zero=>exact⟨okT_0 hc,fun h=>by have: (0:Int)≤-1:=h;omega⟩
 | succ x ih=>
  have:=ih (by omega)
  unfold inX
  exact okT_inE hl hc (by omega) this.1 this.2 _
theorem cov_all {l:List S58} (hl:l.length≤6) {c:Nat} {p:Nat→Int} {M:Int} (h:Cov l c p M):Cov l (2^l.length-1) p M:=by
 intro x x0 x1
 obtain⟨j,hj,_,j1,j2⟩:=h x x0 x1
 exact⟨j,hj,bit_full hl hj,j1,j2⟩
theorem lsum_sound {s:Nat} {l:List S58} (hl:l.length≤6) (hc:∀ j,j<l.length→sC s l j) {all:Bool} (h0:0≤lsum all s l):∃ p,Pl s s l p∧Cov l (2^l.length-1) p s∧cost l p≤lsum all s l:=by
 obtain⟨x,hx,p,h1,h2,h3⟩:=(okT_inX hl hc (all:=all) (2^l.length) (pow_le64 hl)).2 h0
 exact⟨p,h1,cov_all hl h2,h3⟩
def leT (T U:Tb):Prop:=∀ x e,0≤T x e→0≤U x e∧U x e≤T x e
theorem leT_refl (T:Tb):leT T T:=fun _ _ h=>⟨h,Int.le_refl _⟩
theorem leT_trans {T U V:Tb} (h:leT T U) (k:leT U V):leT T V:=fun x e h0=>by
 have h1:=h x e h0
 have h2:=k x e h1.1
 omega
theorem leT_low (T:Tb) (x e:Nat) {v:Int} (hv:0≤v):leT T (lowT T x e v)∧0≤lowT T x e v x e∧lowT T x e v x e≤v:=by
 refine⟨fun y f h0=>?_,?_⟩
 ·by_cases c:y=x∧f=e
  ·obtain⟨rfl,rfl⟩:=c
   rw[lowT_same]
   split<;>omega
  ·rw[lowT_other T v c];omega
 ·rw[lowT_same]
  split<;>omega
def got (T:Tb) (x e:Nat) (v:Int):Prop:=0≤T x e∧T x e≤v
theorem got_le {T U:Tb} (h:leT T U) {x e:Nat} {v:Int} (k:got T x e v):got U x e v:=by
 have:=h x e k.1
 unfold got at*;omega
theorem full_inP {s:Nat} {a r:Int} {x e:Nat} {sum:Int} (h0:0≤sum) (T:Tb) (q:Nat):leT T (inP s a r x e sum q T)∧∀ p:Nat,p<q→(p:Int)-r≤e→(e:Int)≤p+r→got (inP s a r x e sum q T) x (mn (s:Int) ((p:Int)+r+1)).toNat (sum+gpP a p):=by
 induction q with
 | zero=>exact⟨leT_refl T,fun p hp=>by omega⟩
 | succ q ih=>
  unfold inP
  split
  ·rename_i c
   refine⟨ih.1,fun p hp h1 h2=>?_⟩
   by_cases k:p=q
   ·subst k;omega
   ·exact ih.2 p (by omega) h1 h2
  ·have:=leT_low (inP s a r x e sum q T) x (mn (s:Int) ((q:Int)+r+1)).toNat (v:=sum+gpP a q) (by have:=gpP_nn a q;omega)
   refine⟨leT_trans ih.1 this.1,fun p hp h1 h2=>?_⟩
   by_cases k:p=q
   ·subst k;exact this.2
   ·exact got_le this.1 (ih.2 p (by omega) h1 h2)
def next (s:Nat) (l:List S58) (T:Tb) (x e:Nat) (v:Int) (n:Nat):Prop:=∀ i,i<n→bitA x i=0→∀ p:Nat,p<s→(p:Int)-bRe l i≤e→(e:Int)≤p+bRe l i→got T (x+2^i) (mn (s:Int) ((p:Int)+bRe l i+1)).toNat (v+gpP (bAt l i) p)
theorem next_le {s:Nat} {l:List S58} {T U:Tb} (h:leT T U) {x e:Nat} {v:Int} {n:Nat} (k:next s l T x e v n):next s l U x e v n:=fun i hi hb p hp h1 h2=>got_le h (k i hi hb p hp h1 h2)
theorem full_inI {s:Nat} {l:List S58} {x e:Nat} {sum:Int} (h0:0≤sum) (T:Tb) (i:Nat):leT T (inI s l x e sum i T)∧next s l (inI s l x e sum i T) x e sum i:=by
 induction i with
 | zero=>exact⟨leT_refl T,fun i hi=>by omega⟩
 | succ i ih=>
  unfold inI
  split
  ·rename_i c
   refine⟨ih.1,fun j hj hb=>?_⟩
   by_cases k:j=i
   ·subst k;omega
   ·exact ih.2 j (by omega) hb
  ·have:=full_inP (s:=s) (a:=(l.getD i z58).f0) (r:=(l.getD i z58).f1) (x:=x+2^i) (e:=e) h0 (inI s l x e sum i T) s
   refine⟨leT_trans ih.1 this.1,fun j hj hb=>?_⟩
   by_cases k:j=i
   ·subst k;exact this.2
   ·exact next_le this.1 ih.2 j (by omega) hb
theorem full_inE {s:Nat} {l:List S58} {x:Nat} (st:Tb × Int) (hb: -1≤st.2) (e:Nat):
  leT st.1 (inE true s l x e st).1∧(∀ y f,y≤x→(inE true s l x e st).1 y f=st.1 y f)∧(-1≤(inE true s l x e st).2∧(0≤st.2→0≤(inE true s l x e st).2∧(inE true s l x e st).2≤st.2))∧
  ∀ f,f<e→0≤st.1 x f→next s l (inE true s l x e st).1 x f (st.1 x f) l.length∧(f=s→0≤(inE true s l x e st).2∧(inE true s l x e st).2≤st.1 x f):=by
 induction e with
 | zero=>exact⟨leT_refl _,fun _ _ _=>rfl,⟨hb,fun h=>⟨h,Int.le_refl _⟩⟩,fun f hf=>by omega⟩
 | succ e ih=>
  obtain⟨i1,i2,i3,i4⟩:=ih
  have hv:=i2 x e (Nat.le_refl _)
  by_cases c: (inE true s l x e st).1 x e<0
  ·rw[inE_neg c]
   refine⟨i1,i2,i3,fun f hf h0=>?_⟩
   by_cases k:f=e
   ·subst k;omega
   ·exact i4 f (by omega) h0
  ·rw[inE_pos c (.inr rfl)]
   have hI:=full_inI (s:=s) (l:=l) (x:=x) (e:=e) (sum:=(inE true s l x e st).1 x e) (by omega) (inE true s l x e st).1 l.length
   have hB:∀ w b:Int,0≤w→-1≤b→-1≤bestT s e w b∧(0≤b→0≤bestT s e w b∧bestT s e w b≤b)∧(e=s→0≤bestT s e w b∧bestT s e w b≤w):=by
    intro w b hw hb
    unfold bestT
    split<;>omega
   have hB':=hB ((inE true s l x e st).1 x e) (inE true s l x e st).2 (by omega) i3.1
   refine⟨leT_trans i1 hI.1,fun y f hy=>?_,⟨hB'.1,fun h0=>?_⟩,fun f hf h0=>?_⟩
   ·show inI s l x e _ l.length _ y f=_
    rw[inI_old hy,i2 y f hy]
   ·have:=i3.2 h0;have:=hB'.2.1 this.1;simp only;omega
   ·by_cases k:f=e
    ·subst k
     rw[hv]at hI hB'
     simp only
     rw[hv]
     exact⟨hI.2,fun h=>hB'.2.2 h⟩
    ·have:=i4 f (by omega) h0
     refine⟨next_le hI.1 this.1,fun h=>?_⟩
     have h1:=this.2 h
     have h2:=hB'.2.1 h1.1
     simp only;omega
theorem full_inX {s:Nat} {l:List S58} (X:Nat):
  (-1≤(inX true s l X (T0,-1)).2)∧(inX true s l X (T0,-1)).1 0 0=0∧∀ x,x<X→∀ f,f≤s→0≤(inX true s l X (T0,-1)).1 x f→next s l (inX true s l X (T0,-1)).1 x f ((inX true s l X (T0,-1)).1 x f) l.length∧(f=s→0≤(inX true s l X (T0,-1)).2∧(inX true s l X (T0,-1)).2≤(inX true s l X (T0,-1)).1 x f):=by
 induction X with
 | zero=>exact⟨Int.le_refl _,by show T0 0 0=0;unfold T0;simp,fun x hx=>by omega⟩
 | succ X ih=>
  obtain⟨i1,i2,i3⟩:=ih
  obtain⟨h1,h2,h3,h4⟩:=full_inE (s:=s) (l:=l) (x:=X) (inX true s l X (T0,-1)) i1 (s+1)
  unfold inX
  refine⟨h3.1,by rw[h2 0 0 (by omega)];exact i2,fun x hx f hf h0=>?_⟩
  rw[h2 x f (by omega)]at h0⊢
  by_cases k:x=X
  ·subst k;exact h4 f (by omega) h0
  ·have:=i3 x (by omega) f hf h0
   refine⟨next_le h1 this.1,fun h=>?_⟩
   have a:=this.2 h
   have b:=h3.2 a.1
   omega
theorem lsum_full {s:Nat} {l:List S58} (hl:l.length≤6) (hc:∀ j,j<l.length→sC s l j) {p:Nat→Int} (hp:Pl s s l p) (hcv:Cov l (2^l.length-1) p s):0≤lsum true s l∧lsum true s l≤cost l p:=by
 have h64:=pow_le64 hl
 have hpos:=Nat.two_pow_pos l.length
 obtain⟨_,f2,f3⟩:=full_inX (s:=s) (l:=l) (2^l.length)
 unfold lsum
 generalize inX true s l (2^l.length) (T0,-1)=st at*
 have key:∀ c,c<2^l.length→∀ M:Int,M≤s→Cov l c p M→∃ y e:Nat,y<2^l.length∧(∀ j,j<l.length→bitA y j=1→bitA c j=1)∧e≤s∧M≤e∧got st.1 y e (sm l.length (onF y (gpF l p))):=by
  intro c
  induction c using Nat.strongRecOn with
  | _ c ih=>
   intro hcl M hMs hM
   by_cases h1:1≤M
   ·obtain⟨i,hi,hb,i1,i2,hcv⟩:=cov_last (by omega) hl hM h1
    have hm:=mx_ge 0 (p i-bRe l i)
    have hpi:=(hp i hi).1
    have hri:=(hc i hi).2
    have hlt0:=bit_sub_lt hb
    obtain⟨y,e,hy,hsub,hes,hMe,hg⟩:=ih (c-2^i) hlt0 (by omega) _ (by omega) hcv
    have hd:∀ j,j<l.length→bitA y j=1→j≠i∧bitA c j=1:=fun j hj hj1=>(bit_drop (by omega) (by omega) (by omega) hb).1 (hsub j hj hj1)
    by_cases hfm:M≤e
    ·exact⟨y,e,hy,fun j hj h=>(hd j hj h).2,hes,hfm,hg⟩
    ·have hyi:bitA y i=0:=(bit_cases y i).resolve_right (fun h=>(hd i hi h).1 rfl)
     obtain⟨q,hq⟩:∃ q:Nat,p i=q:=⟨(p i).toNat,by omega⟩
     have hbi:bRe l i=(l.getD i z58).f1:=rfl
     have hn:=(f3 y hy e hes hg.1).1 i hi hyi q (by omega) (by omega) (by omega)
     have hon:=bitA_on (c:=y) (n:=i) (by omega) (by omega) hyi
     obtain⟨b1,b2,b3⟩:=on_bit (x:=y) (i:=i) (by omega) (by omega) hyi
     have hlt:y+2^i<2^l.length:=by
      rcases Nat.lt_or_ge (y+2^i) (2^l.length)with k|k
      ·exact k
      ·exact absurd k (by have:=bit_fit hl (c:=y) (i:=i) hi hy hyi;omega)
     have hmn:=mn_le (s:Int) ((q:Int)+bRe l i+1)
     have hsum:=on_drop b1 hl (gpF l p) hi b2
     rw[b3]at hsum
     have hgi:gpF l p i=gpP (bAt l i) q:=by unfold gpF gpP;rw[hq]
     refine⟨y+2^i,_,hlt,fun j hj h=>?_,?_,?_,hn.1,?_⟩
     ·rcases(hon.2 j (by omega)).1 h with e|e
      ·subst e;exact hb
      ·exact(hd j hj e).2
     ·omega
     ·omega
     ·have:=hn.2;have:=hg.2;omega
   ·refine⟨0,0,hpos,fun j hj h=>?_,by omega,by omega,by rw[f2];omega,?_⟩
    ·rw[bit_none]at h;omega
    ·rw[f2]
     exact sm_nn (fun j _=>by have:=gpF_nn l p j;unfold onF;split<;>omega)
 obtain⟨y,e,hy,_,hes,hse,hg⟩:=key (2^l.length-1) (by omega) s (Int.le_refl _) hcv
 obtain rfl:e=s:=by omega
 have h1:=(f3 y hy e (Nat.le_refl _) hg.1).2 rfl
 have h2:=on_le (n:=l.length) (c:=y) (f:=gpF l p) (fun j _=>gpF_nn l p j)
 have h3:=hg.2
 unfold cost
 omega
theorem insK_perm (x:S58) (l:List S58):∀ k,(insK x l k).Perm (x::l):=by
 intro k
 induction k with
 | zero=>exact List.Perm.refl _
 | succ k ih=>
  unfold insK
  split
  ·exact ih
  ·have h:=List.perm_middle (a:=x) (l₁:=l.take (k+1)) (l₂:=l.drop (k+1))
   rw[List.take_append_drop]at h
   exact h
theorem srtN_perm (l:List S58):∀ i,i≤l.length→(srtN l i).Perm (l.take i):=by
 intro i
 induction i with
 | zero=>intro _;rw[List.take_zero];exact List.Perm.refl _
 | succ i ih=>
  intro hi
  have e:l.take (i+1)=l.take i++[l.getD i z58]:=by
   rw[List.take_succ_eq_append_getElem (by omega)];congr 1;simp[List.getD,(show i<l.length by omega)]
  unfold srtN
  rw[e]
  exact(insK_perm _ _ i).trans (((ih (by omega)).cons _).trans (List.perm_append_singleton _ _).symm)
theorem srt_perm (l:List S58): (srtN l l.length).Perm l:=by
 have:=srtN_perm l l.length (Nat.le_refl _)
 rwa [List.take_length]at this
def Pv (n d:Int) (y:S58 × Int):Prop:=(0≤y.2∧y.2≤n-1)∧y.1.f0-d≤y.2∧y.2≤y.1.f0+d
def CovL (ps:List (S58 × Int)) (M:Int):Prop:=∀ x:Int,0≤x→x<M→∃ y∈ps,y.2-y.1.f1≤x∧x≤y.2+y.1.f1
theorem perm_lift {L L':List S58} (h:L.Perm L'):∀ ps:List (S58 × Int),ps.map Prod.fst=L→∃ ps':List (S58 × Int),ps'.map Prod.fst=L'∧ps'.Perm ps:=by
 induction h with
 | nil=>intro ps h;exact⟨ps,h,List.Perm.refl _⟩
 | cons x _ ih=>
  intro ps h
  cases ps with
  | nil=>simp at h
  | cons y t=>
   rw[List.map_cons,List.cons.injEq]at h
   obtain⟨t',h1,h2⟩:=ih t h.2
   exact⟨y::t',by rw[List.map_cons,h1,h.1],h2.cons _⟩
 | swap x y l=>
  intro ps h
  match ps,h with
  | a::b::t,h=>
   simp only[List.map_cons,List.cons.injEq]at h
   exact⟨b::a::t,by simp only[List.map_cons,h.1,h.2.1,h.2.2],List.Perm.swap _ _ _⟩
 | trans _ _ ih1 ih2=>
  intro ps h
  obtain⟨p1,h1,h2⟩:=ih1 ps h
  obtain⟨p2,h3,h4⟩:=ih2 p1 h1
  exact⟨p2,h3,h4.trans h2⟩
theorem toFun {n d:Int} {l:List S58} (hl:l.length≤6) {ps:List (S58 × Int)} (h:ps.map Prod.fst=l) (hv:∀ y∈ps,Pv n d y) {M:Int} (hc:CovL ps M):∃ p,Pl n d l p∧Cov l (2^l.length-1) p M:=by
 have hlen:ps.length=l.length:=by rw[←h,List.length_map]
 have hg:∀ j (hj:j<ps.length),l.getD j z58=ps[j].1:=by
  intro j hj
  subst h
  simp[List.getD,hj]
 have hp:∀ j (hj:j<ps.length),(ps.getD j (z58,0)).2=ps[j].2:=by
  intro j hj
  simp[List.getD,hj]
 refine⟨fun j=>(ps.getD j (z58,0)).2,fun j hj=>?_,fun x x0 x1=>?_⟩
 ·have h1:=hv _ (List.getElem_mem (show j<ps.length by omega))
  unfold Pv at h1
  unfold bAt
  rw[hg j (by omega)]
  simp only[hp j (show j<ps.length by omega)]
  exact h1
 ·obtain⟨y,hy,y1,y2⟩:=hc x x0 x1
  obtain⟨j,hj,e⟩:=List.getElem_of_mem hy
  refine⟨j,by omega,bit_full hl (by omega),?_⟩
  unfold bRe
  rw[hg j hj]
  simp only[hp j hj,e]
  exact⟨y1,y2⟩
theorem toList {n d:Int} {l:List S58} {p:Nat→Int} (hp:Pl n d l p) {c:Nat} {M:Int} (hc:Cov l c p M):∃ ps:List (S58 × Int),ps.map Prod.fst=l∧(∀ y∈ps,Pv n d y)∧CovL ps M:=by
 have hlen: (tg l.length (fun j=>(l.getD j z58,p j))).length=l.length:=tg_len _ _
 have hget:∀ j (hj:j<l.length),(tg l.length (fun j=>(l.getD j z58,p j)))[j]'(by omega)=(l.getD j z58,p j):=by
  intro j hj
  simp[tg]
 refine⟨tg l.length (fun j=>(l.getD j z58,p j)),?_,fun y hy=>?_,fun x x0 x1=>?_⟩
 ·apply List.ext_getElem
  ·rw[List.length_map,hlen]
  ·intro i h1 h2
   rw[List.getElem_map,hget i h2]
   simp[List.getD,h2]
 ·obtain⟨j,hj,e⟩:=List.getElem_of_mem hy
  rw[hget j (by omega)]at e
  subst e
  exact hp j (by omega)
 ·obtain⟨j,hj,_,j1,j2⟩:=hc x x0 x1
  refine⟨(l.getD j z58,p j),?_,j1,j2⟩
  rw[←hget j hj]
  exact List.getElem_mem _
theorem dpS_snoc (n:Nat) (d:Int) (E:List Int) (L:List S58) (x:S58):dpS n d E (L++[x])=tab n (nxt d x.f0 x.f1 (dpS n d E L)):=by
 induction L generalizing E with
 | nil=>rfl
 | cons y L ih=>exact ih _
theorem pm_mem (E:List Int) (p:Nat):pm E p=-1∨∃ q,q<p∧pm E p=rd E (q:Int):=by
 induction p with
 | zero=>exact .inl rfl
 | succ p ih=>
  unfold pm
  rcases(mx_ge (pm E p) (rd E (p:Int))).2.2 with e|e
  ·rw[e]
   rcases ih with h|⟨q,hq,h⟩
   ·exact .inl h
   ·exact .inr ⟨q,by omega,h⟩
  ·rw[e];exact .inr ⟨p,by omega,rfl⟩
def dE (n:Nat) (d:Int) (L:List S58):List Int:=dpS n d (tab n (fun q=>if q=0 then 0 else-1)) L
theorem rev_ind {α:Type} {P:List α→Prop} (h0:P []) (h1:∀ l x,P l→P (l++[x])) (l:List α):P l:=by
 have:∀ n (l:List α),l.length=n→P l:=by
  intro n
  induction n with
  | zero=>intro l h;rw[List.length_eq_zero_iff.1 h];exact h0
  | succ n ih=>
   intro l h
   rcases List.eq_nil_or_concat l with e|⟨a,x,e⟩
   ·subst e;simp at h
   ·rw[List.concat_eq_append]at e
    subst e
    exact h1 a x (ih a (by simp at h;exact h))
 exact this _ l rfl
theorem dp_sound {n:Nat} {d:Int} (L:List S58):∀ q,q<n→0≤rd (dE n d L) (q:Int)→∃ ps:List (S58 × Int),ps.map Prod.fst=L∧(∀ y∈ps,Pv n d y)∧CovL ps (rd (dE n d L) (q:Int)):=by
 refine rev_ind (P:=fun L=>∀ q,q<n→0≤rd (dE n d L) (q:Int)→∃ ps:List (S58 × Int),ps.map Prod.fst=L∧(∀ y∈ps,Pv n d y)∧CovL ps (rd (dE n d L) (q:Int))) ?_ ?_ L
 ·intro q hq h0
  refine⟨[],rfl,fun y hy=>absurd hy List.not_mem_nil,fun x x0 x1=>?_⟩
  have e:rd (dE n d []) (q:Int)=if q=0 then 0 else-1:=tab_rd hq
  rw[e]at x1
  split at x1<;>omega
 ·intro L x ih q hq h0
  have e:rd (dE n d (L++[x])) (q:Int)=nxt d x.f0 x.f1 (dE n d L) q:=by
   unfold dE;rw[dpS_snoc,tab_rd hq]
  rw[e]at h0⊢
  unfold nxt at h0⊢
  by_cases c1:pm (dE n d L) (q+1)<0
  ·rw[if_pos c1]at h0;omega
  rw[if_neg c1]at h0⊢
  by_cases c2:d<mx (x.f0-q) ((q:Int)-x.f0)
  ·rw[if_pos c2]at h0;omega
  rw[if_neg c2]at h0⊢
  have hm:=mx_ge (x.f0-q) ((q:Int)-x.f0)
  rcases pm_mem (dE n d L) (q+1)with k|⟨q',hq',k⟩
  ·omega
  obtain⟨ps,h1,h2,h3⟩:=ih q' (by omega) (by omega)
  rw[←k]at h3
  have hm2:=mx_ge (pm (dE n d L) (q+1)) ((q:Int)+x.f1+1)
  refine⟨ps++[(x,(q:Int))],by rw[List.map_append,h1];rfl,fun y hy=>?_,fun y y0 y1=>?_⟩
  ·rcases List.mem_append.1 hy with hy|hy
   ·exact h2 y hy
   ·rw[List.mem_singleton.1 hy]
    unfold Pv;simp only;omega
  ·by_cases c3: (q:Int)-x.f1≤pm (dE n d L) (q+1)
   ·rw[if_pos c3]at y1
    by_cases c4:y<pm (dE n d L) (q+1)
    ·obtain⟨z,hz,z1⟩:=h3 y y0 c4
     exact⟨z,List.mem_append_left _ hz,z1⟩
    ·exact⟨(x,(q:Int)),by simp,by simp only;omega,by simp only;omega⟩
   ·rw[if_neg c3]at y1
    obtain⟨z,hz,z1⟩:=h3 y y0 y1
    exact⟨z,List.mem_append_left _ hz,z1⟩
def bub:List (S58 × Int)→Int→List (S58 × Int)× Int
 | [],v=>([],v)
 | y::t,v=>if y.2≤v then(y:: (bub t v).1,(bub t v).2)else((y.1,v):: (bub t y.2).1,(bub t y.2).2)
theorem bub_ok {n d:Int} {x:S58}:∀ (ps:List (S58 × Int)) (v:Int),(∀ y∈ps,Pv n d y∧y.1.f0≤x.f0)→Pv n d (x,v)→
  (bub ps v).1.map Prod.fst=ps.map Prod.fst∧(∀ y∈(bub ps v).1,Pv n d y∧y.2≤(bub ps v).2)∧Pv n d (x,(bub ps v).2)∧v≤(bub ps v).2∧
  (∀ w:Int,w=v∨(∃ y∈ps,y.2=w)→w=(bub ps v).2∨∃ y∈(bub ps v).1,y.2=w)∧((bub ps v).2=v∨∃ y∈ps,y.2=(bub ps v).2):=by
 intro ps
 induction ps with
 | nil=>intro v _ hx;exact⟨rfl,fun y hy=>absurd hy List.not_mem_nil,hx,Int.le_refl _,fun w hw=> .inl (hw.elim id (fun⟨y,hy,_⟩=>absurd hy List.not_mem_nil)), .inl rfl⟩
 | cons y t ih=>
  intro v hps hx
  have hy:=hps y List.mem_cons_self
  have ht:=fun z hz=>hps z (List.mem_cons_of_mem _ hz)
  unfold bub
  by_cases c:y.2≤v
  ·rw[if_pos c]
   obtain⟨i1,i2,i3,i4,i5,i6⟩:=ih v ht hx
   refine⟨by simp only[List.map_cons,i1],fun z hz=>?_,i3,i4,fun w hw=>?_,?_⟩
   ·rcases List.mem_cons.1 hz with e|hz
    ·subst e;exact⟨hy.1,Int.le_trans c i4⟩
    ·exact i2 z hz
   ·have:w=y.2∨(w=v∨∃ z∈t,z.2=w):=by
     rcases hw with e|⟨z,hz,e⟩
     ·exact .inr (.inl e)
     ·rcases List.mem_cons.1 hz with e2|hz
      ·subst e2;exact .inl e.symm
      ·exact .inr (.inr ⟨z,hz,e⟩)
    rcases this with e|h
    ·exact .inr ⟨y,List.mem_cons_self,e.symm⟩
    ·rcases i5 w h with e|⟨z,hz,e⟩
     ·exact .inl e
     ·exact .inr ⟨z,List.mem_cons_of_mem _ hz,e⟩
   ·rcases i6 with e|⟨z,hz,e⟩
    ·exact .inl e
    ·exact .inr ⟨z,List.mem_cons_of_mem _ hz,e⟩
  ·rw[if_neg c]
   have hy1:=hy.1
   have hx1:Pv n d (x,y.2):=by unfold Pv at*;simp only at*;omega
   have hy2:Pv n d (y.1,v):=by unfold Pv at*;simp only at*;omega
   obtain⟨i1,i2,i3,i4,i5,i6⟩:=ih y.2 ht hx1
   refine⟨by simp only[List.map_cons,i1],fun z hz=>?_,i3,by simp only;omega,fun w hw=>?_,?_⟩
   ·rcases List.mem_cons.1 hz with e|hz
    ·subst e;exact⟨hy2,by simp only;omega⟩
    ·exact i2 z hz
   ·have:w=v∨(w=y.2∨∃ z∈t,z.2=w):=by
     rcases hw with e|⟨z,hz,e⟩
     ·exact .inl e
     ·rcases List.mem_cons.1 hz with e2|hz
      ·subst e2;exact .inr (.inl e.symm)
      ·exact .inr (.inr ⟨z,hz,e⟩)
    rcases this with e|h
    ·exact .inr ⟨(y.1,v),List.mem_cons_self,e.symm⟩
    ·rcases i5 w h with e|⟨z,hz,e⟩
     ·exact .inl e
     ·exact .inr ⟨z,List.mem_cons_of_mem _ hz,e⟩
   ·rcases i6 with e|⟨z,hz,e⟩
    ·exact .inr ⟨y,List.mem_cons_self,e.symm⟩
    ·exact .inr ⟨z,List.mem_cons_of_mem _ hz,e⟩
theorem dp_full {n:Nat} {d r:Int} (h0:0<n) (hr:0≤r) (L:List S58):byPlace L→(∀ x∈L,x.f1=r)→∀ (ps:List (S58 × Int)) (M:Int) (Q:Nat),ps.map Prod.fst=L→(∀ y∈ps,Pv n d y∧y.2≤Q)→Q<n→CovL ps M→M≤pm (dE n d L) (Q+1):=by
 refine rev_ind (P:=fun L=>byPlace L→(∀ x∈L,x.f1=r)→∀ (ps:List (S58 × Int)) (M:Int) (Q:Nat),ps.map Prod.fst=L→(∀ y∈ps,Pv n d y∧y.2≤Q)→Q<n→CovL ps M→M≤pm (dE n d L) (Q+1)) ?_ ?_ L
 ·intro _ _ ps M Q hm _ hQ hc
  have hge:=pm_ge (dE n d []) (Q+1) 0 (by omega)
  have e:rd (dE n d []) ((0:Nat):Int)=0:=by
   have:=tab_rd (n:=n) (f:=fun q=>if q=0 then(0:Int)else-1) h0
   rw[if_pos rfl]at this
   exact this
  have hM:M≤0:=by
   rcases Int.lt_or_le 0 M with k|k
   ·obtain⟨y,hy,_⟩:=hc 0 (Int.le_refl _) k
    rw[List.map_eq_nil_iff.1 hm]at hy
    exact absurd hy List.not_mem_nil
   ·exact k
  omega
 ·intro L x ih hs hf ps M Q hm hv hQ hc
  have hs2:=List.pairwise_append.1 hs
  obtain⟨p0,y0,rfl⟩:∃ p0 y0,ps=p0++[y0]:=by
   rcases List.eq_nil_or_concat ps with e|⟨a,y,e⟩
   ·subst e;simp at hm
   ·exact⟨a,y,by rw[e,List.concat_eq_append]⟩
  have hm2:=hm
  rw[List.map_append]at hm2
  obtain⟨m1,m2⟩:=List.append_inj' hm2 rfl
  have m3:y0.1=x:=by simpa using m2
  have hy0:=hv y0 (by simp)
  have hmem:∀ z,z∈p0→z.1∈L:=fun z hz=>by rw[←m1];exact List.mem_map_of_mem hz
  have hfx:x.f1=r:=hf x (by simp)
  have hfL:∀ z∈L,z.f1=r:=fun z hz=>hf z (List.mem_append_left _ hz)
  obtain⟨b1,b2,b3,b4,b5,b6⟩:=bub_ok (n:=n) (d:=d) (x:=x) p0 y0.2 (fun z hz=>⟨(hv z (List.mem_append_left _ hz)).1,hs2.2.2 _ (hmem z hz) x (by simp)⟩) (by rw[←m3];exact hy0.1)
  generalize bub p0 y0.2=bb at*
  obtain⟨p1,q⟩:=bb
  simp only at b1 b2 b3 b4 b5 b6
  have hqQ:q≤Q:=by
   rcases b6 with e|⟨z,hz,e⟩
   ·rw[e];exact hy0.2
   ·rw[←e];exact(hv z (List.mem_append_left _ hz)).2
  have hq:=b3.1
  simp only at hq
  obtain⟨k,rfl⟩:∃ k:Nat,q=k:=⟨q.toNat,by omega⟩
  have hp1:p1.map Prod.fst=L:=b1.trans m1
  have hmem1:∀ z,z∈p1→z.1.f1=r:=fun z hz=>hfL _ (by rw[←hp1];exact List.mem_map_of_mem hz)
  have hcov:∀ N:Int,N≤M→N≤mx 0 ((k:Int)-r)→CovL p1 N:=by
   intro N hN1 hN2 y y1 y2
   have hmm:=mx_ge 0 ((k:Int)-r)
   obtain⟨z,hz,z1,z2⟩:=hc y y1 (by omega)
   have hzf:z.1.f1=r:=hf _ (by rw[←hm];exact List.mem_map_of_mem hz)
   have hw:z.2=y0.2∨∃ u∈p0,u.2=z.2:=by
    rcases List.mem_append.1 hz with h|h
    ·exact .inr ⟨z,h,rfl⟩
    ·rw[List.mem_singleton.1 h];exact .inl rfl
   rcases b5 z.2 hw with e|⟨u,hu,e⟩
   ·omega
   ·have:=hmem1 u hu
    exact⟨u,hu,by omega,by omega⟩
  have hv1:∀ y∈p1,Pv n d y∧y.2≤(k:Int):=b2
  have hm3:=mx_ge 0 ((k:Int)-r)
  have hge:=pm_ge (dE n d (L++[x])) (Q+1) k (by omega)
  have e:rd (dE n d (L++[x])) (k:Int)=nxt d x.f0 x.f1 (dE n d L) k:=by
   unfold dE;rw[dpS_snoc,tab_rd (by omega)]
  have hgap:=mx_ge (x.f0-k) ((k:Int)-x.f0)
  have hpx:=b3.2
  simp only at hpx
  refine Int.le_trans ?_ hge
  rw[e]
  unfold nxt
  have hm4:=mx_ge (pm (dE n d L) (k+1)) ((k:Int)+x.f1+1)
  by_cases c:M≤(k:Int)-r
  ·have hI:=ih hs2.1 hfL p1 M k hp1 hv1 (by omega) (hcov M (Int.le_refl _) (by omega))
   have hI0:=ih hs2.1 hfL p1 0 k hp1 hv1 (by omega) (fun y y1 y2=>by omega)
   rw[if_neg (by omega),if_neg (by omega)]
   split<;>omega
  ·have hI0:=ih hs2.1 hfL p1 0 k hp1 hv1 (by omega) (fun y y1 y2=>by omega)
   have hI: (k:Int)-r≤pm (dE n d L) (k+1):=by
    by_cases c2:0≤(k:Int)-r
    ·exact ih hs2.1 hfL p1 ((k:Int)-r) k hp1 hv1 (by omega) (hcov _ (by omega) (by omega))
    ·omega
   have hMk:M≤(k:Int)+r+1:=by
    rcases Int.lt_or_le 0 M with h|h
    ·obtain⟨z,hz,z1,z2⟩:=hc (M-1) (by omega) (by omega)
     have hzf:z.1.f1=r:=hf _ (by rw[←hm];exact List.mem_map_of_mem hz)
     have hw:z.2=y0.2∨∃ u∈p0,u.2=z.2:=by
      rcases List.mem_append.1 hz with h|h
      ·exact .inr ⟨z,h,rfl⟩
      ·rw[List.mem_singleton.1 h];exact .inl rfl
     rcases b5 z.2 hw with e|⟨u,hu,e⟩
     ·omega
     ·have:=(b2 u hu).2;omega
    ·omega
   rw[if_neg (by omega),if_neg (by omega),if_pos (by omega)]
   omega
theorem ord_iff {n:Nat} {d:Int} {l:List S58} (hv:sensV (n:Int) false l=true) (hd:0≤d∧d≤24):inOrdB (n:Int) d l=true↔∃ q,q<n∧(n:Int)≤rd (dE n d (srtN l l.length)) (q:Int):=by
 have h:=sens_of hv
 have:=(dp_iff (n:=n) (by omega) hd (srtN l l.length) (srtN_pw l l.length) (srtN_ok hv)).2
 unfold inOrdB
 rw[decide_eq_true_iff,←this]
 rfl
theorem ord_can {n:Nat} {d:Int} {l:List S58} (hv:sensV (n:Int) false l=true) (hd:0≤d∧d≤24) (h:inOrdB (n:Int) d l=true):canB (n:Int) d l=true:=by
 have hs:=sens_of hv
 obtain⟨q,hq,hle⟩:=(ord_iff hv hd).1 h
 obtain⟨ps,h1,h2,h3⟩:=dp_sound (d:=d) (srtN l l.length) q hq (by omega)
 obtain⟨ps',h4,h5⟩:=perm_lift (srt_perm l) ps h1
 rw[canB_iff (by omega) hd hs.2.1 hs.2.2]
 exact toFun hs.2.1 h4 (fun y hy=>h2 y (h5.mem_iff.1 hy)) (fun x x0 x1=>by
  obtain⟨y,hy,hh⟩:=h3 x x0 (by omega)
  exact⟨y,h5.mem_iff.2 hy,hh⟩)
theorem can_ord {n:Nat} {d:Int} {l:List S58} (hv:sensV (n:Int) false l=true) (hd:0≤d∧d≤24) (hsame:∀ j,j<l.length→bRe l j=bRe l 0) (h:canB (n:Int) d l=true):inOrdB (n:Int) d l=true:=by
 have hs:=sens_of hv
 obtain⟨p,hp,hc⟩:=(canB_iff (by omega) hd hs.2.1 hs.2.2).1 h
 obtain⟨ps,h1,h2,h3⟩:=toList hp hc
 obtain⟨ps',h4,h5⟩:=perm_lift (srt_perm l).symm ps h1
 have hl0:0<l.length:=by
  obtain⟨j,hj,_⟩:=hc 0 (by omega) (by omega)
  omega
 have hmem:∀ x∈srtN l l.length,x.f1=bRe l 0:=fun x hx=>by
  have hx2:=(srt_perm l).mem_iff.1 hx
  obtain⟨j,hj,e⟩:=List.getElem_of_mem hx2
  have:=hsame j hj
  unfold bRe at this⊢
  rw[←this,←e]
  simp[List.getD,hj]
 have hr0:=(hs.2.2 0 hl0).2
 have:=dp_full (n:=n) (d:=d) (r:=bRe l 0) (by omega) (by unfold bRe;omega) (srtN l l.length) (srtN_pw l l.length) hmem ps' n (n-1) h4 (fun y hy=>by
  have:=h2 y (h5.mem_iff.1 hy)
  refine⟨this,?_⟩
  unfold Pv at this;omega) (by omega) (fun x x0 x1=>by
  obtain⟨y,hy,hh⟩:=h3 x x0 x1
  exact⟨y,h5.mem_iff.2 hy,hh⟩)
 rw[ord_iff hv hd]
 rcases pm_mem (dE n d (srtN l l.length)) (n-1+1)with k|⟨q,hq,k⟩
 ·omega
 ·exact⟨q,by omega,by omega⟩
theorem g_rmin (a:Int) (f:Nat→Int) (n:Nat): (rmin a f n≤a∧∀ j,j<n→rmin a f n≤f j)∧(rmin a f n=a∨∃ j,j<n∧rmin a f n=f j):=by
 induction n with
 | zero=>exact⟨⟨Int.le_refl _,fun j hj=>by omega⟩, .inl rfl⟩
 | succ n ih=>
  have h:=mn_le (rmin a f n) (f n)
  refine⟨⟨Int.le_trans h.1 ih.1.1,fun j hj=>?_⟩,?_⟩
  ·by_cases e:j=n
   ·subst e;exact h.2.1
   ·exact Int.le_trans h.1 (ih.1.2 j (by omega))
  ·rcases h.2.2 with h|h
   ·rcases ih.2 with e|⟨j,hj,e⟩
    ·exact .inl (h.trans e)
    ·exact .inr ⟨j,by omega,h.trans e⟩
   ·exact .inr ⟨n,by omega,h⟩
theorem g_strL_pos {l:List Int} (h:0<l.length):0<strL l↔∀ i,i<l.length→0<rd l (i:Int):=by
 have:=g_rmin (rd l 0) (fun j=>rd l ((j+1:Nat):Int)) (l.length-1)
 unfold strL
 constructor
 ·intro h0 i hi
  cases i with
  | zero=>have:=this.1.1;exact Int.lt_of_lt_of_le h0 this
  | succ i=>have:=this.1.2 i (by omega);exact Int.lt_of_lt_of_le h0 this
 ·intro h0
  rcases this.2 with e|⟨j,hj,e⟩
  ·rw[e];exact h0 0 h
  ·rw[e];exact h0 (j+1) (by omega)
theorem see_cov (l:List S58) (p j:Nat):see l p j=1↔bAt l j-bRe l j≤(p:Int)∧(p:Int)≤bAt l j+bRe l j:=by
 have:=mx_ge ((l.getD j z58).f0-p) ((p:Int)-(l.getD j z58).f0)
 unfold see bAt bRe
 split<;>omega
theorem sm_pos {n:Nat} {f:Nat→Int} (h:∀ j,j<n→0≤f j):0<sm n f↔∃ j,j<n∧0<f j:=by
 constructor
 ·intro h0
  induction n with
  | zero=>exact absurd h0 (by simp[sm])
  | succ n ih=>
   rw[sm_succ]at h0
   by_cases c:0<f n
   ·exact⟨n,by omega,c⟩
   ·obtain⟨j,hj,h1⟩:=ih (fun j hj=>h j (by omega)) (by omega)
    exact⟨j,by omega,h1⟩
 ·rintro⟨j,hj,h1⟩
  have:=sm_one_le h hj
  omega
theorem str_cov {n:Nat} {l:List S58} (h0:0<n) (hl:l.length≤6):0<strL (seenL n l)↔Cov l (2^l.length-1) (bAt l) n:=by
 have hlen: (seenL n l).length=n:=tab_len _ _
 have hnn:∀ p j,0≤see l p j:=fun p j=>by unfold see;split<;>omega
 rw[g_strL_pos (by omega),hlen]
 constructor
 ·intro h x x0 x1
  obtain⟨p,rfl⟩:∃ p:Nat,x=p:=⟨x.toNat,by omega⟩
  have h1:=h p (by omega)
  unfold seenL at h1
  rw[tab_rd (by omega)]at h1
  obtain⟨j,hj,h2⟩:=(sm_pos (fun j _=>hnn p j)).1 h1
  have h3:see l p j=1:=by unfold see at h2⊢;split at h2<;>simp_all
  have:=(see_cov l p j).1 h3
  exact⟨j,hj,bit_full hl hj,this⟩
 ·intro h p hp
  obtain⟨j,hj,_,j1,j2⟩:=h p (by omega) (by omega)
  have h3:=(see_cov l p j).2 ⟨j1,j2⟩
  unfold seenL
  rw[tab_rd hp]
  exact(sm_pos (fun j _=>hnn p j)).2 ⟨j,hj,by omega⟩
def Gd (n d:Int) (l:List S58):Prop:=∃ p,Pl n d l p∧Cov l (2^l.length-1) p n
theorem first_spec (f:Nat→Bool):∀ (k i:Nat),((firstFrom f i k).2=true→∃ d:Nat,(firstFrom f i k).1=d∧i≤d∧d<i+k∧f d=true)∧(∀ d,i≤d→d<i+k→f d=true→(firstFrom f i k).2=true∧(firstFrom f i k).1≤d):=by
 intro k
 induction k with
 | zero=>intro i;exact⟨fun h=>by simp[firstFrom]at h,fun d h1 h2=>by omega⟩
 | succ k ih=>
  intro i
  unfold firstFrom
  by_cases c:f i=true
  ·rw[if_pos c]
   exact⟨fun _=>⟨i,rfl,by omega,by omega,c⟩,fun d h1 _ _=>⟨rfl,by simp only;omega⟩⟩
  ·rw[if_neg c]
   obtain⟨h1,h2⟩:=ih (i+1)
   refine⟨fun h=>?_,fun d h3 h4 h5=>?_⟩
   ·obtain⟨d,e,a,b,g⟩:=h1 h
    exact⟨d,e,by omega,by omega,g⟩
   ·exact h2 d (by
     rcases Nat.lt_or_ge i d with k|k
     ·exact k
     ·have:d=i:=by omega
      subst this;exact absurd h5 c) (by omega) h5
theorem pl_far {n d e:Int} {l:List S58} {p:Nat→Int} (hc:∀ j,j<l.length→sC n l j) (h:Pl n d l p) (he:∀ j,j<l.length→bAt l j-e≤p j∧p j≤bAt l j+e):Pl n e l p:=fun j hj=>⟨(h j hj).1,he j hj⟩
theorem pl_wide {n d e:Int} {l:List S58} {p:Nat→Int} (hc:∀ j,j<l.length→sC n l j) (h:Pl n d l p) (he:d≤e∨n-1≤e):Pl n e l p:=fun j hj=>by
 have:=h j hj
 have:=(hc j hj).1
 unfold bAt at*
 omega
section
variable {n:Nat} {l:List S58} (hv:sensV (n:Int) false l=true)
include hv
theorem can_gd {d:Int} (hd:0≤d∧d≤24):canB (n:Int) d l=true↔Gd n d l:=by
 have hs:=sens_of hv
 exact canB_iff (by omega) hd hs.2.1 hs.2.2
theorem least_spec: ((leastR (n:Int) false l).2=true↔Gd n n l)∧(Gd n n l→∃ d:Nat,(leastR (n:Int) false l).1=d∧d<n∧Gd n d l∧∀ e:Int,Gd n e l→(d:Int)≤e):=by
 have hs:=sens_of hv
 have hf:=first_spec (fun d=>canB (n:Int) (d:Int) l) n 0
 have e:leastR (n:Int) false l=firstFrom (fun d=>canB (n:Int) (d:Int) l) 0 n:=by
  unfold leastR;rw[if_pos hv,Int.toNat_natCast]
 rw[e]
 have h2:Gd n n l→(firstFrom (fun d=>canB (n:Int) (d:Int) l) 0 n).2=true:=fun⟨p,hp,hc⟩=>
  (hf.2 (n-1) (by omega) (by omega) ((can_gd hv (d:=((n-1:Nat):Int)) (by omega)).2 ⟨p,pl_wide hs.2.2 hp (.inr (by omega)),hc⟩)).1
 refine⟨⟨fun h=>?_,h2⟩,fun h=>?_⟩
 ·obtain⟨d,_,_,h4,h5⟩:=hf.1 h
  obtain⟨p,hp,hc⟩:=(can_gd hv (d:=(d:Int)) (by omega)).1 h5
  exact⟨p,pl_wide hs.2.2 hp (.inl (by omega)),hc⟩
 ·obtain⟨d,h3,_,h4,h5⟩:=hf.1 (h2 h)
  refine⟨d,h3,by omega,(can_gd hv (d:=(d:Int)) (by omega)).1 h5,fun e he=>?_⟩
  by_cases k: (d:Int)≤e
  ·exact k
  ·obtain⟨p,hp,hc⟩:=he
   by_cases k0:0≤e
   ·obtain⟨q,rfl⟩:∃ q:Nat,e=q:=⟨e.toNat,by omega⟩
    have:=(hf.2 q (by omega) (by omega) ((can_gd hv (d:=(q:Int)) (by omega)).2 ⟨p,hp,hc⟩)).2
    rw[h3]at this;omega
   ·
    obtain⟨j,hj,_⟩:=hc 0 (by omega) (by omega)
    have:=hp j hj
    omega
theorem rad_ok:radOk l:=fun j hj=>by have:=((sens_of hv).2.2 j hj).2;omega
theorem sum_spec: ((sumR (n:Int) false l).2=true↔Gd n n l)∧(Gd n n l→(∃ p,Pl n n l p∧Cov l (2^l.length-1) p n∧cost l p≤(sumR (n:Int) false l).1)∧0≤(sumR (n:Int) false l).1∧∀ p,Pl n n l p→Cov l (2^l.length-1) p n→(sumR (n:Int) false l).1≤cost l p):=by
 have hs:=sens_of hv
 have e:sumR (n:Int) false l=foundR (lsum true n l):=by
  unfold sumR;rw[if_pos hv,Int.toNat_natCast,lsum_both (rad_ok hv)]
 rw[e]
 unfold foundR
 simp only
 have hm:=mx_ge 0 (lsum true n l)
 constructor
 ·rw[decide_eq_true_iff]
  constructor
  ·intro h
   obtain⟨p,h1,h2,_⟩:=lsum_sound hs.2.1 hs.2.2 (all:=true) h
   exact⟨p,h1,h2⟩
  ·rintro⟨p,h1,h2⟩
   exact(lsum_full hs.2.1 hs.2.2 h1 h2).1
 ·rintro⟨p,h1,h2⟩
  have hf:=lsum_full hs.2.1 hs.2.2 h1 h2
  obtain⟨q,q1,q2,q3⟩:=lsum_sound hs.2.1 hs.2.2 (all:=true) hf.1
  refine⟨⟨q,q1,q2,by omega⟩,by omega,fun p' h3 h4=>?_⟩
  have:=lsum_full hs.2.1 hs.2.2 h3 h4
  omega
theorem least_sum (h:Gd n n l): (leastR (n:Int) false l).1≤(sumR (n:Int) false l).1∧(sumR (n:Int) false l).1≤(l.length:Int)*(leastR (n:Int) false l).1∧((sumR (n:Int) false l).1=0↔0<strL (seenL n l))∧(n:Int)≤sm l.length (fun j=>2*bRe l j+1):=by
 have hs:=sens_of hv
 obtain⟨d,e1,e2,⟨pd,pd1,pd2⟩,e4⟩:=(least_spec hv).2 h
 obtain⟨⟨p,p1,p2,p3⟩,s0,s1⟩:=(sum_spec hv).2 h
 have hg:∀ j,j<l.length→gpF l p j≤(sumR (n:Int) false l).1:=fun j hj=>by
  have:=sm_one_le (n:=l.length) (f:=gpF l p) (fun j _=>gpF_nn l p j) hj
  unfold cost at p3
  omega
 refine⟨?_,?_,?_,?_⟩
 ·rw[e1]
  refine e4 _ ⟨p,pl_far hs.2.2 p1 (fun j hj=>?_),p2⟩
  have h1:=hg j hj
  have h2:=mx_ge (bAt l j-p j) (p j-bAt l j)
  unfold gpF at h1
  omega
 ·rw[e1]
  refine Int.le_trans (s1 pd (pl_wide hs.2.2 pd1 (.inl (by omega))) pd2) ?_
  have:=sm_le (n:=l.length) (f:=gpF l pd) (g:=fun _=>(d:Int)) (fun j hj=>by
   have h1:=pd1 j hj
   have h2:=mx_ge (bAt l j-pd j) (pd j-bAt l j)
   unfold gpF;omega)
  rw[sm_const]at this
  exact this
 ·rw[str_cov (by omega) hs.2.1]
  constructor
  ·intro h0 x x0 x1
   obtain⟨j,hj,jb,j1,j2⟩:=p2 x x0 x1
   have h1:=hg j hj
   have h2:=mx_ge (bAt l j-p j) (p j-bAt l j)
   unfold gpF at h1
   exact⟨j,hj,jb,by omega,by omega⟩
  ·intro hc
   have:=s1 (bAt l) (pl_own hs.2.2 (by omega)) hc
   have h0:cost l (bAt l)=0:=by
    unfold cost
    have:sm l.length (gpF l (bAt l))=sm l.length (fun _=>0):=sm_congr (fun q _=>by
     have:=mx_ge (bAt l q-bAt l q) (bAt l q-bAt l q)
     unfold gpF;omega)
    rw[this,sm_const];omega
   omega
 ·have:=cov_count hs.2.1 (fun j hj=>by have:=(hs.2.2 j hj).2;unfold bRe;omega) (2^l.length-1) (by have:=pow_le64 hs.2.1;have:=Nat.two_pow_pos l.length;omega) n p2
  rw[on_full hs.2.1]at this
  exact this
end
theorem g_mir {s:Int} {l:List S58} {j:Nat} (h:j<l.length): (mirS s l l.length).getD j z58=⟨s-1-(l.getD j z58).f0,(l.getD j z58).f1⟩:=tg_get h
theorem g_mirlen (s:Int) (l:List S58): (mirS s l l.length).length=l.length:=tg_len _ _
theorem g_mirmir (s:Int) (l:List S58):mirS s (mirS s l l.length) (mirS s l l.length).length=l:=by
 rw[g_mirlen]
 refine(tg_ext (d:=z58) rfl (fun q hq=>?_)).symm
 rw[g_mir hq]
 simp only
 rw[show s-1-(s-1-(l.getD q z58).f0)=(l.getD q z58).f0 by omega]
theorem g_mirsens {s:Int} {r:Bool} {l:List S58} (h:sensV s r l=true):sensV s r (mirS s l l.length)=true:=by
 obtain⟨h1,h2,h3⟩:=sens_of h
 have e:=g_mirlen s l
 unfold sensV at h⊢
 rw[Bool.and_eq_true,Bool.and_eq_true]at h⊢
 rw[e]
 refine⟨⟨h.1.1,decide_eq_true (by omega)⟩,decide_eq_true (fun j hj _=>?_)⟩
 have:=h3 j hj
 unfold sC at this⊢
 rw[g_mir hj]
 simp only
 omega
theorem mir_pl {n d:Int} {l:List S58} {p:Nat→Int} (h:Pl n d l p):Pl n d (mirS n l l.length) (fun j=>n-1-p j):=by
 intro j hj
 rw[g_mirlen]at hj
 have:=h j hj
 unfold bAt at*
 rw[g_mir hj]
 simp only
 omega
theorem mir_cov {n:Int} {l:List S58} {p:Nat→Int} (h:Cov l (2^l.length-1) p n):Cov (mirS n l l.length) (2^ (mirS n l l.length).length-1) (fun j=>n-1-p j) n:=by
 intro x x0 x1
 obtain⟨j,hj,jb,j1,j2⟩:=h (n-1-x) (by omega) (by omega)
 rw[g_mirlen]
 refine⟨j,hj,jb,?_⟩
 unfold bRe at*
 rw[g_mir hj]
 simp only
 omega
theorem mir_cost (n:Int) (l:List S58) (p:Nat→Int):cost (mirS n l l.length) (fun j=>n-1-p j)=cost l p:=by
 unfold cost
 rw[g_mirlen]
 refine sm_congr (fun q hq=>?_)
 have h1:=mx_ge (bAt l q-p q) (p q-bAt l q)
 unfold gpF bAt at*
 rw[g_mir hq]
 simp only
 have h2:=mx_ge (n-1-(l.getD q z58).f0-(n-1-p q)) (n-1-p q-(n-1-(l.getD q z58).f0))
 omega
theorem mir_gd {n d:Int} {l:List S58} (h:Gd n d l):Gd n d (mirS n l l.length):=by
 obtain⟨p,h1,h2⟩:=h
 exact⟨_,mir_pl h1,mir_cov h2⟩
theorem mir_same {n:Nat} {l:List S58} (hv:sensV (n:Int) false l=true) (h:Gd n n l):leastR (n:Int) false (mirS n l l.length)=leastR (n:Int) false l∧sumR (n:Int) false (mirS n l l.length)=sumR (n:Int) false l:=by
 have hv2:=g_mirsens hv
 have hg2:=mir_gd h
 have back:∀ e:Int,Gd n e (mirS (n:Int) l l.length)→Gd n e l:=fun e he=>by
  have:=mir_gd he
  rwa [g_mirmir]at this
 obtain⟨d,a1,a2,a3,a4⟩:=(least_spec hv).2 h
 obtain⟨d',b1,b2,b3,b4⟩:=(least_spec hv2).2 hg2
 have c1:=(least_spec hv).1.2 h
 have c2:=(least_spec hv2).1.2 hg2
 have e1:=a4 _ (back _ b3)
 have e2:=b4 _ (mir_gd a3)
 obtain⟨⟨p,p1,p2,p3⟩,p4,p5⟩:=(sum_spec hv).2 h
 obtain⟨⟨q,q1,q2,q3⟩,q4,q5⟩:=(sum_spec hv2).2 hg2
 have f1:=(sum_spec hv).1.2 h
 have f2:=(sum_spec hv2).1.2 hg2
 have g1:=q5 _ (mir_pl p1) (mir_cov p2)
 rw[mir_cost]at g1
 have m1:=mir_pl q1
 have m2:=mir_cov q2
 have m3:=mir_cost n (mirS n l l.length) q
 rw[g_mirmir]at m1 m2 m3
 have g2:=p5 _ m1 m2
 rw[m3]at g2
 exact⟨Prod.ext (by omega) (by rw[c1,c2]),Prod.ext (by omega) (by rw[f1,f2])⟩
theorem mv_get {l:List S58} {P:List Int} {j:Nat} (h:j<l.length): (mvS l P l.length).getD j z58=⟨rd P (j:Int),(l.getD j z58).f1⟩:=tg_get h
theorem mv_sens {n:Int} {r:Bool} {l:List S58} {P:List Int} (hv:sensV n r l=true) (he:P.length=l.length) (hP:inAll 0 (n-1) P=true):sensV n r (mvS l P l.length)=true:=by
 obtain⟨h1,h2,h3⟩:=sens_of hv
 have e: (mvS l P l.length).length=l.length:=tg_len _ _
 unfold sensV at hv⊢
 rw[Bool.and_eq_true,Bool.and_eq_true]at hv⊢
 rw[e]
 refine⟨⟨hv.1.1,decide_eq_true (by omega)⟩,decide_eq_true (fun j hj _=>?_)⟩
 have h4:=h3 j hj
 have h5:=inAll_iff.1 hP _ (mem_of_rd (show j<P.length by omega))
 unfold sC at h4⊢
 rw[mv_get hj]
 exact⟨h5,h4.2⟩
theorem mv_all {n:Nat} {l:List S58} {P:List Int} (hv:sensV (n:Int) false l=true) (he:P.length=l.length) (hP:inAll 0 ((n:Int)-1) P=true) (h:0<strL (seenL n (mvS l P l.length))):
  Gd n n l∧(sumR (n:Int) false l).1≤sm l.length (mvG l P)∧(leastR (n:Int) false l).1≤rmax 0 (mvG l P) l.length:=by
 have hs:=sens_of hv
 have e: (mvS l P l.length).length=l.length:=tg_len _ _
 rw[str_cov (by omega) (by omega),e]at h
 have hb:∀ j,j<l.length→0≤rd P (j:Int)∧rd P (j:Int)≤(n:Int)-1:=fun j hj=>inAll_iff.1 hP _ (mem_of_rd (show j<P.length by omega))
 have hc:Cov l (2^l.length-1) (fun j=>rd P (j:Int)) n:=by
  intro x x0 x1
  obtain⟨j,hj,jb,j1,j2⟩:=h x x0 x1
  rw[e]at hj
  refine⟨j,hj,jb,?_⟩
  unfold bAt bRe at*
  rw[mv_get hj]at j1 j2
  exact⟨j1,j2⟩
 have hp:Pl n n l (fun j=>rd P (j:Int)):=fun j hj=>by
  have h1:=(hs.2.2 j hj).1
  have h2:=hb j hj
  unfold bAt
  simp only
  omega
 have hg:Gd n n l:=⟨_,hp,hc⟩
 refine⟨hg,((sum_spec hv).2 hg).2.2 _ hp hc,?_⟩
 obtain⟨d,a1,a2,a3,a4⟩:=(least_spec hv).2 hg
 rw[a1]
 refine a4 _ ⟨_,pl_far hs.2.2 hp (fun j hj=>?_),hc⟩
 have h1:=(rmax_ge 0 (mvG l P) l.length).2 j hj
 have h2:=mx_ge ((l.getD j z58).f0-rd P (j:Int)) (rd P (j:Int)-(l.getD j z58).f0)
 unfold mvG at h1
 show(l.getD j z58).f0-rmax 0 (mvG l P) l.length≤rd P (j:Int)∧rd P (j:Int)≤(l.getD j z58).f0+rmax 0 (mvG l P) l.length
 unfold mvG
 omega
def evG (n R:Nat):List S58:=tg (evN n R) (fun i=>⟨evAt n R i,(R:Int)⟩)
theorem evG_snoc (n R i:Nat):tg i (fun i=>(⟨evAt n R i,(R:Int)⟩:S58))++[⟨evAt n R i,(R:Int)⟩]=tg (i+1) (fun i=>⟨evAt n R i,(R:Int)⟩):=tg_snoc i (fun i=>(⟨evAt n R i,(R:Int)⟩:S58))
theorem evG_get {n R j:Nat} (h:j<evN n R): (evG n R).getD j z58=⟨evAt n R j,(R:Int)⟩:=tg_get h
theorem even_ok {n R:Nat} (h2:2≤n) (hn:n≤24) (hR:R≤12) (h6:evN n R≤6):sensV (n:Int) false (evG n R)=true∧0<strL (seenL n (evG n R))∧0<evN n R∧(evN n R-1)*(2*R+1)<n:=by
 have e: (evG n R).length=evN n R:=tg_len _ _
 have hge:=evN_ge n R
 have h0:0<evN n R:=by
  rcases Nat.eq_zero_or_pos (evN n R)with k|k
  ·rw[k,Nat.zero_mul]at hge;omega
  ·exact k
 refine⟨?_,?_,h0,evN_lt (show evN n R-1<evN n R by omega) (by omega)⟩
 ·unfold sensV lineV
  rw[Bool.and_eq_true,Bool.and_eq_true,e]
  refine⟨⟨by rw[inR_iff.2 (by omega)];rfl,decide_eq_true (by omega)⟩,decide_eq_true (fun j hj _=>?_)⟩
  unfold sC
  rw[evG_get hj]
  simp only
  have h3:=mx_ge 0 (mn (((j*(2*R+1):Nat):Int)+R) ((n:Int)-1-R))
  have h4:=mn_le (((j*(2*R+1):Nat):Int)+R) ((n:Int)-1-R)
  unfold evAt
  omega
 ·rw[str_cov (by omega) (by omega),e]
  intro x x0 x1
  obtain⟨p,rfl⟩:∃ p:Nat,x=p:=⟨x.toNat,by omega⟩
  have hd:=Nat.div_add_mod p (2*R+1)
  have hm:=Nat.mod_lt p (show 2*R+1>0 by omega)
  have hlt:p/ (2*R+1)<evN n R:=by
   rw[Nat.div_lt_iff_lt_mul (by omega)];omega
  refine⟨p/ (2*R+1),by omega,bit_full (by omega) hlt,?_⟩
  unfold bAt bRe
  rw[evG_get hlt]
  simp only
  rw[Nat.mul_comm]at hd
  have h3:=mx_ge 0 (mn (((p/ (2*R+1)*(2*R+1):Nat):Int)+R) ((n:Int)-1-R))
  have h4:=mn_le (((p/ (2*R+1)*(2*R+1):Nat):Int)+R) ((n:Int)-1-R)
  unfold evAt
  generalize p/ (2*R+1)*(2*R+1)=w at*
  omega
def askV (s:Int) (r:Bool) (l:List S58) (d:Int):Bool:=sensV s r l&&inR 0 24 d
def canR (s:Int) (r:Bool) (l:List S58) (d:Int):Bool × Bool:=if askV s r l d=true then(canB s d l,true)else(false,false)
theorem specCan_ev (s:Int) (r:Bool) (l:List S58) (d:Int) (hl:l.length≤1048576):Ev (fun k=>spec_CanGuard.f k s r l d) (canR s r l d):=by
 have ha:Ev (fun k=>spec_l9Asks.f k s r l d) (askV s r l d):=by
  unfold spec_l9Asks.f askV
  refine Ev.bind (l9Sensors_ev s r l hl) ?_
  simp only[l1In_eq,Option.bind_some]
  cases sensV s r l with
  | true=>exact ev_pos rfl (Ev.now _)
  | false=>exact ev_neg (by simp) (Ev.now _)
 unfold spec_CanGuard.f canR
 refine Ev.bind ha ?_
 cases hv:askV s r l d with
 | true=>
  have h:=hv
  unfold askV at h
  rw[Bool.and_eq_true,inR_iff]at h
  have hr:=(sens_of h.1).1.2
  subst hr
  exact ev_pos rfl (Ev.bind (l9Can_ev s d l h.1 h.2) (Ev.now _))
 | false=>exact ev_neg (by simp) (Ev.now _)
theorem implCan_ev (s:Int) (r:Bool) (l:List S58) (d:Int) (hl:l.length≤1048576):Ev (fun k=>impl_CanGuard.f k s r l d) (canR s r l d):=by
 unfold impl_CanGuard.f canR askV
 simp only[impl_isMove.f,within_eq,Option.bind_some]
 refine Ev.bind (isGuarded_ev s r l hl) ?_
 cases hv:sensV s r l with
 | true=>
  have hr:=(sens_of hv).1.2
  subst hr
  refine ev_pos rfl ?_
  cases hd:inR 0 24 d with
  | true=>exact ev_pos rfl (Ev.bind (canGuard_ev s d l hv (inR_iff.1 hd)) (Ev.now _))
  | false=>exact ev_neg (by simp) (Ev.now _)
 | false=>exact ev_neg (by simp) (Ev.now _)
theorem and255w (x:Int):0≤wrap64 (Go.bits .and .u64 (IntKind.u64.wrap x/ 1099511627776) 255)∧wrap64 (Go.bits .and .u64 (IntKind.u64.wrap x/ 1099511627776) 255)≤255:=by
 have:=and255 x
 rw[w64 (by omega) (by omega)]
 exact this
theorem cur_next {l:List Int} (hb:∀ x∈l,0≤x∧x≤255) (s1 s2:Int) (h0:0≤s1) (h1:s1≤1000000):∃ v s,spec_l1Cur_next.f l s1 s2=some (v,s1+1,s)∧0≤v∧v≤255:=by
 unfold spec_l1Cur_next.f
 rw[w64 (x:=s1+1) (by omega) (by omega)]
 by_cases c:s1<(l.length:Int)
 ·have hm:rd l s1∈l:=by
   obtain⟨n,rfl⟩:=Int.eq_ofNat_of_zero_le h0
   unfold rd
   rw[Int.toNat_natCast,List.getD_eq_getElem?_getD,List.getElem?_eq_getElem (by omega)]
   exact List.getElem_mem _
  have hv:=hb _ hm
  rw[if_pos c,if_pos h0,if_pos (by omega)]
  exact⟨_,_,rfl,by rw[w64 (by omega) (by omega)];exact hv⟩
 ·rw[if_neg c,if_neg (by omega)]
  exact⟨_,_,rfl,and255w _⟩
theorem cur_pick {l:List Int} (hb:∀ x∈l,0≤x∧x≤255) (s1 s2 a:Int) (h0:0≤s1) (h1:s1≤1000000) (ha:2≤a∧a≤200):∃ v s,spec_l1Cur_pick.f l s1 s2 a=some (v,s1+1,s)∧0≤v∧v<a:=by
 obtain⟨v,s,h,v0,v1⟩:=cur_next hb s1 s2 h0 h1
 unfold spec_l1Cur_pick.f
 rw[if_neg (by omega),h]
 simp only[Option.bind_some]
 rw[if_neg (by omega),if_neg (by omega)]
 exact⟨_,_,rfl,Int.tmod_nonneg _ v0,Int.tmod_lt_of_pos _ (by omega)⟩
theorem cur_among {l:List Int} (hb:∀ x∈l,0≤x∧x≤255) (s1 s2:Int) (L:List Int) (h0:0≤s1) (h1:s1≤1000000) (ha:2≤L.length∧L.length≤200):∃ v s,spec_l1Cur_among.f l s1 s2 L=some (v,s1+1,s)∧v∈L:=by
 obtain⟨v,s,h,v0,v1⟩:=cur_pick hb s1 s2 (L.length:Int) h0 h1 (by omega)
 unfold spec_l1Cur_among.f
 rw[h]
 simp only[Option.bind_some]
 rw[if_pos v0,if_pos v1]
 refine⟨_,_,rfl,?_⟩
 obtain⟨n,rfl⟩:=Int.eq_ofNat_of_zero_le v0
 unfold rd
 rw[Int.toNat_natCast,List.getD_eq_getElem?_getD,List.getElem?_eq_getElem (by omega)]
 exact List.getElem_mem _
theorem cur_one {l:List Int} (hb:∀ x∈l,0≤x∧x≤255) (s1 s2 a:Int) (h0:0≤s1) (h1:s1≤1000000) (ha:2≤a∧a≤200):∃ b s,spec_l1Cur_one.f l s1 s2 a=some (b,s1+1,s):=by
 obtain⟨v,s,h,v0,v1⟩:=cur_pick hb s1 s2 a h0 h1 ha
 unfold spec_l1Cur_one.f
 rw[h]
 exact⟨_,_,rfl⟩
theorem cur_size {l:List Int} (hb:∀ x∈l,0≤x∧x≤255) (s1 s2:Int) (h0:0≤s1) (h1:s1≤900):∃ v s,spec_l1Cur_size.f l s1 s2=some (v,s1+2,s):=by
 obtain⟨b,s,ho⟩:=cur_one hb s1 s2 40 h0 (by omega) (by omega)
 unfold spec_l1Cur_size.f
 simp only[ho,Option.bind_some]
 cases b with
 | true=>
  obtain⟨u,t,ha,_⟩:=cur_among hb (s1+1) s [1,2,24,25,0,(-1),4611686018427387904] (by omega) (by omega) (by simp)
  rw[if_pos rfl,ha]
  exact⟨u,t,by simp only[Option.bind_some];rw[show s1+1+1=s1+2 by omega]⟩
 | false=>
  obtain⟨u,t,ha,_⟩:=cur_among hb (s1+1) s [5,6,4,8,3,10,7,13,24,2] (by omega) (by omega) (by simp)
  rw[if_neg (by decide),ha]
  exact⟨u,t,by simp only[Option.bind_some];rw[show s1+1+1=s1+2 by omega]⟩
theorem cur_road {l:List Int} (hb:∀ x∈l,0≤x∧x≤255) (s1 s2:Int) (h0:0≤s1) (h1:s1≤850):∃ v r t s,spec_l1Cur_road.f l s1 s2=some (v,r,t,s)∧s1≤t∧t≤s1+10:=by
 obtain⟨b,s,ho⟩:=cur_one hb s1 s2 2 h0 (by omega) (by omega)
 obtain⟨v,t,hs⟩:=cur_size hb (s1+1) s (by omega) (by omega)
 unfold spec_l1Cur_road.f
 simp only[ho,Option.bind_some]
 cases b with
 | true=>
  rw[if_pos rfl]
  unfold spec_l1Cur_line.f
  simp only[hs,Option.bind_some]
  exact⟨v,false,s1+1+2,t,rfl,by omega,by omega⟩
 | false=>
  rw[if_neg (by decide)]
  unfold spec_l1Cur_ring.f
  simp only[hs,Option.bind_some]
  by_cases c:v=2
  ·obtain⟨b2,u,ho2⟩:=cur_one hb (s1+1+2) t 4 (by omega) (by omega) (by omega)
   rw[if_pos c]
   simp only[ho2,Option.bind_some]
   cases b2 with
   | true=>exact⟨v,true,s1+1+2+1,u,by rw[if_pos rfl];rfl,by omega,by omega⟩
   | false=>exact⟨3,true,s1+1+2+1,u,by rw[if_neg (by decide)];rfl,by omega,by omega⟩
  ·rw[if_neg c]
   exact⟨v,true,s1+1+2,t,rfl,by omega,by omega⟩
theorem cur_line9 {l:List Int} (hb:∀ x∈l,0≤x∧x≤255) (s1 s2:Int) (h0:0≤s1) (h1:s1≤800):∃ v r t s,spec_l1Cur_line9.f l s1 s2=some (v,r,t,s)∧s1≤t∧t≤s1+20:=by
 obtain⟨b,s,ho⟩:=cur_one hb s1 s2 8 h0 (by omega) (by omega)
 unfold spec_l1Cur_line9.f
 simp only[ho,Option.bind_some]
 cases b with
 | true=>
  obtain⟨v,r,t,u,hr,q0,q1⟩:=cur_road hb (s1+1) s (by omega) (by omega)
  rw[if_pos rfl]
  simp only[hr,Option.bind_some]
  exact⟨v,r,t,u,rfl,by omega,by omega⟩
 | false=>
  obtain⟨u,t,ha,_⟩:=cur_among hb (s1+1) s [6,8,5,10,4,12,3,2] (by omega) (by omega) (by simp)
  rw[if_neg (by decide)]
  simp only[ha,Option.bind_some]
  exact⟨u,false,s1+1+1,t,rfl,by omega,by omega⟩
theorem cur_pick1 {l:List Int} (hb:∀ x∈l,0≤x∧x≤255) (s1 s2 a:Int) (h0:0≤s1) (h1:s1≤1000000) (ha:a≤200):∃ v t s,spec_l1Cur_pick.f l s1 s2 a=some (v,t,s)∧s1≤t∧t≤s1+1:=by
 by_cases c:a≤1
 ·unfold spec_l1Cur_pick.f
  rw[if_pos c]
  exact⟨0,s1,s2,rfl,by omega,by omega⟩
 ·obtain⟨v,s,h,_⟩:=cur_pick hb s1 s2 a h0 h1 (by omega)
  exact⟨v,s1+1,s,h,by omega,by omega⟩
def snOk (f:Nat→Option (List S58 × Int × Int)):Prop:=∃ r,Ev f r∧r.1.length≤100∧0≤r.2.1∧r.2.1≤1000
theorem sn_l1 (l:List Int) (s1 s2:Int) (h0:0≤s1) (h1:s1≤950):∀ (m:Nat) (x:List S58),x.length≤50→7-x.length≤m→snOk (fun k=>spec_l1Cur_sensors9.l1 k x l s1 s2)
 | 0,x,hl,hm=>⟨(x,s1,s2),ev_now (fun k=>by simp only[spec_l1Cur_sensors9.l1];rw[if_neg (by omega)]),by simp only;omega⟩
 | m+1,x,hl,hm=>by
  by_cases c: (x.length:Int)<7
  ·obtain⟨r,h,hr⟩:=sn_l1 l s1 s2 h0 h1 m (x++[⟨0,0⟩]) (by simp;omega) (by simp;omega)
   exact⟨r,Ev.step (fun k=>by simp only[spec_l1Cur_sensors9.l1];rw[if_pos c,if_pos (by omega)]) h,hr⟩
  ·exact⟨(x,s1,s2),ev_now (fun k=>by simp only[spec_l1Cur_sensors9.l1];rw[if_neg c]),by simp only;omega⟩
theorem sn_l0 {l:List Int} (hb:∀ x∈l,0≤x∧x≤255) (rc:Int) (same:Bool) (sz:Int) (rg:Bool):∀ (c:Nat) (x:List S58) (s1 s2:Int),x.length+c≤40→0≤s1→s1+2*c≤900→snOk (fun k=>spec_l1Cur_sensors9.l0 k x rc same (c:Int) l s1 s2 sz rg)
 | 0,x,s1,s2,hx,h0,h1=>by
  obtain⟨v,s,hp,v0,v1⟩:=cur_pick hb s1 s2 30 h0 (by omega) (by omega)
  by_cases c0:v=0
  ·obtain⟨u,t,ha,_⟩:=cur_among hb (s1+1) s [(-1),sz,0] (by omega) (by omega) (by simp)
   obtain⟨u2,t2,ha2,_⟩:=cur_among hb (s1+1+1) t [12,13,(-1)] (by omega) (by omega) (by simp)
   exact⟨(x++[⟨u,u2⟩],s1+1+1+1,t2),ev_now (fun k=>by
    simp only[spec_l1Cur_sensors9.l0,hp,Option.bind_some]
    rw[if_neg (by omega),if_pos c0]
    simp only[ha,ha2,Option.bind_some]
    rw[if_pos (by omega)]),by simp;omega⟩
  ·by_cases c1:v=1
   ·obtain⟨r,h,hr⟩:=sn_l1 l (s1+1) s (by omega) (by omega) 7 x (by omega) (by omega)
    exact⟨r,Ev.step (fun k=>by
     simp only[spec_l1Cur_sensors9.l0,hp,Option.bind_some]
     rw[if_neg (by omega),if_neg c0,if_pos c1]) h,hr⟩
   ·exact⟨(x,s1+1,s),ev_now (fun k=>by
     simp only[spec_l1Cur_sensors9.l0,hp,Option.bind_some]
     rw[if_neg (by omega),if_neg c0,if_neg c1]),by simp only;omega⟩
 | c+1,x,s1,s2,hx,h0,h1=>by
  have hmn:=mn_le sz 24
  have hmx:=mx_ge 1 (mn sz 24)
  obtain⟨v,t,s,hp,t0,t1⟩:=cur_pick1 hb s1 s2 (mx 1 (mn sz 24)) h0 (by omega) (by omega)
  cases same with
  | true=>
   obtain⟨r,h,hr⟩:=sn_l0 hb rc true sz rg c (x++[⟨v,rc⟩]) t s (by simp;omega) (by omega) (by omega)
   exact⟨r,Ev.step (fun k=>by
    simp only[spec_l1Cur_sensors9.l0,l1Least_eq,l1Most_eq,hp,Option.bind_some]
    rw[if_pos (by omega),if_pos True.intro,if_pos (by omega),w64 (x:=((c+1:Nat):Int)-1) (by omega) (by omega),show((c+1:Nat):Int)-1=(c:Int)by omega]) h,hr⟩
  | false=>
   obtain⟨u,t2,ha,_⟩:=cur_among hb t s [1,2,0,3,5,1] (by omega) (by omega) (by simp)
   obtain⟨r,h,hr⟩:=sn_l0 hb rc false sz rg c (x++[⟨v,u⟩]) (t+1) t2 (by simp;omega) (by omega) (by omega)
   exact⟨r,Ev.step (fun k=>by
    simp only[spec_l1Cur_sensors9.l0,l1Least_eq,l1Most_eq,hp,Option.bind_some]
    rw[if_pos (by omega),if_neg (by decide)]
    simp only[ha,Option.bind_some]
    rw[if_pos (by omega),w64 (x:=((c+1:Nat):Int)-1) (by omega) (by omega),show((c+1:Nat):Int)-1=(c:Int)by omega]) h,hr⟩
theorem sensors9_ok {l:List Int} (hb:∀ x∈l,0≤x∧x≤255) (s1 s2:Int) (h0:0≤s1) (h1:s1≤800) (sz:Int) (rg:Bool):snOk (fun k=>spec_l1Cur_sensors9.f k l s1 s2 sz rg):=by
 obtain⟨u,t,ha,_⟩:=cur_among hb s1 s2 [1,2,0,3] (by omega) (by omega) (by simp)
 obtain⟨b,s,ho⟩:=cur_one hb (s1+1) t 3 (by omega) (by omega) (by omega)
 obtain⟨n,t2,ha2,hn⟩:=cur_among hb (s1+1+1) s [3,2,4,1,5,0] (by omega) (by omega) (by simp)
 have hn2:0≤n∧n≤5:=by
  simp only[List.mem_cons,List.not_mem_nil,or_false]at hn
  omega
 obtain⟨c,rfl⟩:=Int.eq_ofNat_of_zero_le hn2.1
 obtain⟨r,h,hr⟩:=sn_l0 hb u b sz rg c [] (s1+1+1+1) t2 (by simp;omega) (by omega) (by omega)
 refine⟨r,?_,hr⟩
 unfold spec_l1Cur_sensors9.f
 simp only[ha,ho,ha2,Option.bind_some]
 exact h
theorem vCut_ok {l:List Int} (hb:∀ x∈l,0≤x∧x≤255) (hl:l.length≤65536) (a:Int) (ha:0≤a):∃ l',laws_vCut.f l a=some l'∧∀ x∈l',0≤x∧x≤255:=by
 unfold laws_vCut.f
 have hd:∀ n,(l.drop n).length≤65536:=fun n=>by rw[List.length_drop];omega
 have hmem:∀ (n:Nat) (y:Int),0≤y∧y≤255→∀ x∈([]++l.drop n)++[y],0≤x∧x≤255:=fun n y hy x hx=>by
  rcases List.mem_append.1 hx with hx|hx
  ·rw[List.nil_append]at hx
   exact hb x (List.mem_of_mem_drop hx)
  ·rw[List.mem_singleton.1 hx];exact hy
 by_cases c:a>(l.length:Int)
 ·rw[if_pos c]
  have h1:=hd (l.length:Int).toNat
  refine⟨([]++l.drop (l.length:Int).toNat)++[((l.length:Int)) % 256],?_,hmem _ _ (by omega)⟩
  simp only[Option.bind_some]
  rw[if_pos (by omega),if_pos (by omega),if_pos (by simp<;>omega),if_pos (by simp<;>omega)]
 ·rw[if_neg c]
  have h1:=hd a.toNat
  refine⟨([]++l.drop a.toNat)++[a % 256],?_,hmem _ _ (by omega)⟩
  simp only[Option.bind_some]
  rw[if_pos (by omega),if_pos (by omega),if_pos (by simp;omega),if_pos (by simp;omega)]
theorem drawMv_place {l:List Int} (hb:∀ x∈l,0≤x∧x≤255) (s1 s2:Int) (h0:0≤s1) (h1:s1≤5000) (sz:Int) (rg:Bool):∃ v t s,spec_l1Cur_placeOn.f l s1 s2 sz rg=some (v,t,s)∧s1≤t∧t≤s1+10:=by
 obtain⟨b,s,ho⟩:=cur_one hb s1 s2 30 h0 (by omega) (by omega)
 unfold spec_l1Cur_placeOn.f
 simp only[ho,Option.bind_some]
 cases b with
 | true=>
  obtain⟨u,t,ha,_⟩:=cur_among hb (s1+1) s [(-1),0,sz,wrap64 (sz-1),4611686018427387904] (by omega) (by omega) (by simp)
  rw[if_pos rfl,ha]
  exact⟨u,s1+1+1,t,rfl,by omega,by omega⟩
 | false=>
  have hmn:=mn_le sz 24
  have hmx:=mx_ge (mn sz 24) 1
  obtain⟨v,t,u,hp,t0,t1⟩:=cur_pick1 hb (s1+1) s (mx (mn sz 24) 1) (by omega) (by omega) (by omega)
  rw[if_neg (by decide)]
  simp only[l1Least_eq,l1Most_eq,hp,Option.bind_some]
  exact⟨v,t,u,rfl,by omega,by omega⟩
theorem drawCan_ok {l:List Int} (hb:∀ x∈l,0≤x∧x≤255):∃ r:Int × Bool × List S58 × Int,Ev (fun k=>spec_DrawCanGuard.f k l) r∧r.2.2.1.length≤100:=by
 obtain⟨v,rg,t,s,hl,t0,t1⟩:=cur_line9 hb 0 0 (by omega) (by omega)
 obtain⟨r,h,hr⟩:=sensors9_ok hb t s (by omega) (by omega) v rg
 obtain⟨v2,s2,hp,p0,p1⟩:=cur_pick hb r.2.1 r.2.2 24 hr.2.1 (by omega) (by omega)
 have e:wrap64 (5+wrap64 (Int.tdiv v2 8))=5+v2/ 8:=by
  rw[Int.tdiv_eq_ediv_of_nonneg p0,w64 (x:=v2/ 8) (by omega) (by omega),w64 (by omega) (by omega)]
 have hl2: (([1,2,0,3,5,24,25,(-1)]:List Int).take (5+v2/ 8).toNat).length=(5+v2/ 8).toNat:=by
  rw[List.length_take]
  show min _ 8=_
  omega
 obtain⟨d,s3,ha,_⟩:=cur_among hb (r.2.1+1) s2 (([1,2,0,3,5,24,25,(-1)]:List Int).take (5+v2/ 8).toNat) (by omega) (by omega) (by rw[hl2];omega)
 refine⟨(v,rg,r.1,d),?_,hr.1⟩
 unfold spec_DrawCanGuard.f
 simp only[hl,Option.bind_some]
 refine Ev.bind h ?_
 simp only[hp,Option.bind_some,e]
 refine ev_pos (by omega) (ev_pos (by show 5+v2/ 8≤8;omega) ?_)
 simp only[ha,Option.bind_some]
 exact Ev.now _
theorem drawEven_ok {l:List Int} (hb:∀ x∈l,0≤x∧x≤255):∃ r:Int × Bool × Int,spec_DrawEvenPlaces.f l=some r:=by
 obtain⟨v,rg,t,s,hl,t0,t1⟩:=cur_line9 hb 0 0 (by omega) (by omega)
 obtain⟨v2,s2,hp,p0,p1⟩:=cur_pick hb t s 24 (by omega) (by omega) (by omega)
 have e:wrap64 (4+wrap64 (Int.tdiv v2 8))=4+v2/ 8:=by
  rw[Int.tdiv_eq_ediv_of_nonneg p0,w64 (x:=v2/ 8) (by omega) (by omega),w64 (by omega) (by omega)]
 have hl2: (([1,2,0,3,12,13,(-1)]:List Int).take (4+v2/ 8).toNat).length=(4+v2/ 8).toNat:=by
  rw[List.length_take]
  show min _ 7=_
  omega
 obtain⟨d,s3,ha,_⟩:=cur_among hb (t+1) s2 (([1,2,0,3,12,13,(-1)]:List Int).take (4+v2/ 8).toNat) (by omega) (by omega) (by rw[hl2];omega)
 refine⟨(v,rg,d),?_⟩
 unfold spec_DrawEvenPlaces.f
 simp only[hl,Option.bind_some,hp,e]
 rw[if_pos (by omega),if_pos (by show 4+v2/ 8≤7;omega),ha]
 rfl
def mvDr (f:Nat→Option (Int × Bool × List S58 × List Int)):Prop:=∃ r,Ev f r∧r.2.2.1.length≤100∧r.2.2.2.length≤200
theorem mv_j1 {l:List Int} (hb:∀ x∈l,0≤x∧x≤255) (s1 s2:Int) (h0:0≤s1) (h1:s1≤3000) (L:List S58) (x:List Int) (hL:L.length≤100) (hx:x.length≤150) (sz:Int) (rg:Bool):mvDr (fun k=>spec_DrawMoveSensors.j1 k L x l s1 s2 sz rg):=by
 by_cases c: (x.length:Int)>0
 ·obtain⟨b,s,ho⟩:=cur_one hb s1 s2 30 h0 (by omega) (by omega)
  cases b with
  | true=>
   obtain⟨v,t,u,hp,_⟩:=drawMv_place hb (s1+1) s (by omega) (by omega) sz rg
   exact⟨(sz,rg,L,x.set (0:Int).toNat v),ev_now (fun k=>by
    simp only[spec_DrawMoveSensors.j1,ho,Option.bind_some]
    rw[if_pos c,if_pos True.intro,hp]
    simp only[Option.bind_some]
    rw[if_pos (by omega)]),hL,by simp only[List.length_set];omega⟩
  | false=>
   exact⟨(sz,rg,L,x),ev_now (fun k=>by
    simp only[spec_DrawMoveSensors.j1,ho,Option.bind_some]
    rw[if_pos c,if_neg (by decide)]),hL,by simp only;omega⟩
 ·exact⟨(sz,rg,L,x),ev_now (fun k=>by
   simp only[spec_DrawMoveSensors.j1]
   rw[if_neg c]),hL,by simp only;omega⟩
theorem mv_l0 {l:List Int} (hb:∀ x∈l,0≤x∧x≤255) (L:List S58) (hL:L.length≤100) (sz:Int) (rg:Bool):∀ (c i:Nat) (x:List Int) (s1 s2:Int),i+c=L.length→x.length+c≤120→0≤s1→s1+c≤2000→mvDr (fun k=>spec_DrawMoveSensors.l0 k L x (i:Int) l s1 s2 sz rg)
 | 0,i,x,s1,s2,hi,hx,h0,h1=>by
  obtain⟨b,s,ho⟩:=cur_one hb s1 s2 20 h0 (by omega) (by omega)
  cases b with
  | true=>
   obtain⟨v,t,u,hp,t0,t1⟩:=drawMv_place hb (s1+1) s (by omega) (by omega) sz rg
   obtain⟨r,h,hr⟩:=mv_j1 hb t u (by omega) (by omega) L (x++[v]) hL (by simp;omega) sz rg
   exact⟨r,Ev.step (fun k=>by
    simp only[spec_DrawMoveSensors.l0,ho,Option.bind_some]
    rw[if_neg (by omega),if_pos True.intro,hp]
    simp only[Option.bind_some]
    rw[if_pos (by omega)]) h,hr⟩
  | false=>
   obtain⟨r,h,hr⟩:=mv_j1 hb (s1+1) s (by omega) (by omega) L x hL (by omega) sz rg
   exact⟨r,Ev.step (fun k=>by
    simp only[spec_DrawMoveSensors.l0,ho,Option.bind_some]
    rw[if_neg (by omega),if_neg (by decide)]) h,hr⟩
 | c+1,i,x,s1,s2,hi,hx,h0,h1=>by
  obtain⟨v,s,hp,_⟩:=cur_pick hb s1 s2 7 h0 (by omega) (by omega)
  obtain⟨r,h,hr⟩:=mv_l0 hb L hL sz rg c (i+1) (x++[mx 0 (mn (wrap64 (mn sz 24-1)) (wrap64 (wrap64 ((rd_T58 L (i:Int)).f0+v)-3)))]) (s1+1) s (by omega) (by simp;omega) (by omega) (by omega)
  exact⟨r,Ev.step (fun k=>by
   simp only[spec_DrawMoveSensors.l0,l1Least_eq,l1Most_eq,hp,Option.bind_some]
   rw[if_pos (by omega),if_pos (by omega),if_pos (by omega),w64s (n:=L.length) (by omega) (by omega)]) h,hr⟩
theorem drawMove_ok {l:List Int} (hb:∀ x∈l,0≤x∧x≤255):mvDr (fun k=>spec_DrawMoveSensors.f k l):=by
 obtain⟨v,rg,t,s,hl,t0,t1⟩:=cur_line9 hb 0 0 (by omega) (by omega)
 obtain⟨r,h,hr⟩:=sensors9_ok hb t s (by omega) (by omega) v rg
 obtain⟨q,h2,hq⟩:=mv_l0 hb r.1 hr.1 v rg r.1.length 0 [] r.2.1 r.2.2 (by omega) (by simp;omega) hr.2.1 (by omega)
 refine⟨q,?_,hq⟩
 unfold spec_DrawMoveSensors.f
 simp only[hl,Option.bind_some]
 exact Ev.bind h h2
theorem vInts_self (l:List Int) (hl:l.length≤1048576):Ev (fun k=>laws_vInts.f k l l) true:=by
 unfold laws_vInts.f
 refine ev_pos rfl ?_
 have key:=down (P:=fun i=>Ev (fun k=>laws_vInts.l0 k l l (i:Int)) true) (n:=l.length)
  (ev_now (fun k=>by simp only[laws_vInts.l0];rw[if_neg (by omega)]))
  (fun i hi ih=>Ev.step (fun k=>by
   simp only[laws_vInts.l0]
   rw[if_pos (by omega),if_pos (by omega),if_pos (by omega),w64s hi (by omega)]
   simp) ih)
 exact key 0 (by omega)
theorem vSensors_self (l:List S58) (hl:l.length≤1048576):Ev (fun k=>laws_vSensors.f k l l) true:=by
 unfold laws_vSensors.f
 refine ev_pos rfl ?_
 have key:=down (P:=fun i=>Ev (fun k=>laws_vSensors.l0 k l l (i:Int)) true) (n:=l.length)
  (ev_now (fun k=>by simp only[laws_vSensors.l0];rw[if_neg (by omega)]))
  (fun i hi ih=>Ev.step (fun k=>by
   simp only[laws_vSensors.l0]
   rw[if_pos (by omega),if_pos (by omega),if_pos (by omega),w64s hi (by omega)]
   simp) ih)
 exact key 0 (by omega)
def rad2 (l:List S58) (j:Nat):Int:=2*bRe l j+1
theorem rad2_bd {n:Int} {l:List S58} (h:∀ j,j<l.length→sC n l j):∀ i,i≤l.length→0≤sm i (rad2 l)∧sm i (rad2 l)≤25*i:=by
 intro i
 induction i with
 | zero=>intro _;exact⟨Int.le_refl _,Int.le_refl _⟩
 | succ i ih=>
  intro hi
  have h1:=ih (by omega)
  have h2:=(h i (by omega)).2
  rw[sm_succ]
  unfold rad2 bRe at*
  omega
theorem mv_l2 {n:Nat} {l:List S58} (hv:sensV (n:Int) false l=true) (hg:Gd n n l):Ev (fun k=>laws_FnMoves.l2 k l (leastR (n:Int) false l).1 (sumR (n:Int) false l).1 0 0 (n:Int) false) true:=by
 have hs:=sens_of hv
 have hvm:=g_mirsens hv
 have hml:=g_mirlen (n:Int) l
 have hsame:=mir_same hv hg
 have hls:=least_sum hv hg
 obtain⟨d,hd1,hd2,_⟩:=(least_spec hv).2 hg
 have t1:=implStr_ev (n:Int) false l (by omega)
 have e1:strR (n:Int) false l=(strL (seenL n l),true):=by unfold strR;rw[if_pos hv,Int.toNat_natCast]
 rw[e1]at t1
 have t2:=implMirS_ev (n:Int) false l (by omega)
 have e2:mirSR (n:Int) false l=(mirS (n:Int) l l.length,true):=by unfold mirSR;rw[if_pos hv]
 rw[e2]at t2
 have t3:=implLeast_ev (n:Int) false (mirS (n:Int) l l.length) (by omega)
 have t4:=implSum_ev (n:Int) false (mirS (n:Int) l l.length) (by omega)
 rw[hsame.1]at t3
 rw[hsame.2]at t4
 have c1:=(least_spec hv).1.2 hg
 have c2:=(sum_spec hv).1.2 hg
 have hend:Ev (fun k=>laws_FnMoves.l2 k l (leastR (n:Int) false l).1 (sumR (n:Int) false l).1 (sm l.length (rad2 l)) (l.length:Int) (n:Int) false) true:=by
  refine Ev.step (fun k=>by simp only[laws_FnMoves.l2];rw[if_neg (by omega)]) ?_
  refine Ev.bind t1 (Ev.bind t2 (Ev.bind t3 (Ev.bind t4 ?_)))
  refine ev_pos rfl (ev_pos rfl (ev_pos c1 (ev_pos c2 (ev_pos hls.2.2.2 (ev_pos hls.1 (ev_pos ?_ (ev_pos ?_ (ev_pos rfl ?_))))))))
  ·have hb: (l.length:Int)*(leastR (n:Int) false l).1≤1000∧0≤(l.length:Int)*(leastR (n:Int) false l).1:=by
    rw[hd1]
    have:l.length*d≤6*24:=Nat.mul_le_mul hs.2.1 (by omega)
    omega
   rw[w64 (by omega) (by omega)]
   exact hls.2.1
  ·rw[beq_iff_eq,Bool.eq_iff_iff,beq_iff_eq,decide_eq_true_iff]
   exact hls.2.2.1
  ·exact ev_const (by simp)
 have key:=down (P:=fun i=>Ev (fun k=>laws_FnMoves.l2 k l (leastR (n:Int) false l).1 (sumR (n:Int) false l).1 (sm i (rad2 l)) (i:Int) (n:Int) false) true) (n:=l.length) hend
  (fun i hi ih=>by
   have hb:=rad2_bd hs.2.2 i (by omega)
   have hr:=(hs.2.2 i hi).2
   rw[sm_succ]at ih
   have e3: (rd_T58 l (i:Int)).f1=bRe l i:=rfl
   have e4:sm i (rad2 l)+rad2 l i=sm i (rad2 l)+2*bRe l i+1:=by unfold rad2;omega
   rw[e4]at ih
   unfold bRe at ih
   refine Ev.step (fun k=>?_) ih
   simp only[laws_FnMoves.l2]
   rw[if_pos (by omega),if_pos (by omega),e3,w64s hi (by omega)]
   unfold bRe
   rw[w64 (x:=2*(l.getD i z58).f1) (by omega) (by omega),w64 (x:=sm i (rad2 l)+2*(l.getD i z58).f1) (by omega) (by omega),w64 (x:=sm i (rad2 l)+2*(l.getD i z58).f1+1) (by omega) (by omega)])
 exact key 0 (by omega)
theorem least_off {s:Int} {r:Bool} {l:List S58} (h: (leastR s r l).2=true):sensV s r l=true:=by
 cases hv:sensV s r l with
 | true=>rfl
 | false=>
  unfold leastR at h
  rw[hv]at h
  exact absurd h (by simp)
theorem mv_j5 (s:Int) (r:Bool) (l:List S58):Ev (fun k=>laws_FnMoves.j5 k l (leastR s r l).1 (leastR s r l).2 (sumR s r l).1 s r) true:=by
 cases h: (leastR s r l).2 with
 | false=>exact ev_now (fun k=>by simp only[laws_FnMoves.j5];rw[if_neg (by decide)])
 | true=>
  have hv:=least_off h
  obtain⟨n,rfl,rfl,_,_⟩:=sens_nat hv
  exact Ev.step (fun k=>by simp only[laws_FnMoves.j5];rw[if_pos True.intro]) (mv_l2 hv ((least_spec hv).1.1 h))
def sameB (l:List S58) (i:Nat):Bool:=decide (∀ j,j<i→bRe l j=bRe l 0)
theorem sameB_step (l:List S58) (i:Nat):sameB l (i+1)=if sameB l i=true then(bRe l i==bRe l 0)else false:=by
 unfold sameB
 by_cases h:∀ j,j<i→bRe l j=bRe l 0
 ·rw[if_pos (decide_eq_true h),Bool.eq_iff_iff,decide_eq_true_iff,beq_iff_eq]
  refine⟨fun a=>a i (by omega),fun a j hj=>?_⟩
  by_cases e:j=i
  ·subst e;exact a
  ·exact h j (by omega)
 ·rw[if_neg (fun k=>h (of_decide_eq_true k)),decide_eq_false (fun a=>h (fun j hj=>a j (by omega)))]
set_option maxHeartbeats 1000000 in
theorem mv_l1 {n:Nat} {l:List S58} {d:Int} (hv:sensV (n:Int) false l=true) (hd:0≤d∧d≤24):Ev (fun k=>laws_FnMoves.l1 k l d (canB (n:Int) d l) (inOrdB (n:Int) d l) (leastR (n:Int) false l).1 (leastR (n:Int) false l).2 (sumR (n:Int) false l).1 true 0 (n:Int) false) true:=by
 have hs:=sens_of hv
 have h5:=mv_j5 (n:Int) false l
 have hcan:canB (n:Int) d l=true↔(leastR (n:Int) false l).2=true∧(leastR (n:Int) false l).1≤d:=by
  rw[can_gd hv hd,(least_spec hv).1]
  constructor
  ·rintro⟨p,hp,hc⟩
   have hg:Gd n n l:=⟨p,pl_wide hs.2.2 hp (.inr (by omega)),hc⟩
   obtain⟨e,e1,_,_,e4⟩:=(least_spec hv).2 hg
   exact⟨hg,by rw[e1];exact e4 d ⟨p,hp,hc⟩⟩
  ·rintro⟨hg,hle⟩
   obtain⟨e,e1,_,⟨p,hp,hc⟩,_⟩:=(least_spec hv).2 hg
   exact⟨p,pl_wide hs.2.2 hp (.inl (by omega)),hc⟩
 have hoc:=ord_can (d:=d) hv hd
 have hco:=can_ord (d:=d) hv hd
 have hsame:sameB l l.length=true→∀ j,j<l.length→bRe l j=bRe l 0:=fun h=>of_decide_eq_true h
 have hrest:Ev (fun k=>if(leastR (n:Int) false l).2=true then(if(canB (n:Int) d l !=(decide ((leastR (n:Int) false l).1≤d)))=true then(some false)else(laws_FnMoves.j5 k l (leastR (n:Int) false l).1 (leastR (n:Int) false l).2 (sumR (n:Int) false l).1 (n:Int) false))else(if(canB (n:Int) d l !=false)=true then(some false)else(laws_FnMoves.j5 k l (leastR (n:Int) false l).1 (leastR (n:Int) false l).2 (sumR (n:Int) false l).1 (n:Int) false))) true:=by
  by_cases c: (leastR (n:Int) false l).2=true
  ·refine ev_pos c (ev_neg ?_ h5)
   have:canB (n:Int) d l=decide ((leastR (n:Int) false l).1≤d):=by
    rw[Bool.eq_iff_iff,hcan,decide_eq_true_iff]
    exact⟨fun h=>h.2,fun h=>⟨c,h⟩⟩
   rw[this];simp
  ·refine ev_neg c (ev_neg ?_ h5)
   have:canB (n:Int) d l=false:=Bool.eq_false_iff.2 (fun h=>c (hcan.1 h).1)
   rw[this];simp
 have hend:Ev (fun k=>laws_FnMoves.l1 k l d (canB (n:Int) d l) (inOrdB (n:Int) d l) (leastR (n:Int) false l).1 (leastR (n:Int) false l).2 (sumR (n:Int) false l).1 (sameB l l.length) (l.length:Int) (n:Int) false) true:=by
  generalize canB (n:Int) d l=cn at*
  generalize inOrdB (n:Int) d l=od at*
  generalize hsm:sameB l l.length=sme at*
  refine Ev.step (fun k=>by simp only[laws_FnMoves.l1];rw[if_neg (by omega)]) ?_
  cases od with
  | true=>
   have hcn:cn=true:=hoc rfl
   subst hcn
   refine ev_pos rfl (ev_pos rfl ?_)
   cases sme with
   | true=>exact ev_pos rfl hrest
   | false=>exact ev_neg (by decide) hrest
  | false=>
   refine ev_neg (by decide) ?_
   cases sme with
   | true=>
    refine ev_pos rfl ?_
    have hcn:cn=false:=by
     cases cn with
     | false=>rfl
     | true=>exact absurd (hco (hsame rfl) rfl) (by decide)
    subst hcn
    exact ev_neg (by decide) hrest
   | false=>exact ev_neg (by decide) hrest
 have key:=down (P:=fun i=>Ev (fun k=>laws_FnMoves.l1 k l d (canB (n:Int) d l) (inOrdB (n:Int) d l) (leastR (n:Int) false l).1 (leastR (n:Int) false l).2 (sumR (n:Int) false l).1 (sameB l i) (i:Int) (n:Int) false) true) (n:=l.length) hend
  (fun i hi ih=>by
   rw[sameB_step]at ih
   have e1: (rd_T58 l (i:Int)).f1=bRe l i:=rfl
   have e2: (rd_T58 l 0).f1=bRe l 0:=rfl
   cases hb:sameB l i with
   | true=>
    rw[hb,if_pos rfl]at ih
    refine Ev.step (fun k=>?_) ih
    simp only[laws_FnMoves.l1]
    rw[if_pos (by omega),if_pos True.intro,if_pos (by omega),if_pos (by omega),e1,e2,w64s hi (by omega)]
   | false=>
    rw[hb,if_neg (by decide)]at ih
    refine Ev.step (fun k=>?_) ih
    simp only[laws_FnMoves.l1]
    rw[if_pos (by omega),if_neg (by decide),w64s hi (by omega)])
 have h0:sameB l 0=true:=decide_eq_true (fun j hj=>absurd hj (by omega))
 have:=key 0 (by omega)
 rw[h0]at this
 exact this
theorem mv_j3 (s:Int) (r:Bool) (l:List S58) (d:Int):Ev (fun k=>laws_FnMoves.j3 k l d (canR s r l d).1 (canR s r l d).2 (inOrdR s r l d).1 (leastR s r l).1 (leastR s r l).2 (sumR s r l).1 s r) true:=by
 cases ha:askO s r l d with
 | true=>
  have ha2:=ha
  unfold askO at ha2
  rw[Bool.and_eq_true,inR_iff]at ha2
  obtain⟨n,rfl,rfl,_,_⟩:=sens_nat ha2.1
  have e1:canR (n:Int) false l d=(canB (n:Int) d l,true):=by unfold canR;rw[if_pos (by exact ha)]
  have e2:inOrdR (n:Int) false l d=(inOrdB (n:Int) d l,true):=by unfold inOrdR;rw[if_pos ha]
  rw[e1,e2]
  exact Ev.step (fun k=>by simp only[laws_FnMoves.j3];rw[if_pos True.intro]) (mv_l1 ha2.1 ha2.2)
 | false=>
  have e1:canR s r l d=(false,false):=by unfold canR;rw[if_neg (by rw[show askV s r l d=false from ha];decide)]
  rw[e1]
  exact Ev.step (fun k=>by simp only[laws_FnMoves.j3];rw[if_neg (by decide)]) (mv_j5 s r l)
theorem mv_j2 (s:Int) (r:Bool) (l:List S58) (d:Int) (s':Int) (r':Bool) (l':List S58) (P':List Int) (hl':l'.length≤100):Ev (fun k=>laws_FnMoves.j2 k l d (canR s r l d).1 (canR s r l d).2 (inOrdR s r l d).1 (leastR s r l).1 (leastR s r l).2 (sumR s r l).1 l' (mvR s' r' l' P').1 (mvR s' r' l' P').2.1 (mvR s' r' l' P').2.2.1 (mvR s' r' l' P').2.2.2 s r s' r') true:=by
 have h3:=mv_j3 s r l d
 by_cases c:sensV s' r' l'=true∧P'.length=l'.length∧inAll 0 (s'-1) P'=true
 ·have e:mvR s' r' l' P'=mvOk l' P':=by unfold mvR;rw[if_pos c]
  obtain⟨hv,he,hP⟩:=c
  obtain⟨n,rfl,rfl,_,_⟩:=sens_nat hv
  have hvm:=mv_sens hv he hP
  have hml: (mvS l' P' l'.length).length=l'.length:=tg_len _ _
  have t1:=implStr_ev (n:Int) false (mvS l' P' l'.length) (by omega)
  have e1:strR (n:Int) false (mvS l' P' l'.length)=(strL (seenL n (mvS l' P' l'.length)),true):=by unfold strR;rw[if_pos hvm,Int.toNat_natCast]
  rw[e1]at t1
  rw[e]
  unfold mvOk
  refine Ev.step (fun k=>by simp only[laws_FnMoves.j2];rw[if_pos True.intro]) (Ev.bind t1 (ev_pos rfl ?_))
  by_cases h0:0<strL (seenL n (mvS l' P' l'.length))
  ·obtain⟨hg,g1,g2⟩:=mv_all hv he hP h0
   refine ev_pos h0 (Ev.bind (implSum_ev (n:Int) false l' (by omega)) (Ev.bind (implLeast_ev (n:Int) false l' (by omega)) ?_))
   exact ev_pos ((sum_spec hv).1.2 hg) (ev_pos ((least_spec hv).1.2 hg) (ev_neg (by omega) (ev_neg (by omega) h3)))
  ·exact ev_neg h0 h3
 ·have e:mvR s' r' l' P'=([],0,0,false):=by unfold mvR;rw[if_neg c]
  rw[e]
  exact Ev.step (fun k=>by simp only[laws_FnMoves.j2];rw[if_neg (by decide)]) h3
theorem mv_j0 (s:Int) (r:Bool) (l:List S58) (d:Int) (s':Int) (r':Bool) (l':List S58) (P':List Int) (hl':l'.length≤100) (u:Int) (ur:Bool) (rc:Int):Ev (fun k=>laws_FnMoves.j0 k l d (canR s r l d).1 (canR s r l d).2 (inOrdR s r l d).1 (leastR s r l).1 (leastR s r l).2 (sumR s r l).1 l' (mvR s' r' l' P').1 (mvR s' r' l' P').2.1 (mvR s' r' l' P').2.2.1 (mvR s' r' l' P').2.2.2 rc (evenR u ur rc).1 (evenR u ur rc).2 false s r s' r' u ur) true:=by
 have h2:=mv_j2 s r l d s' r' l' P' hl'
 by_cases c:evenV u ur rc=true∧¬evN u.toNat rc.toNat>6
 ·obtain⟨hc,h6⟩:=c
  have e:evenR u ur rc=(tab (evN u.toNat rc.toNat) (evAt u.toNat rc.toNat),true):=by unfold evenR;rw[if_pos hc,if_neg h6]
  obtain⟨n,R,rfl,rfl,rfl,hn2,hn24,hR⟩:=even_of hc
  rw[Int.toNat_natCast,Int.toNat_natCast]at e h6
  rw[e]
  obtain⟨o1,o2,o3,o4⟩:=even_ok hn2 hn24 hR (by omega)
  have hgl: (evG n R).length=evN n R:=tg_len _ _
  have hel: (tab (evN n R) (evAt n R)).length=evN n R:=tab_len _ _
  have t1:=implStr_ev (n:Int) false (evG n R) (by omega)
  have e1:strR (n:Int) false (evG n R)=(strL (seenL n (evG n R)),true):=by unfold strR;rw[if_pos o1,Int.toNat_natCast]
  rw[e1]at t1
  obtain⟨x4,h4⟩:∃ x,(canR s r l d).1=x:=⟨_,rfl⟩
  obtain⟨x5,h5⟩:∃ x,(canR s r l d).2=x:=⟨_,rfl⟩
  obtain⟨x6,h6'⟩:∃ x,(inOrdR s r l d).1=x:=⟨_,rfl⟩
  obtain⟨x7,h7⟩:∃ x,leastR s r l=x:=⟨_,rfl⟩
  obtain⟨x8,h8⟩:∃ x,sumR s r l=x:=⟨_,rfl⟩
  obtain⟨x9,h9⟩:∃ x,mvR s' r' l' P'=x:=⟨_,rfl⟩
  rw[h4,h5,h6',h7,h8,h9]at h2⊢
  refine Ev.step (fun k=>by simp only[laws_FnMoves.j0];rw[if_neg (by decide),if_pos True.intro]) ?_
  have key:=down (P:=fun i=>Ev (fun k=>laws_FnMoves.l0 k l d x4 x5 x6 x7.1 x7.2 x8.1 l' x9.1 x9.2.1 x9.2.2.1 x9.2.2.2 (R:Int) (tab (evN n R) (evAt n R)) (tg i (fun i=>(⟨evAt n R i,(R:Int)⟩:S58))) (i:Int) s r s' r' (n:Int) false) true) (n:=evN n R)
   (by
    show Ev (fun k=>laws_FnMoves.l0 k l d x4 x5 x6 x7.1 x7.2 x8.1 l' x9.1 x9.2.1 x9.2.2.1 x9.2.2.2 (R:Int) (tab (evN n R) (evAt n R)) (evG n R) ((evN n R:Nat):Int) s r s' r' (n:Int) false) true
    refine Ev.step (fun k=>by simp only[laws_FnMoves.l0];rw[if_neg (by omega)]) (Ev.bind t1 (ev_pos rfl (ev_neg (show ¬strL (seenL n (evG n R))<1 by omega) (ev_neg ?_ h2))))
    rw[hel,w64 (x:=((evN n R:Nat):Int)-1) (by omega) (by omega),w64 (x:=2*(R:Int)) (by omega) (by omega),w64 (x:=2*(R:Int)+1) (by omega) (by omega)]
    have e5: ((evN n R:Nat):Int)-1=((evN n R-1:Nat):Int):=by omega
    have e6: (2*(R:Int)+1)=((2*R+1:Nat):Int):=by omega
    rw[e5,e6,←Int.natCast_mul,w64 (by omega) (by omega)]
    omega)
   (fun i hi ih=>by
    have e7:rd (tab (evN n R) (evAt n R)) (i:Int)=evAt n R i:=tab_rd hi
    rw[←evG_snoc]at ih
    refine Ev.step (fun k=>?_) ih
    simp only[laws_FnMoves.l0]
    rw[if_pos (by omega),if_pos (by omega),if_pos (by rw[tg_len];omega),e7,w64s hi (by omega)])
  exact key 0 (by omega)
 ·have e: (evenR u ur rc).2=false:=by
   unfold evenR
   by_cases h:evenV u ur rc=true
   ·rw[if_pos h,if_pos (Decidable.byContradiction (fun k=>c ⟨h,k⟩))]
   ·rw[if_neg h]
  rw[e]
  exact Ev.step (fun k=>by simp only[laws_FnMoves.j0];rw[if_neg (by decide),if_neg (by decide)]) h2
set_option maxHeartbeats 2000000 in
theorem FnMoves:FnMovesLeft:=by
 intro code _ hwf
 have hb:∀ x∈code,0≤x∧x≤255:=fun x hx=>by
  have:=hwf x hx
  simp[Lit.wf,IntKind.min,IntKind.max,IntKind.signed,IntKind.bits]at this
  omega
 refine Ev.rounds (g:=fun k=>laws_FnMoves.f k code) ?_
 unfold laws_FnMoves.f laws_vBig.f
 simp only[Option.bind_some]
 by_cases hbig: (code.length:Int)>65536
 ·exact ev_pos (decide_eq_true hbig) (Ev.now _)
 refine ev_neg (by rw[decide_eq_false hbig];simp) ?_
 obtain⟨⟨s,r,l,d⟩,hd1,hl⟩:=drawCan_ok hb
 obtain⟨code1,hcut1,hb1⟩:=vCut_ok hb (by omega) 1 (by omega)
 obtain⟨code2,hcut2,hb2⟩:=vCut_ok hb (by omega) 2 (by omega)
 obtain⟨⟨s',r',l',P'⟩,hd2,hl',hP'⟩:=drawMove_ok hb1
 obtain⟨⟨u,ur,rc⟩,hd3⟩:=drawEven_ok hb2
 simp only at hl hl' hP'
 have hl2:l.length≤1048576:=by omega
 have hl2':l'.length≤1048576:=by omega
 have hmv:=mvR_len s' r' l' P' hl2'
 have hev:=evenR_len u ur rc
 have hj0:=mv_j0 s r l d s' r' l' P' hl' u ur rc
 refine Ev.bind hd1 ?_
 refine Ev.bind (implCan_ev s r l d hl2) (Ev.bind (specCan_ev s r l d hl2) ?_)
 refine Ev.bind (implInOrd_ev s r l d hl2) (Ev.bind (specInOrd_ev s r l d hl2) ?_)
 refine Ev.bind (implLeast_ev s r l hl2) (Ev.bind (specLeast_ev s r l hl2) ?_)
 refine Ev.bind (implSum_ev s r l hl2) (Ev.bind (specSum_ev s r l hl2) ?_)
 refine ev_bind0 hcut1 ?_
 refine Ev.bind hd2 ?_
 refine Ev.bind (implMove_ev s' r' l' P' hl2' (by omega)) (Ev.bind (specMove_ev s' r' l' P' hl2') ?_)
 refine ev_bind0 hcut2 ?_
 refine ev_bind0 hd3 ?_
 refine Ev.bind (implEven_ev u ur rc) (Ev.bind (specEven_ev u ur rc) ?_)
 refine ev_neg (by simp) (ev_neg (by simp) (ev_neg (by simp) (ev_neg (by simp) (ev_pos rfl (ev_neg (by simp) (ev_pos rfl (ev_neg (by simp) (ev_neg (by simp) (ev_pos rfl (ev_pos rfl ?_))))))))))
 refine Ev.bind (vSensors_self _ hmv) (ev_pos rfl (ev_neg (by simp) ?_))
 refine Ev.bind (vInts_self _ hev) (ev_pos rfl ?_)
 have hok: ((canR s r l d).2 !=(inOrdR s r l d).2)=false:=by
  have ha:askV s r l d=askO s r l d:=rfl
  unfold canR inOrdR
  rw[ha]
  cases askO s r l d<;>rfl
 have hone: ((leastR s r l).2 !=(sumR s r l).2)=false:=by
  have: (leastR s r l).2=(sumR s r l).2:=by
   cases hv:sensV s r l with
   | true=>
    obtain⟨n,rfl,rfl,_,_⟩:=sens_nat hv
    rw[Bool.eq_iff_iff,(least_spec hv).1,(sum_spec hv).1]
   | false=>
    unfold leastR sumR
    rw[hv];rfl
  rw[this];simp
 refine ev_neg (by rw[hok];decide) ?_
 rw[hone]
 exact hj0
end Go.Proofs.Ytanfamfgdgcjpaa.Pure
