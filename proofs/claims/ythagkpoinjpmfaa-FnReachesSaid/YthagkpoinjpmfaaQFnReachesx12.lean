/- Functions that the law FnReaches comes to, and their walks: no condition but those named. -/
import Derived.Test.YthagkpoinjpmfaaQFnReachesx0
import Derived.Test.YthagkpoinjpmfaaQFnReachesx4
import Derived.Test.YthagkpoinjpmfaaQFnReachesx11
namespace Go.Proofs.Ythagkpoinjpmfaa.QFnReaches
open Go.RowKit Go.Proofs.YthagkpoinjpmfaaW.PrintWords Go.Proofs.YthagkpoinjpmfaaW.PrintLast Go.Proofs.YthagkpoinjpmfaaW.PrintMore Go.Proofs.Ythagkpoinjpmfaa.Short
attribute [local go_sem] max2_int min2_int max_two min_two max_three min_three max_four min_four
set_option linter.unusedVariables false
set_option linter.unusedSimpArgs false
def legSize (c:Int):Int:=c/ 4
def legRing (c:Int):Bool:=decide (c/ 2 % 2=1)
def legCode (m s:Int) (b:Bool):Int:=4*s+(if b=true then 2 else 0)+m
theorem legCode_0 (s:Int) (b:Bool):legSize (legCode 0 s b)=s∧legRing (legCode 0 s b)=b∧legCode 0 s b % 2=0:=by
 unfold legSize legRing legCode
 cases b<;>simp<;>omega
theorem legCode_1 (s:Int) (b:Bool):legSize (legCode 1 s b)=s∧legRing (legCode 1 s b)=b∧legCode 1 s b % 2=1:=by
 unfold legSize legRing legCode
 cases b<;>simp<;>omega
def leg.f (c c0 c1 c2 n x y:Int):Option Int:=if c % 2=0 then(impl_Road_steps.f (legSize c) (legRing c) c0 c1 c2 x y).bind fun t=>some (wrap64 (n+(wrap64 (c2*t))))else impl_Road_arrives.f (legSize c) (legRing c) c0 c1 c2 n x y
def mkLeg0.f (s:Int) (b:Bool):Option Int:=some (legCode 0 s b)
def mkLeg1.f (s:Int) (b:Bool):Option Int:=some (legCode 1 s b)
def LegV (W:World) (c:Int) (v:Value):Prop:=(c % 2=0∧∃ g,v= .func (.func 75) #[] #[.pointer (some ⟨g,0,none⟩)]∧W.heap[g]? =some (.cells #[.int .i64 (legSize c), .bool (legRing c)] 28 (0,0)))∨(c % 2=1∧v= .func (.func 70) #[.agg #[.int .i64 (legSize c), .bool (legRing c)]] #[])
theorem legV_below {w W:World} {c:Int} {v:Value} (h:LegV w c v) (hb:Below w.heap.size w W):LegV W c v:=by
 rcases h with⟨h0,g,h1,h2⟩|h
 rotate_left
 ·exact Or.inr h
 refine Or.inl ⟨h0,g,h1,(hb.block g (blk_lt h2)).trans h2⟩
section
variable {P:Program} {ops:Array Oper} {Q:Exit→Act→World→Prop}
theorem goesF_ {oi:Oper} {N:Option Tmp} {a:Act} {w:World} {K:Act→World→Prop} {f:FuncId} {fn:Func} {xs_:Array Operand} {ts:Array TypeId} (hf:P.funcs[f]? =some fn) (hname: (fn.name== "runtime.NumGoroutine")=false) (hb:fn.body.isSome=true) (bound caps args:Array Value)
    (hw:Region.wanted oi (yielded ops a.tmps)=true) (hN:oi.dst=N) (fo:Operand) (hop:oi.op= .call {callee:= .value fo,args:=xs_,argTypes:=ts}) (hfo:a.eval fo= .func (.func f) bound caps) (hargs:xs_.map a.eval=args)
    (h:Calls P f (bound++args++caps) w fun e w'=>∃ v,e= .returned v∧K (a.put N v) w'):if Region.wanted oi (yielded ops a.tmps)=true then Oper.wp P oi a w K Q else K (a.put N undef) w:=by
  refine call_ f (bound++args++caps) hw hN ?_ h
  have he:=enters_ hf hname hb (bound++args++caps) w
  rw[Array.append_assoc]at he
  unfold execOp
  simp[hop,resolve,Deferred.ofValue,hfo,invoke,hargs,he]
end
def leg.T1:Bool × List (List Nat × List Nat):=(true,[([],[]),([],[]),([1],[1]),([],[]),([],[]),([],[]),([],[]),([3,4,5,6],[3,4,5,6]),([2,7],[2,7]),([0,8],[0,8]),([9,7,0,1,2,3,4,5,6,7,8,9],[9])])
def leg.B1:List Nat:=[0,0,2,0,0,0,0,120,254,511,1023]
theorem leg.tab1:rtab .any (opsOf Try.f75 1)=leg.T1:=by kernel_rfl
theorem leg.bits1:waitsOk leg.T1.2 leg.B1=true:=by kernel_rfl
set_option maxHeartbeats 8000000 in
set_option maxRecDepth 100000 in
theorem leg.calls0 (s:Int) (b:Bool) (c0 c1 c2 n x y t:Int) (g:Nat) (w:World) (hg:w.heap[g]? =some (.cells #[.int .i64 s, .bool b] 28 (0,0))) (h:impl_Road_steps.f s b c0 c1 c2 x y=some t):
  Calls Try.prog 75 #[.agg #[.int .i64 c0,.int .i64 c1,.int .i64 c2],.int .i64 n,.int .i64 x,.int .i64 y,.pointer (some ⟨g,0,none⟩)] w fun e w'=>e= .returned (.int .i64 (wrap64 (n+(wrap64 (c2*t)))))∧Below w.heap.size w w':=by
 have hu28:=Try.underlying28
 have hu63:=Try.underlying63
 have HB:=Aside0.mk (Below.refl w.heap.size w)
 have BK1:=Aside0.mk hg
 have A5:=Aside0.mk h
 clear h hg
 go_enter Try.func75,Try.ntmps75
 try go_wp2_with (refine bx 5 #[.int .i64 c0,.int .i64 c1,.int .i64 c2] 63 ?_;intro gb2 hg w8 hbox hb;have BK2:=ak hbox;have GE2:=gw HB hg;have NB1_2:=nl BK1 hg;have NB2_1:=ng BK1 hg;replace BK1:=kb BK1 hb;replace HB:=bs HB hb;clear hb hbox hg)
 replace BK1:=ak (blk_drew BK1.out)
 replace BK2:=ak (blk_drew BK2.out)
 replace HB:=ak (below_drew1 HB.out)
 refine start_ (n:=11) (S:=fun w'=>w'.cell? ⟨g,0,none⟩=some (.int .i64 s)∧w'.cell? ⟨g,1,none⟩=some (.bool b)∧w'.cell? ⟨gb2,0,none⟩=some (.int .i64 c0)∧w'.cell? ⟨gb2,1,none⟩=some (.int .i64 c1)∧w'.cell? ⟨gb2,2,none⟩=some (.int .i64 c2)) (ds:=[]) (lb 11 0) (by kernel_rfl) rfl rfl ⟨bc BK1 0 rfl,bc BK1 1 rfl,bc BK2 0 rfl,bc BK2 1 rfl,bc BK2 2 rfl⟩ (fun hHeld=>?_);refine with_tabW leg.tab1 leg.bits1 (fun HT_ HW_=>?_)
 generalize w8.drew=w9 at BK1 BK2 HB hHeld⊢
 refine pq 0 (N:=some 10) (lb 11 1) HT_ ?_
 refine pq 1 (N:=some 11) (lb 11 3) HT_ ?_
 refine pq 5 (N:=some 15) (lb 11 35) HT_ ?_
 refine pq 6 (N:=some 16) (lb 11 99) HT_ ?_
 refine tq 2 (N:=some 12) (lb 11 103) HT_ HW_ hHeld ?_
 refine tq 3 (N:=some 13) (lb 11 111) HT_ HW_ hHeld ?_
 refine tq 4 (N:=some 14) (lb 11 127) HT_ HW_ hHeld ?_
 refine one_ (i:=7) (N:=some 17) (lb 11 255) rfl rfl (one_of HT_.out (by kernel_rfl)) (by decide) (fun K hK=>?_)
 refine goes_ Try.func65 (by kernel_rfl) rfl #[.agg #[.int .i64 s,.bool b],.agg #[.int .i64 c0,.int .i64 c1,.int .i64 c2],.int .i64 x,.int .i64 y] (by rfl) rfl rfl gl ?_
 with_reducible refine(impl_Road_steps.calls s b c0 c1 c2 x y t _ A5.out).mono ?_
 rintro e w10 ⟨rfl,hb⟩
 refine⟨_,rfl,?_⟩
 replace BK1:=kb BK1 hb
 replace BK2:=kb BK2 hb
 replace HB:=ak (below_step (h1 HB.out GE2.out) hb)
 (try clear hb)
 refine hK.out _ _ ⟨bc BK1 0 rfl,bc BK1 1 rfl,bc BK2 0 rfl,bc BK2 1 rfl,bc BK2 2 rfl⟩ (fun hHeld=>?_)
 clear hK K
 refine norm_ (a':=?_) ?_ ?_
 rotate_left
 ·show Act.put _ (some 17) _=_
  simp only[ap]
  rfl
 refine pq 8 (N:=some 18) (lb 11 511) HT_ ?_
 refine pq 9 (N:=some 19) (lb 11 1023) HT_ ?_
 refine pq 10 (N:=some 9) (lb 11 2047) HT_ ?_
 refine done_ (done_of HT_.out (by kernel_rfl)) ?_
 try go_wp2
 go_ret
 exact⟨fe,h1 HB.out GE2.out⟩
section
variable {ops:Array Oper} {Q:Exit→Act→World→Prop}
theorem goesLeg_ {oi:Oper} {N:Option Tmp} {a:Act} {w:World} {K:Act→World→Prop} {xs_:Array Operand} {ts:Array TypeId} {c c0 c1 c2 n x y t:Int} {v:Value} (HV:LegV w c v) (fo:Operand) (hw:Region.wanted oi (yielded ops a.tmps)=true) (hN:oi.dst=N)
    (hop:oi.op= .call {callee:= .value fo,args:=xs_,argTypes:=ts}) (hfo:a.eval fo=v) (hargs:xs_.map a.eval= #[.agg #[.int .i64 c0, .int .i64 c1, .int .i64 c2], .int .i64 n, .int .i64 x, .int .i64 y]) (h:leg.f c c0 c1 c2 n x y=some t)
    (hk:∀ w',Below w.heap.size w w'→K (a.put N (.int .i64 t)) w'):if Region.wanted oi (yielded ops a.tmps)=true then Oper.wp Try.prog oi a w K Q else K (a.put N undef) w:=by
 unfold leg.f at h
 rcases HV with⟨h0,g,h1,h2⟩|⟨h0,h1⟩
 rotate_left
 ·rw[if_neg (by omega)]at h
  refine goesF_ Try.func70 (by kernel_rfl) rfl #[.agg #[.int .i64 (legSize c), .bool (legRing c)]] #[] _ hw hN fo hop (hfo.trans h1) hargs ?_
  refine(impl_Road_arrives.calls _ _ c0 c1 c2 n x y t w h).mono ?_
  rintro e w' ⟨rfl,hb⟩
  exact⟨_,rfl,hk _ hb⟩
 rw[if_pos h0]at h
 obtain⟨t0,e1,e2⟩:=Option.bind_eq_some_iff.mp h
 obtain rfl:=Option.some.inj e2
 refine goesF_ Try.func75 (by kernel_rfl) rfl #[] #[.pointer (some ⟨g,0,none⟩)] _ hw hN fo hop (hfo.trans h1) hargs ?_
 refine(leg.calls0 _ _ c0 c1 c2 n x y t0 g w h2 e1).mono ?_
 rintro e w' ⟨rfl,hb⟩
 exact⟨_,rfl,hk _ hb⟩
end
mutual
def impl_least.l0:Nat→List (S63)→Int→Int→Mt→Int→Int→Int→Bool→Option (Int × Bool)
 | 0,_,_,_,_,_,_,_,_=>none
 | k+1,x1,x3,x4,x12,x13,x14,x494000,x494001=>if x14≤x3 then(impl_least.l1 k x1 x3 x4 x12 x13 x14 (shl .i64 1 (x1.length:Int)) 0 x494000 x494001)else((impl_found.f x13).bind fun bt498=>(some (bt498.1,bt498.2)))
def impl_least.l1:Nat→List (S63)→Int→Int→Mt→Int→Int→Int→Int→Int→Bool→Option (Int × Bool)
 | 0,_,_,_,_,_,_,_,_,_,_=>none
 | k+1,x1,x3,x4,x12,x13,x14,x44,x45,x494000,x494001=>if x45<x44 then((mapGet.f x12 x45 x14).bind fun bt500=>(if bt500.2=true then(if x14=x3 then(if x13<0 then(impl_least.j2 k x1 x3 x4 x12 x13 x14 x45 bt500.1 x44 x45 true x494000 x494001)else(impl_least.j2 k x1 x3 x4 x12 x13 x14 x45 bt500.1 x44 x45 (decide (bt500.1<x13)) x494000 x494001))else(impl_least.j2 k x1 x3 x4 x12 x13 x14 x45 bt500.1 x44 x45 false x494000 x494001))else(impl_least.l1 k x1 x3 x4 x12 x13 x14 x44 (wrap64 (x45+1)) x494000 x494001)))else(impl_least.l0 k x1 x3 x4 x12 x13 (wrap64 (x14+1)) x494000 x494001)
def impl_least.j2:Nat→List (S63)→Int→Int→Mt→Int→Int→Int→Int→Int→Int→Bool→Int→Bool→Option (Int × Bool)
 | 0,_,_,_,_,_,_,_,_,_,_,_,_,_=>none
 | k+1,x1,x3,x4,x12,x13,x14,x15,x16,x44,x45,x69,x494000,x494001=>if x69=true then(impl_least.j3 k x1 x3 x4 x12 x16 x14 x15 x16 x44 x45 x494000 x494001)else(impl_least.j3 k x1 x3 x4 x12 x13 x14 x15 x16 x44 x45 x494000 x494001)
def impl_least.j3:Nat→List (S63)→Int→Int→Mt→Int→Int→Int→Int→Int→Int→Int→Bool→Option (Int × Bool)
 | 0,_,_,_,_,_,_,_,_,_,_,_,_=>none
 | k+1,x1,x3,x4,x12,x13,x14,x15,x16,x44,x45,x494000,x494001=>impl_least.l2 k x1 x3 x4 x12 x13 x14 x15 x16 x44 x45 x1 (x1.length:Int) 0 x494000 x494001
def impl_least.l2:Nat→List (S63)→Int→Int→Mt→Int→Int→Int→Int→Int→Int→List (S63)→Int→Int→Int→Bool→Option (Int × Bool)
 | 0,_,_,_,_,_,_,_,_,_,_,_,_,_,_,_=>none
 | k+1,x1,x3,x4,x12,x13,x14,x15,x16,x44,x45,x71,x72,x73,x494000,x494001=>if x73<x72 then(if 0≤x73 then(if x73<(x71.length:Int)then(impl_least.l3 k x1 x3 x4 x12 x13 x14 x15 x16 x73 (wrap64 (x14+1)) x44 x45 x71 x72 x73 x494000 x494001 ((rd_T63 x71 x73).f0) ((rd_T63 x71 x73).f1) ((rd_T63 x71 x73).f2))else(none))else(none))else(impl_least.l1 k x1 x3 x4 x12 x13 x14 x44 (wrap64 (x45+1)) x494000 x494001)
def impl_least.l3:Nat→List (S63)→Int→Int→Mt→Int→Int→Int→Int→Int→Int→Int→Int→List (S63)→Int→Int→Int→Bool→Int→Int→Int→Option (Int × Bool)
 | 0,_,_,_,_,_,_,_,_,_,_,_,_,_,_,_,_,_,_,_,_=>none
 | k+1,x1,x3,x4,x12,x13,x14,x15,x16,x18,x20,x44,x45,x71,x72,x73,x494000,x494001,x504000,x504001,x504002=>if x20≤x3 then(if 0≤x18 then(if(Go.bits .and .i64 (shr .i64 x15 x18) 1)=0 then((impl_Road_steps.f x494000 x494001 x504000 x504001 x504002 x14 x20).bind fun t504=>(impl_least.j6 k x1 x3 x4 x12 x13 x14 x15 x16 x18 x20 x44 x45 x71 x72 x73 (decide (t504≤x504001)) x494000 x494001 x504000 x504001 x504002))else(impl_least.j6 k x1 x3 x4 x12 x13 x14 x15 x16 x18 x20 x44 x45 x71 x72 x73 false x494000 x494001 x504000 x504001 x504002))else(none))else(impl_least.j6 k x1 x3 x4 x12 x13 x14 x15 x16 x18 x20 x44 x45 x71 x72 x73 false x494000 x494001 x504000 x504001 x504002)
def impl_least.j6:Nat→List (S63)→Int→Int→Mt→Int→Int→Int→Int→Int→Int→Int→Int→List (S63)→Int→Int→Bool→Int→Bool→Int→Int→Int→Option (Int × Bool)
 | 0,_,_,_,_,_,_,_,_,_,_,_,_,_,_,_,_,_,_,_,_,_=>none
 | k+1,x1,x3,x4,x12,x13,x14,x15,x16,x18,x20,x44,x45,x71,x72,x73,x99,x494000,x494001,x504000,x504001,x504002=>if x99=true then(if 0≤x18 then((leg.f x4 x504000 x504001 x504002 x16 x14 x20).bind fun t505=>((mapGet.f x12 (Go.bits .or .i64 x15 (shl .i64 1 x18)) x20).bind fun bt507=>(if bt507.2=true then(if t505<bt507.1 then((mapPut.f x12 (Go.bits .or .i64 x15 (shl .i64 1 x18)) x20 t505).bind fun t509=>(impl_least.l3 k x1 x3 x4 t509 x13 x14 x15 x16 x18 (wrap64 (x20+1)) x44 x45 x71 x72 x73 x494000 x494001 x504000 x504001 x504002))else(impl_least.l3 k x1 x3 x4 x12 x13 x14 x15 x16 x18 (wrap64 (x20+1)) x44 x45 x71 x72 x73 x494000 x494001 x504000 x504001 x504002))else((mapPut.f x12 (Go.bits .or .i64 x15 (shl .i64 1 x18)) x20 t505).bind fun t510=>(impl_least.l3 k x1 x3 x4 t510 x13 x14 x15 x16 x18 (wrap64 (x20+1)) x44 x45 x71 x72 x73 x494000 x494001 x504000 x504001 x504002)))))else(none))else(impl_least.l2 k x1 x3 x4 x12 x13 x14 x15 x16 x44 x45 x71 x72 (wrap64 (x73+1)) x494000 x494001)
end
def impl_least.f (k:Nat) (a0_0:Int) (a0_1:Bool) (l1:List (S63)) (a2:Int) (a3:Int) (a4:Int):Option (Int × Bool):=(impl_isCarried.f k a0_0 a0_1 l1 (([a2,a3]:List Int))).bind fun t497=>(if t497=true then((mapPut.f mtE 0 a2 0).bind fun mt0=>(impl_least.l0 k l1 a3 a4 mt0 (-1) a2 a0_0 a0_1))else(some (0,false)))
theorem impl_least.mono_l:∀ k,(∀ y0 y1 y2 y3 y4 y5 y6 y7,LeO (impl_least.l0 k y0 y1 y2 y3 y4 y5 y6 y7) (impl_least.l0 (k+1) y0 y1 y2 y3 y4 y5 y6 y7))∧(∀ y0 y1 y2 y3 y4 y5 y6 y7 y8 y9,LeO (impl_least.l1 k y0 y1 y2 y3 y4 y5 y6 y7 y8 y9) (impl_least.l1 (k+1) y0 y1 y2 y3 y4 y5 y6 y7 y8 y9))∧(∀ y0 y1 y2 y3 y4 y5 y6 y7 y8 y9 y10 y11 y12,LeO (impl_least.j2 k y0 y1 y2 y3 y4 y5 y6 y7 y8 y9 y10 y11 y12) (impl_least.j2 (k+1) y0 y1 y2 y3 y4 y5 y6 y7 y8 y9 y10 y11 y12))∧(∀ y0 y1 y2 y3 y4 y5 y6 y7 y8 y9 y10 y11,LeO (impl_least.j3 k y0 y1 y2 y3 y4 y5 y6 y7 y8 y9 y10 y11) (impl_least.j3 (k+1) y0 y1 y2 y3 y4 y5 y6 y7 y8 y9 y10 y11))∧(∀ y0 y1 y2 y3 y4 y5 y6 y7 y8 y9 y10 y11 y12 y13 y14,LeO (impl_least.l2 k y0 y1 y2 y3 y4 y5 y6 y7 y8 y9 y10 y11 y12 y13 y14) (impl_least.l2 (k+1) y0 y1 y2 y3 y4 y5 y6 y7 y8 y9 y10 y11 y12 y13 y14))∧(∀ y0 y1 y2 y3 y4 y5 y6 y7 y8 y9 y10 y11 y12 y13 y14 y15 y16 y17 y18 y19,LeO (impl_least.l3 k y0 y1 y2 y3 y4 y5 y6 y7 y8 y9 y10 y11 y12 y13 y14 y15 y16 y17 y18 y19) (impl_least.l3 (k+1) y0 y1 y2 y3 y4 y5 y6 y7 y8 y9 y10 y11 y12 y13 y14 y15 y16 y17 y18 y19))∧(∀ y0 y1 y2 y3 y4 y5 y6 y7 y8 y9 y10 y11 y12 y13 y14 y15 y16 y17 y18 y19 y20,LeO (impl_least.j6 k y0 y1 y2 y3 y4 y5 y6 y7 y8 y9 y10 y11 y12 y13 y14 y15 y16 y17 y18 y19 y20) (impl_least.j6 (k+1) y0 y1 y2 y3 y4 y5 y6 y7 y8 y9 y10 y11 y12 y13 y14 y15 y16 y17 y18 y19 y20))
 | 0=>by
  refine⟨?_,?_,?_,?_,?_,?_,?_⟩<;>(intros;intro r h;simp[impl_least.l0,impl_least.l1,impl_least.j2,impl_least.j3,impl_least.l2,impl_least.l3,impl_least.j6]at h)
 | k+1=>by
  obtain⟨ih0,ih1,ih2,ih3,ih4,ih5,ih6⟩:=impl_least.mono_l k
  refine⟨?_,?_,?_,?_,?_,?_,?_⟩<;>intros<;>(first|unfold impl_least.l0|unfold impl_least.l1|unfold impl_least.j2|unfold impl_least.j3|unfold impl_least.l2|unfold impl_least.l3|unfold impl_least.j6)<;>(repeat' (with_reducible first|exact ih0 ..|exact ih1 ..|exact ih2 ..|exact ih3 ..|exact ih4 ..|exact ih5 ..|exact ih6 ..|exact impl_isCarried.mono ..|exact LeO.refl _|exact LeO.none _|refine LeO.ite ?_ ?_|refine LeO.bind ?_ (fun _=>?_)))
theorem impl_least.mono:∀ a0 a1 a2 a3 a4 a5 k,LeO (impl_least.f k a0 a1 a2 a3 a4 a5) (impl_least.f (k+1) a0 a1 a2 a3 a4 a5):=by
 intro a0 a1 a2 a3 a4 a5 k
 obtain⟨ih0,ih1,ih2,ih3,ih4,ih5,ih6⟩:=impl_least.mono_l k
 unfold impl_least.f
 repeat' (with_reducible first|exact ih0 ..|exact ih1 ..|exact ih2 ..|exact ih3 ..|exact ih4 ..|exact ih5 ..|exact ih6 ..|exact impl_isCarried.mono ..|exact LeO.refl _|exact LeO.none _|refine LeO.ite ?_ ?_|refine LeO.bind ?_ (fun _=>?_))
def impl_least.T19:Bool × List (List Nat × List Nat):=(true,[([],[]),([],[]),([0,1],[0,1]),([2],[2]),([3],[3]),([3],[3]),([4,5,3],[3,4,5]),([6,3],[3,6]),([7,3],[3,7]),([3,8],[3,8]),([9,3],[9]),([10],[10]),([10],[10]),([10],[10]),([10],[10]),([11,12,13,14,10,10],[10,11,12,13,14]),([10],[10]),([16,10],[10,16]),([15,17,10],[10,15,17]),([10,18],[10,18])])
def impl_least.B19:List Nat:=[0,0,3,7,15,15,63,127,255,511,1023,2047,2047,2047,2047,32767,2047,67583,262143,524287]
theorem impl_least.tab19:rtab .any (opsOf Try.f74 19)=impl_least.T19:=by kernel_rfl
theorem impl_least.bits19:waitsOk impl_least.T19.2 impl_least.B19=true:=by kernel_rfl
def impl_least.T21:Bool × List (List Nat × List Nat):=(true,[([],[]),([],[]),([1],[1]),([0,2],[0,2]),([],[]),([3,4],[3,4]),([],[]),([],[]),([],[]),([],[]),([],[]),([6,7,8,9,10],[6,7,8,9,10]),([],[]),([12,5,11,0,1,2,3,4,5,12],[5,12]),([11,13,0,1,2,3,4,5,6,7,8,9,10,11,12,13],[11])])
def impl_least.B21:List Nat:=[0,0,2,7,0,31,0,0,0,0,0,1984,0,8191,16383]
theorem impl_least.tab21:rtab .any (opsOf Try.f74 21)=impl_least.T21:=by kernel_rfl
theorem impl_least.bits21:waitsOk impl_least.T21.2 impl_least.B21=true:=by kernel_rfl
set_option maxHeartbeats 8000000 in
set_option maxRecDepth 100000 in
theorem impl_least.calls (k:Nat) (a0_0:Int) (a0_1:Bool) (A1:Option Addr) (c1:Nat) (l1:List (S63)) (a2:Int) (a3:Int) (a4:Int) (v4:Value) (r1:Int) (r2:Bool) (w:World) (hr1:Kd.C k63 w A1 l1.length l1) (hc1:l1.length≤c1) (hlg:LegV w a4 v4) (h:impl_least.f k a0_0 a0_1 l1 a2 a3 a4=some (r1,r2)):
  Calls Try.prog 74 #[.agg #[.int .i64 a0_0, .bool a0_1], .slice A1 l1.length c1, .int .i64 a2, .int .i64 a3,v4] w fun e w'=>e= .returned (.tuple #[.int .i64 r1, .bool r2])∧Below w.heap.size w w':=by
 have hu28:=Try.underlying28
 have hu124:=Try.underlying124
 have hu63:=Try.underlying63
 have HR1:=Aside0.mk hr1
 have HC1:=Aside0.mk hc1
 clear hr1 hc1
 have HB:=Aside0.mk (Below.refl w.heap.size w)
 have HLG:=Aside0.mk hlg
 clear hlg
 have H: ((impl_isCarried.f k a0_0 a0_1 l1 (([a2,a3]:List Int))).bind fun t497=>(if t497=true then((mapPut.f mtE 0 a2 0).bind fun mt0=>(impl_least.l0 k l1 a3 a4 mt0 (-1) a2 a0_0 a0_1))else(some (0,false))))=some (r1,r2):=h
 clear h
 obtain⟨y494,hy494⟩:∃ y_:List Int,y_=(([a2,a3]:List Int)):=⟨_,rfl⟩
 replace H: ((impl_isCarried.f k a0_0 a0_1 l1 y494).bind fun t497=>(if t497=true then((mapPut.f mtE 0 a2 0).bind fun mt0=>(impl_least.l0 k l1 a3 a4 mt0 (-1) a2 a0_0 a0_1))else(some (0,false))))=some (r1,r2):=by first|(rw[hy494];with_reducible exact H)|(have H2_:=(Option.bind_some _ _).symm.trans H;rw[hy494];with_reducible exact H2_)|(have H2_:=(Option.bind_some _ _).symm.trans H;with_reducible exact H2_)|with_reducible exact H|(rw[hy494];exact H)|exact H
 have Ny494:=Aside0.mk hy494
 clear hy494
 replace H:=Option.bind_eq_some_iff.mp H
 obtain⟨t497,A60,H⟩:=H
 (try dsimp only at H)
 have A6:=Aside0.mk A60
 clear A60
 by_cases c7:t497=true
 rotate_left
 ·replace c7:=Bool.eq_false_iff.mpr c7
  subst c7
  rw[if_neg (show ¬(false=true)by decide)]at H
  simp only[Option.some.injEq,Prod.mk.injEq]at H
  obtain⟨rfl,rfl⟩:=H
  go_enter Try.func74,Try.ntmps74
  go_wp2_with (first|((with_reducible refine gate_dst (N:=5) rfl ?_);refine box_event ?hg (N:=5) ?hd (cs:= #[.int .i64 a0_0, .bool a0_1]) (t:=28) ?hr ?_;(case hd=>rfl);(case hg=>rfl);(case hr=>first|(go_simp;done)|(go_simp;rfl));intro gb493 hg w78 hbox hb;have BK493:=ak hbox;have GW493:=ak ((by rw[hg];exact(below_size (hm HB.out)):w.heap.size≤gb493));have GE493:=ak ((by rw[hg];exact(below_size (hm HB.out)):w.heap.size≤gb493));replace HB:=bs HB hb;clear hb hbox hg;have hcz79_0:w78.cell? ⟨gb493,0,none⟩=some (.int .i64 a0_0):=bc BK493 0 rfl;have hcz79_1:w78.cell? ⟨gb493,1,none⟩=some (.bool a0_1):=bc BK493 1 rfl;have hfz79_0:=blk_frozen BK493.out 0;have hfz79_1:=blk_frozen BK493.out 1)|((with_reducible refine gate_dst (N:=29) rfl ?_);refine Kd.R_lit (Kd.int .i64) _ 3 ?hg (N:=29) ?hd (xs:=([a2,a3]:List Int)) (inner:=[.int .i64 a2, .int .i64 a3]) (ok:=fun _=>True) (okp:=fun _=>True) ?hr ?hp (fun _ hk=>hk) trivial (Below.refl _ _) (Nat.le_refl _) (by simp) ?_;(case hd=>rfl);(case hg=>rfl);(case hr=>first|(go_simp;done)|(go_simp;rfl));(case hp=>exact(Reps.one (show Kd.M (Kd.int .i64) _ _ _ a2 [.int .i64 a2]from rfl) (Reps.one (show Kd.M (Kd.int .i64) _ _ _ a3 [.int .i64 a3]from rfl) (Reps.none _ _))));intro v495 w80 ho81 hb hg_ hnew_;clear hg_ hnew_;(first|rw[←Ny494.out]at ho81|(simp only[Int.reduceToNat]at ho81;rw[←Ny494.out]at ho81));have HO496:=ak (Kd.R_lower ho81 (below_size (h1 HB.out GE493.out)));replace BK493:=kb BK493 hb;replace HB:=ak (below_step (h1 HB.out GE493.out) hb);clear hb ho81;obtain⟨Ao82,co82,eo82⟩:=Kd.R_slice HO496.out;subst eo82)|((with_reducible refine gate_callee (f:=63) rfl ?_);refine goesL_ (some 30) rfl rfl Try.func63 (by kernel_rfl) rfl #[.agg #[.int .i64 a0_0, .bool a0_1], .slice A1 l1.length c1, .slice Ao82 y494.length co82] rfl gl ?_;(with_reducible refine(impl_isCarried.calls k a0_0 a0_1 _ _ l1 _ _ y494 false _ ?side1 ?side2 ?side3 ?side4 A6.out).mono ?_);(case side1=>exact cm (Kd.C_below HR1.out HB.out));(case side2=>exact HC1.out);(case side3=>exact cm (Kd.R_reads' HO496.out).2.2);(case side4=>exact(Kd.R_reads' HO496.out).2.1);rintro e w83 ⟨rfl,hb⟩;refine⟨_,rfl,?_⟩;replace HO496:=ak (Kd.R_below (rm HO496.out) hb);replace BK493:=kb BK493 hb;replace HB:=ak (below_step (h1 HB.out GE493.out) hb);(try clear hb);(try clear hb2);(try clear hk);(try clear hi)))
  go_ret2
  exact⟨fe,h1 HB.out GE493.out⟩
 subst c7
 rw[if_pos rfl]at H
 replace H:=Option.bind_eq_some_iff.mp H
 obtain⟨mt0,AM10,H⟩:=H
 have AM1:=Aside0.mk AM10
 clear AM10
 have H':=Aside0.mk H
 clear H
 go_enter Try.func74,Try.ntmps74
 go_wp2_with (first|((with_reducible refine gate_dst (N:=5) rfl ?_);refine box_event ?hg (N:=5) ?hd (cs:= #[.int .i64 a0_0, .bool a0_1]) (t:=28) ?hr ?_;(case hd=>rfl);(case hg=>rfl);(case hr=>first|(go_simp;done)|(go_simp;rfl));intro gb493 hg w8 hbox hb;have BK493:=ak hbox;have GW493:=ak ((by rw[hg];exact(below_size (hm HB.out)):w.heap.size≤gb493));have GE493:=ak ((by rw[hg];exact(below_size (hm HB.out)):w.heap.size≤gb493));replace HB:=bs HB hb;clear hb hbox hg;have hcz9_0:w8.cell? ⟨gb493,0,none⟩=some (.int .i64 a0_0):=bc BK493 0 rfl;have hcz9_1:w8.cell? ⟨gb493,1,none⟩=some (.bool a0_1):=bc BK493 1 rfl;have hfz9_0:=blk_frozen BK493.out 0;have hfz9_1:=blk_frozen BK493.out 1)|((with_reducible refine gate_dst (N:=29) rfl ?_);refine Kd.R_lit (Kd.int .i64) _ 3 ?hg (N:=29) ?hd (xs:=([a2,a3]:List Int)) (inner:=[.int .i64 a2, .int .i64 a3]) (ok:=fun _=>True) (okp:=fun _=>True) ?hr ?hp (fun _ hk=>hk) trivial (Below.refl _ _) (Nat.le_refl _) (by simp) ?_;(case hd=>rfl);(case hg=>rfl);(case hr=>first|(go_simp;done)|(go_simp;rfl));(case hp=>exact(Reps.one (show Kd.M (Kd.int .i64) _ _ _ a2 [.int .i64 a2]from rfl) (Reps.one (show Kd.M (Kd.int .i64) _ _ _ a3 [.int .i64 a3]from rfl) (Reps.none _ _))));intro v495 w10 ho11 hb hg_ hnew_;clear hg_ hnew_;(first|rw[←Ny494.out]at ho11|(simp only[Int.reduceToNat]at ho11;rw[←Ny494.out]at ho11));have HO496:=ak (Kd.R_lower ho11 (below_size (h1 HB.out GE493.out)));replace BK493:=kb BK493 hb;replace HB:=ak (below_step (h1 HB.out GE493.out) hb);clear hb ho11;obtain⟨Ao12,co12,eo12⟩:=Kd.R_slice HO496.out;subst eo12)|((with_reducible refine gate_callee (f:=63) rfl ?_);refine goesL_ (some 30) rfl rfl Try.func63 (by kernel_rfl) rfl #[.agg #[.int .i64 a0_0, .bool a0_1], .slice A1 l1.length c1, .slice Ao12 y494.length co12] rfl gl ?_;(with_reducible refine(impl_isCarried.calls k a0_0 a0_1 _ _ l1 _ _ y494 true _ ?side1 ?side2 ?side3 ?side4 A6.out).mono ?_);(case side1=>exact cm (Kd.C_below HR1.out HB.out));(case side2=>exact HC1.out);(case side3=>exact cm (Kd.R_reads' HO496.out).2.2);(case side4=>exact(Kd.R_reads' HO496.out).2.1);rintro e w13 ⟨rfl,hb⟩;refine⟨_,rfl,?_⟩;replace HO496:=ak (Kd.R_below (rm HO496.out) hb);replace BK493:=kb BK493 hb;replace HB:=ak (below_step (h1 HB.out GE493.out) hb);(try clear hb);(try clear hb2);(try clear hk);(try clear hi))|((with_reducible refine gate_dst (N:=32) rfl ?_);refine map_make rfl rfl rfl ?_;intro gm hg wm hM hb;have MB:=ak hM;have GM:=ak ((by rw[hg];exact below_size (h1 HB.out GE493.out)):w.heap.size≤gm);replace HB:=ak (below_step (h1 HB.out GE493.out) hb);have NG493:=ak ((by rw[hg];exact Nat.ne_of_lt (blk_lt (g:=gb493) (o:=(.cells #[.int .i64 a0_0, .bool a0_1] 28 (0,0))) (bm BK493.out))):gb493≠gm);replace BK493:=ak (blk_below (g:=gb493) (o:=(.cells #[.int .i64 a0_0, .bool a0_1] 28 (0,0))) (bm BK493.out) hb);clear hb hM hg)|(refine map_put rfl (.tmp 32) (.tmp 34) (.const (.int .i64 0)) (.inr rfl) rfl gm mtE mt0 0 a2 0 (by rfl) (by rfl) (by rfl) (by(with_reducible repeat(first|refine map_drewN ?_ _|refine map_drew ?_|refine map_alloc ?_ _));exact MB.out) AM1.out ?_;intro wp hM hgr;have q0_:=Aside0.mk hM;have q1_:=Aside0.mk (below_put (h1 HB.out GE493.out) hgr GM.out);have r0_:=Aside0.mk (blk_grown (o:=(.cells #[.int .i64 a0_0, .bool a0_1] 28 (0,0))) (bm BK493.out) hgr (fun e_=>NG493.out (Option.some.inj e_)));clear MB;clear HB;clear BK493;have MB:=q0_;have HB:=q1_;have BK493:=r0_;clear q0_ q1_ r0_;clear hM hgr))
 go_loopg [13,14] k (fun kq v13 v14 w'=>∃ (x12_1:Mt) (x13_1:Int) (x14_1:Int),v13= .int .i64 x13_1∧v14= .int .i64 x14_1∧Aside0 (impl_least.l0 kq l1 a3 a4 x12_1 x13_1 x14_1 a0_0 a0_1=some (r1,r2))∧Aside0 (kq≤k)∧Aside0 (MapIs w' gm x12_1)∧Aside0 (w'.heap[gb493]? =some (.cells #[.int .i64 a0_0, .bool a0_1] 28 (0,0)))∧Aside0 (Below w.heap.size w w'))
 case atStart=>exact⟨(mt0),((-1)),(a2),fd,fd,H',⟨Nat.le_refl _⟩,⟨by(with_reducible repeat(first|refine map_drewN ?_ _|refine map_drew ?_|refine map_alloc ?_ _));exact MB.out⟩,⟨bm BK493.out⟩,⟨h1 HB.out GE493.out⟩⟩
 clear H'
 try clear c1
 try clear p2
 try clear c6
 try clear c7
 try clear hcz9_0
 try clear hcz9_1
 try clear hfz9_0
 try clear hfz9_1
 obtain⟨x12_1,x13_1,x14_1,rfl,rfl,HA,HK1,MB,BK493,HB⟩:=hrel
 obtain _|k1:=gk;·cases HA.out
 obtain⟨H⟩:=HA
 simp only[impl_least.l0]at H
 by_cases c14:x14_1≤a3
 rotate_left
 ·rw[if_neg c14]at H
  have c14b0:decide (x14_1≤a3)=false:=decide_eq_false c14
  clear c14
  replace H:=Option.bind_eq_some_iff.mp H
  obtain⟨⟨t498,t499⟩,A760,H⟩:=H
  (try dsimp only at H)
  have A76:=Aside0.mk A760
  clear A760
  simp only[Option.some.injEq,Prod.mk.injEq]at H
  obtain⟨rfl,rfl⟩:=H
  go_wp2_with (first|((with_reducible refine gate_callee (f:=109) rfl ?_);refine goesL_ (some 133) rfl rfl Try.func109 (by kernel_rfl) rfl #[.int .i64 x13_1] rfl gl ?_;(with_reducible refine(impl_found.calls x13_1 t498 t499 _ A76.out).mono ?_);rintro e w77 ⟨rfl,hb⟩;refine⟨_,rfl,?_⟩;have n0_:=Aside0.mk (blk_below (g:=gb493) (o:= .cells #[.int .i64 a0_0, .bool a0_1] 28 (0,0)) (bm BK493.out) hb);have mb_:=Aside0.mk (map_below (g:=gm) (m:=x12_1) (by(with_reducible repeat(first|refine map_drewN ?_ _|refine map_drew ?_|refine map_alloc ?_ _));exact MB.out) hb);have n1_:=Aside0.mk (below_step (h1 HB.out GE493.out) hb);clear BK493;clear HB;have BK493:=n0_;clear MB;have MB:=mb_;clear mb_;have HB:=n1_;clear n0_ n1_;(try clear hb);(try clear hb2);(try clear hk);(try clear hi)))
  go_ret2
  exact⟨fe,h1 HB.out GE493.out⟩
 rw[if_pos c14]at H
 have c14b0:decide (x14_1≤a3)=true:=decide_eq_true c14
 clear c14
 generalize hji15: (shl .i64 1 (l1.length:Int))=ji15 at H
 have hji15_: (IntKind.i64.wrap (1*2^min (l1.length:Int).toNat 64))=ji15:=hji15
 have hji15z: (l1.length:Int)≤64→(IntKind.i64.wrap (1*2^ (l1.length:Int).toNat))=ji15:=shl_small hji15
 have hji15p: (IntKind.i64.wrap (1*2^min l1.length 64))=ji15:=hji15_
 have hji15q: (l1.length:Int)≤64→(IntKind.i64.wrap (1*2^l1.length))=ji15:=hji15z
 have hji15r: (IntKind.i64.wrap (2^min l1.length 64))=ji15:=by have h_:=hji15p;rw[Int.one_mul]at h_;exact h_
 have hji15s: (l1.length:Int)≤64→(IntKind.i64.wrap (2^l1.length))=ji15:=fun hle_=>by have h_:=hji15q hle_;rw[Int.one_mul]at h_;exact h_
 have hji15u: (IntKind.i64.wrap (2^min (l1.length:Int).toNat 64))=ji15:=by have h_:=hji15_;rw[Int.one_mul]at h_;exact h_
 have hji15v: (l1.length:Int)≤64→(IntKind.i64.wrap (2^ (l1.length:Int).toNat))=ji15:=fun hle_=>by have h_:=hji15z hle_;rw[Int.one_mul]at h_;exact h_
 have hji15y: (wrap64 (1*2^min (l1.length:Int).toNat 64))=ji15:=(i64_w _).symm.trans hji15_
 have hji15x: (l1.length:Int)≤64→(wrap64 (1*2^ (l1.length:Int).toNat))=ji15:=fun h_=>(i64_w _).symm.trans (hji15z h_)
 have H':=Aside0.mk H
 clear H
 go_wp2
 go_loopg [13,45] k1 (fun kq v13 v45 w'=>∃ (x12_2:Mt) (x13_2:Int) (x45_2:Int),v13= .int .i64 x13_2∧v45= .int .i64 x45_2∧Aside0 (impl_least.l1 kq l1 a3 a4 x12_2 x13_2 x14_1 ji15 x45_2 a0_0 a0_1=some (r1,r2))∧Aside0 (kq≤k1)∧Aside0 (MapIs w' gm x12_2)∧Aside0 (w'.heap[gb493]? =some (.cells #[.int .i64 a0_0, .bool a0_1] 28 (0,0)))∧Aside0 (Below w.heap.size w w'))
 case atStart=>exact⟨(x12_1),(x13_1),(0),fd,fd,H',⟨Nat.le_refl _⟩,⟨by(with_reducible repeat(first|refine map_drewN ?_ _|refine map_drew ?_|refine map_alloc ?_ _));exact MB.out⟩,⟨bm BK493.out⟩,⟨h1 HB.out GE493.out⟩⟩
 clear H'
 try clear c1
 try clear p2
 try clear c6
 try clear p6
 try clear c7
 try clear c14
 try clear c14b0
 try clear hcz9_0
 try clear hcz9_1
 try clear hfz9_0
 try clear hfz9_1
 try clear p2
 obtain⟨x12_2,x13_2,x45_2,rfl,rfl,HA,HK2,MB,BK493,HB⟩:=hrel
 obtain _|k2:=gk;·cases HA.out
 obtain⟨H⟩:=HA
 simp only[impl_least.l1]at H
 by_cases c16:x45_2<ji15
 rotate_left
 ·rw[if_neg c16]at H
  have c16b0:decide (x45_2<ji15)=false:=decide_eq_false c16
  clear c16
  have H':=Aside0.mk H
  clear H
  go_wp2
  go_roundg k2
  case measure=>have:=HK1.out;have:=HK2.out;omega
  case rel=>exact⟨(x12_2),(x13_2),(wrap64 (x14_1+1)),fd,fd,H',⟨by have:=HK1.out;have:=HK2.out;omega⟩,⟨by(with_reducible repeat(first|refine map_drewN ?_ _|refine map_drew ?_|refine map_alloc ?_ _));exact MB.out⟩,⟨bm BK493.out⟩,⟨h1 HB.out GE493.out⟩⟩
 rw[if_pos c16]at H
 have c16b0:decide (x45_2<ji15)=true:=decide_eq_true c16
 clear c16
 replace H:=Option.bind_eq_some_iff.mp H
 obtain⟨⟨t500,t501⟩,A170,H⟩:=H
 (try dsimp only at H)
 have A17:=Aside0.mk A170
 clear A170
 by_cases c18:t501=true
 rotate_left
 ·replace c18:=Bool.eq_false_iff.mpr c18
  subst c18
  rw[if_neg (show ¬(false=true)by decide)]at H
  have H':=Aside0.mk H
  clear H
  go_wp2_with (first|((with_reducible refine gate_dst (N:=53) rfl ?_);refine map_get rfl (.tmp 49) (.tmp 52) rfl gm x12_2 x45_2 x14_1 t500 false (by rfl) (by first|rfl) (by(with_reducible repeat(first|refine map_drewN ?_ _|refine map_drew ?_|refine map_alloc ?_ _));exact MB.out) A17.out ?_))
  go_roundg k2
  case measure=>have:=HK1.out;have:=HK2.out;omega
  case rel=>exact⟨(x12_2),(x13_2),(wrap64 (x45_2+1)),fd,fd,H',⟨by have:=HK1.out;have:=HK2.out;omega⟩,⟨by(with_reducible repeat(first|refine map_drewN ?_ _|refine map_drew ?_|refine map_alloc ?_ _));exact MB.out⟩,⟨bm BK493.out⟩,⟨h1 HB.out GE493.out⟩⟩
 subst c18
 rw[if_pos rfl]at H
 have HC19:=Aside0.mk H
 clear H
 go_upto_region 13 with(first|((with_reducible refine gate_dst (N:=53) rfl ?_);refine map_get rfl (.tmp 49) (.tmp 52) rfl gm x12_2 x45_2 x14_1 t500 true (by rfl) (by first|rfl) (by(with_reducible repeat(first|refine map_drewN ?_ _|refine map_drew ?_|refine map_alloc ?_ _));exact MB.out) A17.out ?_))
 (try simp only[ap])
 go_cut [69] (fun v69 wc=>∃ (kq:Nat) (x69_18:Bool),v69= .bool x69_18∧Aside0 (impl_least.j2 kq l1 a3 a4 x12_2 x13_2 x14_1 x45_2 t500 ji15 x45_2 x69_18 a0_0 a0_1=some (r1,r2))∧Aside0 (kq≤k2)∧Aside0 (MapIs wc gm x12_2)∧Aside0 (wc.heap[gb493]? =some (.cells #[.int .i64 a0_0, .bool a0_1] 28 (0,0)))∧Aside0 (Below w.heap.size w wc))
 case first=>
  have H:=HC19.out
  clear HC19
  by_cases c20:x14_1=a3
  rotate_left
  ·rw[if_neg c20]at H
   have c20b0: (x14_1==a3)=false:=beq_eq_false_iff_ne.mpr c20
   have c20b1: (x14_1 !=a3)=true:=bne_iff_ne.mpr c20
   (first|rw[c20b0]|(simp only[i64_w,i32_w];rw[c20b0])|skip)
   have H':=Aside0.mk H
   clear H
   go_wp2
   go_meet
   case rel=>exact⟨_,(false),fd,H',⟨by have:=HK1.out;have:=HK2.out;first|omega|exact Nat.le_refl _⟩,⟨by(with_reducible repeat(first|refine map_drewN ?_ _|refine map_drew ?_|refine map_alloc ?_ _));exact MB.out⟩,⟨bm BK493.out⟩,⟨h1 HB.out GE493.out⟩⟩
  rw[if_pos c20]at H
  have c20b0: (x14_1==a3)=true:=beq_iff_eq.mpr c20
  have c20b1: (x14_1 !=a3)=false:=bne_eq_false_iff_eq.mpr c20
  clear c20
  (first|rw[c20b0]|(simp only[i64_w,i32_w];rw[c20b0])|skip)
  by_cases c21:x13_2<0
  ·rw[if_pos c21]at H
   have c21b0:decide (x13_2<0)=true:=decide_eq_true c21
   clear c21
   have H':=Aside0.mk H
   clear H
   go_wp2
   go_meet
   case rel=>exact⟨_,(true),fd,H',⟨by have:=HK1.out;have:=HK2.out;first|omega|exact Nat.le_refl _⟩,⟨by(with_reducible repeat(first|refine map_drewN ?_ _|refine map_drew ?_|refine map_alloc ?_ _));exact MB.out⟩,⟨bm BK493.out⟩,⟨h1 HB.out GE493.out⟩⟩
  rw[if_neg c21]at H
  have c21b0:decide (x13_2<0)=false:=decide_eq_false c21
  clear c21
  have H':=Aside0.mk H
  clear H
  go_wp2
  go_meet
  case rel=>exact⟨_,(decide (t500<x13_2)),fd,H',⟨by have:=HK1.out;have:=HK2.out;first|omega|exact Nat.le_refl _⟩,⟨by(with_reducible repeat(first|refine map_drewN ?_ _|refine map_drew ?_|refine map_alloc ?_ _));exact MB.out⟩,⟨bm BK493.out⟩,⟨h1 HB.out GE493.out⟩⟩
 clear HC19
 try clear c1
 try clear c2
 try clear p2
 try clear c6
 try clear p6
 try clear c7
 try clear c14
 try clear c14b0
 try clear c16
 try clear c16b0
 try clear c18
 try clear c20
 try clear c20b0
 try clear c20b1
 try clear c21
 try clear c21b0
 try clear hcz9_0
 try clear hcz9_1
 try clear hfz9_0
 try clear hfz9_1
 try clear p2
 try clear p6
 obtain⟨kq,x69_18,rfl,HA,HJ18,MB,BK493,HB⟩:=hcut
 obtain _|kj18:=kq;·cases HA.out
 obtain⟨H⟩:=HA
 simp only[impl_least.j2]at H
 have HC22:=Aside0.mk H
 clear H
 go_upto_if 69 with(fail)
 go_cut [13] (fun v13 wc=>∃ (kq:Nat) (x13_21:Int),v13= .int .i64 x13_21∧Aside0 (impl_least.j3 kq l1 a3 a4 x12_2 x13_21 x14_1 x45_2 t500 ji15 x45_2 a0_0 a0_1=some (r1,r2))∧Aside0 (kq≤kj18)∧Aside0 (MapIs wc gm x12_2)∧Aside0 (wc.heap[gb493]? =some (.cells #[.int .i64 a0_0, .bool a0_1] 28 (0,0)))∧Aside0 (Below w.heap.size w wc))
 case first=>
  have H:=HC22.out
  clear HC22
  by_cases c23:x69_18=true
  ·subst c23
   rw[if_pos rfl]at H
   have H':=Aside0.mk H
   clear H
   go_wp2
   go_meet
   case rel=>exact⟨_,(t500),fd,H',⟨by have:=HK1.out;have:=HK2.out;have:=HJ18.out;first|omega|exact Nat.le_refl _⟩,⟨by(with_reducible repeat(first|refine map_drewN ?_ _|refine map_drew ?_|refine map_alloc ?_ _));exact MB.out⟩,⟨bm BK493.out⟩,⟨h1 HB.out GE493.out⟩⟩
  replace c23:=Bool.eq_false_iff.mpr c23
  subst c23
  rw[if_neg (show ¬(false=true)by decide)]at H
  have H':=Aside0.mk H
  clear H
  go_wp2
  go_meet
  case rel=>exact⟨_,(x13_2),fd,H',⟨by have:=HK1.out;have:=HK2.out;have:=HJ18.out;first|omega|exact Nat.le_refl _⟩,⟨by(with_reducible repeat(first|refine map_drewN ?_ _|refine map_drew ?_|refine map_alloc ?_ _));exact MB.out⟩,⟨bm BK493.out⟩,⟨h1 HB.out GE493.out⟩⟩
 clear HC22
 try clear c1
 try clear c2
 try clear p2
 try clear c6
 try clear p6
 try clear c7
 try clear c14
 try clear c14b0
 try clear c16
 try clear c16b0
 try clear c18
 try clear c20
 try clear c20b0
 try clear c20b1
 try clear c21
 try clear c21b0
 try clear c23
 try clear hcz9_0
 try clear hcz9_1
 try clear hfz9_0
 try clear hfz9_1
 try clear p2
 try clear p6
 obtain⟨kq,x13_21,rfl,HA,HJ21,MB,BK493,HB⟩:=hcut
 obtain _|kj21:=kq;·cases HA.out
 obtain⟨H⟩:=HA
 simp only[impl_least.j3]at H
 have H':=Aside0.mk H
 clear H
 go_wp2
 go_loopg [73] kj21 (fun kq v73 w'=>∃ (x12_5:Mt) (x73_5:Int),v73= .int .i64 x73_5∧Aside0 (impl_least.l2 kq l1 a3 a4 x12_5 x13_21 x14_1 x45_2 t500 ji15 x45_2 l1 (l1.length:Int) x73_5 a0_0 a0_1=some (r1,r2))∧Aside0 (kq≤kj21)∧Aside0 (MapIs w' gm x12_5)∧Aside0 (w'.heap[gb493]? =some (.cells #[.int .i64 a0_0, .bool a0_1] 28 (0,0)))∧Aside0 (Below w.heap.size w w'))
 case atStart=>exact⟨(x12_2),(0),fd,H',⟨Nat.le_refl _⟩,⟨by(with_reducible repeat(first|refine map_drewN ?_ _|refine map_drew ?_|refine map_alloc ?_ _));exact MB.out⟩,⟨bm BK493.out⟩,⟨h1 HB.out GE493.out⟩⟩
 clear H'
 try clear c1
 try clear c2
 try clear p2
 try clear c6
 try clear p6
 try clear c7
 try clear c14
 try clear c14b0
 try clear c16
 try clear c16b0
 try clear c18
 try clear c20
 try clear c20b0
 try clear c20b1
 try clear c21
 try clear c21b0
 try clear c23
 try clear hcz9_0
 try clear hcz9_1
 try clear hfz9_0
 try clear hfz9_1
 try clear p2
 try clear p6
 obtain⟨x12_5,x73_5,rfl,HA,HK5,MB,BK493,HB⟩:=hrel
 obtain _|k5:=gk;·cases HA.out
 obtain⟨H⟩:=HA
 simp only[impl_least.l2]at H
 by_cases c24:x73_5<(l1.length:Int)
 rotate_left
 ·rw[if_neg c24]at H
  have c24b0:decide (x73_5<(l1.length:Int))=false:=decide_eq_false c24
  clear c24
  have H':=Aside0.mk H
  clear H
  go_wp2
  go_roundg k5
  case measure=>have:=HK1.out;have:=HK2.out;have:=HJ18.out;have:=HJ21.out;have:=HK5.out;omega
  case rel=>exact⟨(x12_5),(x13_21),(wrap64 (x45_2+1)),fd,fd,H',⟨by have:=HK1.out;have:=HK2.out;have:=HJ18.out;have:=HJ21.out;have:=HK5.out;omega⟩,⟨by(with_reducible repeat(first|refine map_drewN ?_ _|refine map_drew ?_|refine map_alloc ?_ _));exact MB.out⟩,⟨bm BK493.out⟩,⟨h1 HB.out GE493.out⟩⟩
 rw[if_pos c24]at H
 have c24b0:decide (x73_5<(l1.length:Int))=true:=decide_eq_true c24
 clear c24
 obtain⟨c25,H⟩:=gi H
 have c25b0:decide (0≤x73_5)=true:=decide_eq_true c25
 clear c25
 obtain⟨c26,H⟩:=gi H
 have c26b0:decide (x73_5<(l1.length:Int))=true:=decide_eq_true c26
 clear c26
 have H':=Aside0.mk H
 clear H
 have p502:0≤(x73_5:Int):=od
 have q502:x73_5<(l1.length:Int):=od
 obtain⟨ad502,e502,hx502_0,hx502_1,hx502_2⟩:=at_T63 HR1.out x73_5 p502 q502
 cases e502
 replace hx502_0:=(HB.out.cell (World.block_lt_of_cell? w _ hx502_0)).trans hx502_0
 replace hx502_1:=(HB.out.cell (World.block_lt_of_cell? w _ hx502_1)).trans hx502_1
 replace hx502_2:=(HB.out.cell (World.block_lt_of_cell? w _ hx502_2)).trans hx502_2
 replace p502:=eq_true p502
 replace q502:=eq_true q502
 go_wp2_with (first|((with_reducible refine gate_dst (N:=19) rfl ?_);refine box_event ?hg (N:=19) ?hd (cs:= #[.int .i64 0, .int .i64 0, .int .i64 0]) (t:=63) ?hr ?_;(case hd=>rfl);(case hg=>rfl);(case hr=>first|(go_simp;done)|(go_simp;rfl));intro gb503 hg w27 hbox hb;have n0_:=Aside0.mk (blk_below (g:=gb493) (o:= .cells #[.int .i64 a0_0, .bool a0_1] 28 (0,0)) (bm BK493.out) hb);have mb_:=Aside0.mk (map_below (g:=gm) (m:=x12_5) (by(with_reducible repeat(first|refine map_drewN ?_ _|refine map_drew ?_|refine map_alloc ?_ _));exact MB.out) hb);have n1_:=Aside0.mk (below_step (h1 HB.out GE493.out) hb);have n2_:=Aside0.mk (hbox);have n3_:=Aside0.mk ((by rw[hg];exact(below_size (h1 HB.out GE493.out)):w.heap.size≤gb503));have n4_:=Aside0.mk ((by rw[hg];exact(below_size (h1 HB.out GE493.out)):w.heap.size≤gb503));have n5_:=Aside0.mk ((by rw[hg];exact Nat.ne_of_lt (blk_lt (g:=gb493) (o:= .cells #[.int .i64 a0_0, .bool a0_1] 28 (0,0)) (bm BK493.out)):gb493≠gb503));have nm_:=Aside0.mk ((by rw[hg];exact Nat.ne_of_lt (map_lt (g:=gm) (m:=x12_5) (by(with_reducible repeat(first|refine map_drewN ?_ _|refine map_drew ?_|refine map_alloc ?_ _));exact MB.out))):gm≠gb503);have n6_:=Aside0.mk ((by rw[hg];exact Nat.ne_of_gt (blk_lt (g:=gb493) (o:= .cells #[.int .i64 a0_0, .bool a0_1] 28 (0,0)) (bm BK493.out)):gb503≠gb493));clear BK493;clear HB;have BK493:=n0_;clear MB;have MB:=mb_;clear mb_;have HB:=n1_;have BK503:=n2_;have GW503:=n3_;have GE503:=n4_;have NB493_503:=n5_;have NM_503:=nm_;have NGM:=Aside0.mk (Ne.symm NM_503.out);clear nm_;have NB503_493:=n6_;clear n0_ n1_ n2_ n3_ n4_ n5_ n6_;clear hb hbox hg;have hnb28:=NB503_493.out;have hnc28:=NB493_503.out;have hcz29_0:w27.cell? ⟨gb503,0,none⟩=some (.int .i64 0):=bc BK503 0 rfl;have hcz29_1:w27.cell? ⟨gb503,1,none⟩=some (.int .i64 0):=bc BK503 1 rfl;have hcz29_2:w27.cell? ⟨gb503,2,none⟩=some (.int .i64 0):=bc BK503 2 rfl;have hfz29_0:=blk_frozen BK503.out 0;have hfz29_1:=blk_frozen BK503.out 1;have hfz29_2:=blk_frozen BK503.out 2))
 go_loopg [20] k5 (fun kq v20 w'=>∃ (x12_6:Mt) (x20_6:Int),v20= .int .i64 x20_6∧Aside0 (impl_least.l3 kq l1 a3 a4 x12_6 x13_21 x14_1 x45_2 t500 x73_5 x20_6 ji15 x45_2 l1 (l1.length:Int) x73_5 a0_0 a0_1 ((rd_T63 l1 x73_5).f0) ((rd_T63 l1 x73_5).f1) ((rd_T63 l1 x73_5).f2)=some (r1,r2))∧Aside0 (kq≤k5)∧Aside0 (MapIs w' gm x12_6)∧Aside0 (w'.heap[gb493]? =some (.cells #[.int .i64 a0_0, .bool a0_1] 28 (0,0)))∧Aside0 (w'.heap[gb503]? =some (.cells #[.int .i64 ((rd_T63 l1 x73_5).f0), .int .i64 ((rd_T63 l1 x73_5).f1), .int .i64 ((rd_T63 l1 x73_5).f2)] 63 (0,0)))∧Aside0 (Below w.heap.size w w'))
 case atStart=>exact⟨(x12_5),(wrap64 (x14_1+1)),fd,H',⟨Nat.le_refl _⟩,⟨by(with_reducible repeat(first|refine map_drewN ?_ _|refine map_drew ?_|refine map_alloc ?_ _));refine map_far ?_ NM_503.out _;(with_reducible repeat(first|refine map_drewN ?_ _|refine map_drew ?_|refine map_alloc ?_ _));refine map_far ?_ NM_503.out _;(with_reducible repeat(first|refine map_drewN ?_ _|refine map_drew ?_|refine map_alloc ?_ _));refine map_far ?_ NM_503.out _;(with_reducible repeat(first|refine map_drewN ?_ _|refine map_drew ?_|refine map_alloc ?_ _));exact MB.out⟩,⟨by(with_reducible repeat(first|refine blk_drewN ?_ _|refine blk_drew ?_|refine blk_alloc ?_ _));refine blk_far ?_ NB493_503.out _;(with_reducible repeat(first|refine blk_drewN ?_ _|refine blk_drew ?_|refine blk_alloc ?_ _));refine blk_far ?_ NB493_503.out _;(with_reducible repeat(first|refine blk_drewN ?_ _|refine blk_drew ?_|refine blk_alloc ?_ _));refine blk_far ?_ NB493_503.out _;(with_reducible repeat(first|refine blk_drewN ?_ _|refine blk_drew ?_|refine blk_alloc ?_ _));exact BK493.out⟩,⟨by(with_reducible repeat(first|refine blk_drewN ?_ _|refine blk_drew ?_|refine blk_alloc ?_ _));refine blk_put (cs:= #[.int .i64 ((rd_T63 l1 x73_5).f0), .int .i64 ((rd_T63 l1 x73_5).f1), .int .i64 0]) ?_ 2 _ rfl;(with_reducible repeat(first|refine blk_drewN ?_ _|refine blk_drew ?_|refine blk_alloc ?_ _));refine blk_put (cs:= #[.int .i64 ((rd_T63 l1 x73_5).f0), .int .i64 0, .int .i64 0]) ?_ 1 _ rfl;(with_reducible repeat(first|refine blk_drewN ?_ _|refine blk_drew ?_|refine blk_alloc ?_ _));refine blk_put (cs:= #[.int .i64 0, .int .i64 0, .int .i64 0]) ?_ 0 _ rfl;(with_reducible repeat(first|refine blk_drewN ?_ _|refine blk_drew ?_|refine blk_alloc ?_ _));exact BK503.out⟩,⟨h2 HB.out GE493.out GE503.out⟩⟩
 clear H'
 try clear c1
 try clear c2
 try clear p2
 try clear p5
 try clear q5
 try clear hx5
 try clear c6
 try clear p6
 try clear c7
 try clear c14
 try clear c14b0
 try clear c16
 try clear c16b0
 try clear c18
 try clear c20
 try clear c20b0
 try clear c20b1
 try clear c21
 try clear c21b0
 try clear c23
 try clear c24
 try clear c24b0
 try clear c25
 try clear c25b0
 try clear c26
 try clear c26b0
 try clear c28
 try clear hcz29_0
 try clear hcz29_1
 try clear hcz29_2
 try clear hcz9_0
 try clear hcz9_1
 try clear hfz29_0
 try clear hfz29_1
 try clear hfz29_2
 try clear hfz9_0
 try clear hfz9_1
 try clear hx502_0
 try clear hx502_1
 try clear hx502_2
 try clear p2
 try clear p502
 try clear p6
 try clear q502
 obtain⟨x12_6,x20_6,rfl,HA,HK6,MB,BK493,BK503,HB⟩:=hrel
 obtain _|k6:=gk;·cases HA.out
 obtain⟨H⟩:=HA
 simp only[impl_least.l3]at H
 have HC30:=Aside0.mk H
 clear H
 go_upto_region 19 with(fail)
 go_cut [99] (fun v99 wc=>∃ (kq:Nat) (x99_29:Bool),v99= .bool x99_29∧Aside0 (impl_least.j6 kq l1 a3 a4 x12_6 x13_21 x14_1 x45_2 t500 x73_5 x20_6 ji15 x45_2 l1 (l1.length:Int) x73_5 x99_29 a0_0 a0_1 ((rd_T63 l1 x73_5).f0) ((rd_T63 l1 x73_5).f1) ((rd_T63 l1 x73_5).f2)=some (r1,r2))∧Aside0 (kq≤k6)∧Aside0 (MapIs wc gm x12_6)∧Aside0 (wc.heap[gb493]? =some (.cells #[.int .i64 a0_0, .bool a0_1] 28 (0,0)))∧Aside0 (wc.heap[gb503]? =some (.cells #[.int .i64 ((rd_T63 l1 x73_5).f0), .int .i64 ((rd_T63 l1 x73_5).f1), .int .i64 ((rd_T63 l1 x73_5).f2)] 63 (0,0)))∧Aside0 (Below w.heap.size w wc))
 case first=>
  have H:=HC30.out
  clear HC30
  by_cases c31:x20_6≤a3
  rotate_left
  ·rw[if_neg c31]at H
   have c31b0:decide (x20_6≤a3)=false:=decide_eq_false c31
   clear c31
   (first|rw[c31b0]|(simp only[i64_w,i32_w];rw[c31b0])|skip)
   have H':=Aside0.mk H
   clear H
   try go_wp2
   have n0_:=Aside0.mk (blk_drew BK493.out)
   have mb_:=Aside0.mk (map_drew MB.out)
   have n1_:=Aside0.mk (blk_drew BK503.out)
   have n2_:=Aside0.mk (below_drew1 HB.out)
   clear BK493
   clear BK503
   clear HB
   have BK493:=n0_
   clear MB
   have MB:=mb_
   clear mb_
   have BK503:=n1_
   have HB:=n2_
   clear n0_ n1_ n2_
   refine start_ (n:=20) (S:=fun w'=>True) (ds:=[]) (lb 20 0) (by kernel_rfl) rfl rfl trivial (fun hHeld=>?_);refine with_tabW impl_least.tab19 impl_least.bits19 (fun HT_ HW_=>?_)
   generalize wr.drew=w39 at MB BK493 BK503 HB hHeld⊢
   refine pq 0 (N:=some 80) (lb 20 1) HT_ ?_
   refine pq 1 (N:=some 81) (lb 20 3) HT_ ?_
   refine pq 2 (N:=some 82) (lb 20 7) HT_ ?_
   refine pq 3 (N:=some 83) (lb 20 15) HT_ ?_
   refine pz 4 (N:=some 84) (lb 20 31) HT_ ?_
   refine pz 5 (N:=some 85) (lb 20 63) HT_ ?_
   refine pz 6 (N:=some 86) (lb 20 127) HT_ ?_
   refine pz 7 (N:=some 87) (lb 20 255) HT_ ?_
   refine pz 8 (N:=some 88) (lb 20 511) HT_ ?_
   refine pq 9 (N:=some 89) (lb 20 1023) HT_ ?_
   refine pq 10 (N:=some 90) (lb 20 2047) HT_ ?_
   refine pz 11 (N:=some 91) (lb 20 4095) HT_ ?_
   refine pz 12 (N:=some 92) (lb 20 8191) HT_ ?_
   refine pz 13 (N:=some 93) (lb 20 16383) HT_ ?_
   refine pz 14 (N:=some 94) (lb 20 32767) HT_ ?_
   refine pz 15 (N:=some 95) (lb 20 65535) HT_ ?_
   refine pz 16 (N:=some 96) (lb 20 131071) HT_ ?_
   refine pz 17 (N:=some 97) (lb 20 262143) HT_ ?_
   refine pz 18 (N:=some 98) (lb 20 524287) HT_ ?_
   refine pq 19 (N:=some 99) (lb 20 1048575) HT_ ?_
   refine done_ (done_of HT_.out (by kernel_rfl)) ?_
   try go_wp2
   go_meet
   case rel=>exact⟨_,(false),fd,H',⟨by have:=HK1.out;have:=HK2.out;have:=HJ18.out;have:=HJ21.out;have:=HK5.out;have:=HK6.out;first|omega|exact Nat.le_refl _⟩,⟨by(with_reducible repeat(first|refine map_drewN ?_ _|refine map_drew ?_|refine map_alloc ?_ _));exact MB.out⟩,⟨bm BK493.out⟩,⟨bm BK503.out⟩,⟨h2 HB.out GE493.out GE503.out⟩⟩
  rw[if_pos c31]at H
  have c31b0:decide (x20_6≤a3)=true:=decide_eq_true c31
  clear c31
  (first|rw[c31b0]|(simp only[i64_w,i32_w];rw[c31b0])|skip)
  obtain⟨c32,H⟩:=gi H
  have c32b0:=eq_true c32
  have c32b1:decide (0≤x73_5)=true:=decide_eq_true c32
  clear c32
  generalize hji33: (shr .i64 x45_2 x73_5)=ji33 at H
  have hji33_: (x45_2/ 2^min x73_5.toNat 64)=ji33:=hji33
  have hji33z:x73_5≤64→(x45_2/ 2^x73_5.toNat)=ji33:=shr_small hji33
  by_cases c34: (Go.bits .and .i64 (ji33) 1)=0
  rotate_left
  ·rw[if_neg c34]at H
   have c34b0: ((Go.bits .and .i64 (ji33) 1)==0)=false:=beq_eq_false_iff_ne.mpr c34
   have c34b1: ((Go.bits .and .i64 (ji33) 1) !=0)=true:=bne_iff_ne.mpr c34
   have H':=Aside0.mk H
   clear H
   try go_wp2
   have n0_:=Aside0.mk (blk_drew BK493.out)
   have mb_:=Aside0.mk (map_drew MB.out)
   have n1_:=Aside0.mk (blk_drew BK503.out)
   have n2_:=Aside0.mk (below_drew1 HB.out)
   clear BK493
   clear BK503
   clear HB
   have BK493:=n0_
   clear MB
   have MB:=mb_
   clear mb_
   have BK503:=n1_
   have HB:=n2_
   clear n0_ n1_ n2_
   refine start_ (n:=20) (S:=fun w'=>True) (ds:=[]) (lb 20 0) (by kernel_rfl) rfl rfl trivial (fun hHeld=>?_);refine with_tabW impl_least.tab19 impl_least.bits19 (fun HT_ HW_=>?_)
   generalize wr.drew=w38 at MB BK493 BK503 HB hHeld⊢
   refine pq 0 (N:=some 80) (lb 20 1) HT_ ?_
   refine pq 1 (N:=some 81) (lb 20 3) HT_ ?_
   refine pq 2 (N:=some 82) (lb 20 7) HT_ ?_
   refine pq 3 (N:=some 83) (lb 20 15) HT_ ?_
   refine pq 4 (N:=some 84) (lb 20 31) HT_ ?_
   refine pq 5 (N:=some 85) (lb 20 63) HT_ ?_
   refine pq 6 (N:=some 86) (lb 20 127) HT_ ?_
   refine pq 7 (N:=some 87) (lb 20 255) HT_ ?_
   refine pq 8 (N:=some 88) (lb 20 511) HT_ ?_
   refine pq 9 (N:=some 89) (lb 20 1023) HT_ ?_
   refine pq 10 (N:=some 90) (lb 20 2047) HT_ ?_
   refine pz 11 (N:=some 91) (lb 20 4095) HT_ ?_
   refine pz 12 (N:=some 92) (lb 20 8191) HT_ ?_
   refine pz 13 (N:=some 93) (lb 20 16383) HT_ ?_
   refine pz 14 (N:=some 94) (lb 20 32767) HT_ ?_
   refine pz 15 (N:=some 95) (lb 20 65535) HT_ ?_
   refine pz 16 (N:=some 96) (lb 20 131071) HT_ ?_
   refine pz 17 (N:=some 97) (lb 20 262143) HT_ ?_
   refine pz 18 (N:=some 98) (lb 20 524287) HT_ ?_
   refine pq 19 (N:=some 99) (lb 20 1048575) HT_ ?_
   refine done_ (done_of HT_.out (by kernel_rfl)) ?_
   try go_wp2
   go_meet
   case rel=>exact⟨_,(false),fd,H',⟨by have:=HK1.out;have:=HK2.out;have:=HJ18.out;have:=HJ21.out;have:=HK5.out;have:=HK6.out;first|omega|exact Nat.le_refl _⟩,⟨by(with_reducible repeat(first|refine map_drewN ?_ _|refine map_drew ?_|refine map_alloc ?_ _));exact MB.out⟩,⟨bm BK493.out⟩,⟨bm BK503.out⟩,⟨h2 HB.out GE493.out GE503.out⟩⟩
  rw[if_pos c34]at H
  have c34b0: ((Go.bits .and .i64 (ji33) 1)==0)=true:=beq_iff_eq.mpr c34
  have c34b1: ((Go.bits .and .i64 (ji33) 1) !=0)=false:=bne_eq_false_iff_eq.mpr c34
  clear c34
  replace H:=Option.bind_eq_some_iff.mp H
  obtain⟨t504,A350,H⟩:=H
  (try dsimp only at H)
  have A35:=Aside0.mk A350
  clear A350
  have H':=Aside0.mk H
  clear H
  try go_wp2
  have n0_:=Aside0.mk (blk_drew BK493.out)
  have mb_:=Aside0.mk (map_drew MB.out)
  have n1_:=Aside0.mk (blk_drew BK503.out)
  have n2_:=Aside0.mk (below_drew1 HB.out)
  clear BK493
  clear BK503
  clear HB
  have BK493:=n0_
  clear MB
  have MB:=mb_
  clear mb_
  have BK503:=n1_
  have HB:=n2_
  clear n0_ n1_ n2_
  refine start_ (n:=20) (S:=fun w'=>w'.cell? ⟨gb493,0,none⟩=some (.int .i64 a0_0)∧w'.cell? ⟨gb493,1,none⟩=some (.bool a0_1)∧w'.cell? ⟨gb503,0,none⟩=some (.int .i64 ((rd_T63 l1 x73_5).f0))∧w'.cell? ⟨gb503,1,none⟩=some (.int .i64 ((rd_T63 l1 x73_5).f1))∧w'.cell? ⟨gb503,2,none⟩=some (.int .i64 ((rd_T63 l1 x73_5).f2))) (ds:=[]) (lb 20 0) (by kernel_rfl) rfl rfl ⟨bc BK493 0 rfl,bc BK493 1 rfl,bc BK503 0 rfl,bc BK503 1 rfl,bc BK503 2 rfl⟩ (fun hHeld=>?_);refine with_tabW impl_least.tab19 impl_least.bits19 (fun HT_ HW_=>?_)
  generalize wr.drew=w36 at MB BK493 BK503 HB hHeld⊢
  refine pq 0 (N:=some 80) (lb 20 1) HT_ ?_
  refine pq 1 (N:=some 81) (lb 20 3) HT_ ?_
  refine pq 2 (N:=some 82) (lb 20 7) HT_ ?_
  refine pq 3 (N:=some 83) (lb 20 15) HT_ ?_
  refine pq 4 (N:=some 84) (lb 20 31) HT_ ?_
  refine pq 5 (N:=some 85) (lb 20 63) HT_ ?_
  refine pq 6 (N:=some 86) (lb 20 127) HT_ ?_
  refine pq 7 (N:=some 87) (lb 20 255) HT_ ?_
  refine pq 8 (N:=some 88) (lb 20 511) HT_ ?_
  refine pq 9 (N:=some 89) (lb 20 1023) HT_ ?_
  refine pq 10 (N:=some 90) (lb 20 2047) HT_ ?_
  refine pq 13 (N:=some 93) (lb 20 10239) HT_ ?_
  refine pq 14 (N:=some 94) (lb 20 26623) HT_ ?_
  refine pq 16 (N:=some 96) (lb 20 92159) HT_ ?_
  refine tq 11 (N:=some 91) (lb 20 94207) HT_ HW_ hHeld ?_
  refine tq 12 (N:=some 92) (lb 20 98303) HT_ HW_ hHeld ?_
  refine tq 17 (N:=some 97) (lb 20 229375) HT_ HW_ hHeld ?_
  refine one_ (i:=15) (N:=some 95) (lb 20 262143) rfl rfl (one_of HT_.out (by kernel_rfl)) (by decide) (fun K hK=>?_)
  refine goes_ Try.func65 (by kernel_rfl) rfl #[.agg #[.int .i64 a0_0, .bool a0_1], .agg #[.int .i64 ((rd_T63 l1 x73_5).f0), .int .i64 ((rd_T63 l1 x73_5).f1), .int .i64 ((rd_T63 l1 x73_5).f2)], .int .i64 x14_1, .int .i64 x20_6] (by rfl) rfl rfl gl ?_
  with_reducible refine(impl_Road_steps.calls a0_0 a0_1 ((rd_T63 l1 x73_5).f0) ((rd_T63 l1 x73_5).f1) ((rd_T63 l1 x73_5).f2) x14_1 x20_6 t504 _ A35.out).mono ?_
  rintro e w37 ⟨rfl,hb⟩
  refine⟨_,rfl,?_⟩
  have n0_:=Aside0.mk (blk_below (g:=gb493) (o:= .cells #[.int .i64 a0_0, .bool a0_1] 28 (0,0)) (bm BK493.out) hb)
  have mb_:=Aside0.mk (map_below (g:=gm) (m:=x12_6) (by(with_reducible repeat(first|refine map_drewN ?_ _|refine map_drew ?_|refine map_alloc ?_ _));exact MB.out) hb)
  have n1_:=Aside0.mk (blk_below (g:=gb503) (o:= .cells #[.int .i64 ((rd_T63 l1 x73_5).f0), .int .i64 ((rd_T63 l1 x73_5).f1), .int .i64 ((rd_T63 l1 x73_5).f2)] 63 (0,0)) (bm BK503.out) hb)
  have n2_:=Aside0.mk (below_step (h2 HB.out GE493.out GE503.out) hb)
  clear BK493
  clear BK503
  clear HB
  have BK493:=n0_
  clear MB
  have MB:=mb_
  clear mb_
  have BK503:=n1_
  have HB:=n2_
  clear n0_ n1_ n2_
  (try clear hb)
  (try clear hb2)
  (try clear hk)
  (try clear hi)
  refine hK.out _ _ ⟨bc BK493 0 rfl,bc BK493 1 rfl,bc BK503 0 rfl,bc BK503 1 rfl,bc BK503 2 rfl⟩ (fun hHeld=>?_)
  clear hK K
  refine norm_ (a':= ?_) ?_ ?_
  rotate_left
  ·show Act.put _ (some 95) _=_
   simp only[ap]
   rfl
  refine pq 18 (N:=some 98) (lb 20 524287) HT_ ?_
  refine pq 19 (N:=some 99) (lb 20 1048575) HT_ ?_
  refine done_ (done_of HT_.out (by kernel_rfl)) ?_
  try go_wp2
  go_meet
  case rel=>exact⟨_,(decide (t504≤((rd_T63 l1 x73_5).f1))),fd,H',⟨by have:=HK1.out;have:=HK2.out;have:=HJ18.out;have:=HJ21.out;have:=HK5.out;have:=HK6.out;first|omega|exact Nat.le_refl _⟩,⟨by(with_reducible repeat(first|refine map_drewN ?_ _|refine map_drew ?_|refine map_alloc ?_ _));exact MB.out⟩,⟨bm BK493.out⟩,⟨bm BK503.out⟩,⟨h2 HB.out GE493.out GE503.out⟩⟩
 clear HC30
 try clear c1
 try clear c2
 try clear p2
 try clear c3
 try clear p5
 try clear q5
 try clear hx5
 try clear c6
 try clear p6
 try clear c7
 try clear c14
 try clear c14b0
 try clear c16
 try clear c16b0
 try clear c18
 try clear c20
 try clear c20b0
 try clear c20b1
 try clear c21
 try clear c21b0
 try clear c23
 try clear c24
 try clear c24b0
 try clear c25
 try clear c25b0
 try clear c26
 try clear c26b0
 try clear c28
 try clear c31
 try clear c31b0
 try clear c32
 try clear c32b0
 try clear c32b1
 try clear c34
 try clear c34b0
 try clear c34b1
 try clear hcz29_0
 try clear hcz29_1
 try clear hcz29_2
 try clear hcz9_0
 try clear hcz9_1
 try clear hfz29_0
 try clear hfz29_1
 try clear hfz29_2
 try clear hfz9_0
 try clear hfz9_1
 try clear hx502_0
 try clear hx502_1
 try clear hx502_2
 try clear p2
 try clear p5
 try clear p502
 try clear p6
 try clear q5
 try clear q502
 obtain⟨kq,x99_29,rfl,HA,HJ29,MB,BK493,BK503,HB⟩:=hcut
 obtain _|kj29:=kq;·cases HA.out
 obtain⟨H⟩:=HA
 simp only[impl_least.j6]at H
 by_cases c40:x99_29=true
 rotate_left
 ·replace c40:=Bool.eq_false_iff.mpr c40
  subst c40
  rw[if_neg (show ¬(false=true)by decide)]at H
  have H':=Aside0.mk H
  clear H
  go_wp2
  go_roundg kj29
  case measure=>have:=HK1.out;have:=HK2.out;have:=HJ18.out;have:=HJ21.out;have:=HK5.out;have:=HK6.out;have:=HJ29.out;omega
  case rel=>exact⟨(x12_6),(wrap64 (x73_5+1)),fd,H',⟨by have:=HK1.out;have:=HK2.out;have:=HJ18.out;have:=HJ21.out;have:=HK5.out;have:=HK6.out;have:=HJ29.out;omega⟩,⟨by(with_reducible repeat(first|refine map_drewN ?_ _|refine map_drew ?_|refine map_alloc ?_ _));exact MB.out⟩,⟨bm BK493.out⟩,⟨h2 HB.out GE493.out GE503.out⟩⟩
 subst c40
 rw[if_pos rfl]at H
 obtain⟨c41,H⟩:=gi H
 have c41b0:=eq_true c41
 have c41b1:decide (0≤x73_5)=true:=decide_eq_true c41
 clear c41
 generalize hji42: (shl .i64 1 x73_5)=ji42 at H
 have hji42_: (IntKind.i64.wrap (1*2^min x73_5.toNat 64))=ji42:=hji42
 have hji42z:x73_5≤64→(IntKind.i64.wrap (1*2^x73_5.toNat))=ji42:=shl_small hji42
 have hji42u: (IntKind.i64.wrap (2^min x73_5.toNat 64))=ji42:=by have h_:=hji42_;rw[Int.one_mul]at h_;exact h_
 have hji42v:x73_5≤64→(IntKind.i64.wrap (2^x73_5.toNat))=ji42:=fun hle_=>by have h_:=hji42z hle_;rw[Int.one_mul]at h_;exact h_
 have hji42y: (wrap64 (1*2^min x73_5.toNat 64))=ji42:=(i64_w _).symm.trans hji42_
 have hji42x:x73_5≤64→(wrap64 (1*2^x73_5.toNat))=ji42:=fun h_=>(i64_w _).symm.trans (hji42z h_)
 replace H:=Option.bind_eq_some_iff.mp H
 obtain⟨t505,A430,H⟩:=H
 (try dsimp only at H)
 have A43:=Aside0.mk A430
 clear A430
 replace H:=Option.bind_eq_some_iff.mp H
 obtain⟨⟨t507,t508⟩,A440,H⟩:=H
 (try dsimp only at H)
 have A44:=Aside0.mk A440
 clear A440
 by_cases c45:t508=true
 rotate_left
 ·replace c45:=Bool.eq_false_iff.mpr c45
  subst c45
  rw[if_neg (show ¬(false=true)by decide)]at H
  replace H:=Option.bind_eq_some_iff.mp H
  obtain⟨t510,A660,H⟩:=H
  (try dsimp only at H)
  have A66:=Aside0.mk A660
  clear A660
  have H':=Aside0.mk H
  clear H
  try go_wp2
  have n0_:=Aside0.mk (blk_drew BK493.out)
  have mb_:=Aside0.mk (map_drew MB.out)
  have n1_:=Aside0.mk (blk_drew BK503.out)
  have n2_:=Aside0.mk (below_drew1 HB.out)
  clear BK493
  clear BK503
  clear HB
  have BK493:=n0_
  clear MB
  have MB:=mb_
  clear mb_
  have BK503:=n1_
  have HB:=n2_
  clear n0_ n1_ n2_
  refine start_ (n:=15) (S:=fun w'=>w'.cell? ⟨gb503,0,none⟩=some (.int .i64 ((rd_T63 l1 x73_5).f0))∧w'.cell? ⟨gb503,1,none⟩=some (.int .i64 ((rd_T63 l1 x73_5).f1))∧w'.cell? ⟨gb503,2,none⟩=some (.int .i64 ((rd_T63 l1 x73_5).f2))) (ds:=[]) (lb 15 0) (by kernel_rfl) rfl rfl ⟨bc BK503 0 rfl,bc BK503 1 rfl,bc BK503 2 rfl⟩ (fun hHeld=>?_);refine with_tabW impl_least.tab21 impl_least.bits21 (fun HT_ HW_=>?_)
  generalize wc.drew=w67 at MB BK493 BK503 HB hHeld⊢
  refine pq 0 (N:=some 102) (lb 15 1) HT_ ?_
  refine pq 1 (N:=some 103) (lb 15 3) HT_ ?_
  refine pq 2 (N:=some 104) (lb 15 7) HT_ ?_
  refine pq 3 (N:=some 105) (lb 15 15) HT_ ?_
  refine pq 4 (N:=some 106) (lb 15 31) HT_ ?_
  refine pq 5 (N:=some 107) (lb 15 63) HT_ ?_
  refine pq 6 (N:=some 108) (lb 15 127) HT_ ?_
  refine pq 8 (N:=some 110) (lb 15 383) HT_ ?_
  refine pq 9 (N:=some 111) (lb 15 895) HT_ ?_
  refine pq 10 (N:=some 112) (lb 15 1919) HT_ ?_
  refine tq 7 (N:=some 109) (lb 15 2047) HT_ HW_ hHeld ?_
  refine join_ (σ:=Nat) 2 (lb 15 8191) (fun s_=>[(113, .int .i64 t505),(21, .pointer (some ⟨s_,0,none⟩))]) (fun s_ w'=>(w'.cell? ⟨gb503,0,none⟩=some (.int .i64 ((rd_T63 l1 x73_5).f0))∧w'.cell? ⟨gb503,1,none⟩=some (.int .i64 ((rd_T63 l1 x73_5).f1))∧w'.cell? ⟨gb503,2,none⟩=some (.int .i64 ((rd_T63 l1 x73_5).f2)))∧(MapIs w' gm x12_6)∧(gm≠s_)∧(w'.heap[gb493]? =some (.cells #[.int .i64 a0_0, .bool a0_1] 28 (0,0)))∧(w'.heap[gb503]? =some (.cells #[.int .i64 ((rd_T63 l1 x73_5).f0), .int .i64 ((rd_T63 l1 x73_5).f1), .int .i64 ((rd_T63 l1 x73_5).f2)] 63 (0,0)))∧(w'.heap[s_]? =some (.cells #[.int .i64 0, .int .i64 0] 124 (0,0)))∧(w.heap.size≤s_)∧(w.heap.size≤s_)∧(gb493≠s_)∧(s_≠gb493)∧(gb503≠s_)∧(s_≠gb503)∧(Below w.heap.size w w')) ?_ ?_
  rotate_left
  ·intro hCont
   refine two_ (i:=11) (j:=12) (Ni:=some 113) (Nj:=some 21) (lb 15 4095) (lb 15 6143) rfl rfl rfl rfl (two_of HT_.out (by kernel_rfl)) (by decide) (by decide) (fun K hK=>?_) (fun K hK=>?_)
   ·skip
    refine goesLeg_ (legV_below HLG.out (h2 HB.out GE493.out GE503.out)) (.tmp 108) (by rfl) rfl rfl rfl (by first|rfl|(simp only[List.map_toArray,List.map_cons,List.map_nil];rfl)) A43.out ?_
    intro w68 hb
    have n0_:=Aside0.mk (blk_below (g:=gb493) (o:= .cells #[.int .i64 a0_0, .bool a0_1] 28 (0,0)) (bm BK493.out) hb)
    have mb_:=Aside0.mk (map_below (g:=gm) (m:=x12_6) (by(with_reducible repeat(first|refine map_drewN ?_ _|refine map_drew ?_|refine map_alloc ?_ _));exact MB.out) hb)
    have n1_:=Aside0.mk (blk_below (g:=gb503) (o:= .cells #[.int .i64 ((rd_T63 l1 x73_5).f0), .int .i64 ((rd_T63 l1 x73_5).f1), .int .i64 ((rd_T63 l1 x73_5).f2)] 63 (0,0)) (bm BK503.out) hb)
    have n2_:=Aside0.mk (below_step (h2 HB.out GE493.out GE503.out) hb)
    clear BK493
    clear BK503
    clear HB
    have BK493:=n0_
    clear MB
    have MB:=mb_
    clear mb_
    have BK503:=n1_
    have HB:=n2_
    clear n0_ n1_ n2_
    (try clear hb)
    (try clear hb2)
    (try clear hk)
    (try clear hi)
    refine hK.out _ _ ⟨bc BK503 0 rfl,bc BK503 1 rfl,bc BK503 2 rfl⟩ (fun hHeld=>?_)
    clear hK K
    refine norm_ (a':= ?_) ?_ ?_
    rotate_left
    ·show Act.put _ (some 113) _=_
     simp only[ap]
     rfl
    refine one_ (i:=12) (N:=some 21) (lb 15 8191) rfl rfl (one_of HT_.out (by kernel_rfl)) (by decide) (fun K hK=>?_)
    refine box_step ?hg (N:=21) ?hd (cs:= #[.int .i64 0, .int .i64 0]) (t:=124) ?hr ?_;(case hd=>rfl);(case hg=>rfl);(case hr=>first|(go_simp;done)|(go_simp;rfl))
    intro gb506 hg w69 hbox hb
    have n0_:=Aside0.mk (blk_below (g:=gb493) (o:= .cells #[.int .i64 a0_0, .bool a0_1] 28 (0,0)) (bm BK493.out) hb)
    have mb_:=Aside0.mk (map_below (g:=gm) (m:=x12_6) (by(with_reducible repeat(first|refine map_drewN ?_ _|refine map_drew ?_|refine map_alloc ?_ _));exact MB.out) hb)
    have n1_:=Aside0.mk (blk_below (g:=gb503) (o:= .cells #[.int .i64 ((rd_T63 l1 x73_5).f0), .int .i64 ((rd_T63 l1 x73_5).f1), .int .i64 ((rd_T63 l1 x73_5).f2)] 63 (0,0)) (bm BK503.out) hb)
    have n2_:=Aside0.mk (below_step (h2 HB.out GE493.out GE503.out) hb)
    have n3_:=Aside0.mk (hbox)
    have n4_:=Aside0.mk ((by rw[hg];exact(below_size (h2 HB.out GE493.out GE503.out)):w.heap.size≤gb506))
    have n5_:=Aside0.mk ((by rw[hg];exact(below_size (h2 HB.out GE493.out GE503.out)):w.heap.size≤gb506))
    have n6_:=Aside0.mk ((by rw[hg];exact Nat.ne_of_lt (blk_lt (g:=gb493) (o:= .cells #[.int .i64 a0_0, .bool a0_1] 28 (0,0)) (bm BK493.out)):gb493≠gb506))
    have nm_:=Aside0.mk ((by rw[hg];exact Nat.ne_of_lt (map_lt (g:=gm) (m:=x12_6) (by(with_reducible repeat(first|refine map_drewN ?_ _|refine map_drew ?_|refine map_alloc ?_ _));exact MB.out))):gm≠gb506)
    have n7_:=Aside0.mk ((by rw[hg];exact Nat.ne_of_gt (blk_lt (g:=gb493) (o:= .cells #[.int .i64 a0_0, .bool a0_1] 28 (0,0)) (bm BK493.out)):gb506≠gb493))
    have n8_:=Aside0.mk ((by rw[hg];exact Nat.ne_of_lt (blk_lt (g:=gb503) (o:= .cells #[.int .i64 ((rd_T63 l1 x73_5).f0), .int .i64 ((rd_T63 l1 x73_5).f1), .int .i64 ((rd_T63 l1 x73_5).f2)] 63 (0,0)) (bm BK503.out)):gb503≠gb506))
    have n9_:=Aside0.mk ((by rw[hg];exact Nat.ne_of_gt (blk_lt (g:=gb503) (o:= .cells #[.int .i64 ((rd_T63 l1 x73_5).f0), .int .i64 ((rd_T63 l1 x73_5).f1), .int .i64 ((rd_T63 l1 x73_5).f2)] 63 (0,0)) (bm BK503.out)):gb506≠gb503))
    clear BK493
    clear BK503
    clear HB
    have BK493:=n0_
    clear MB
    have MB:=mb_
    clear mb_
    have BK503:=n1_
    have HB:=n2_
    have BK506:=n3_
    have GW506:=n4_
    have GE506:=n5_
    have NB493_506:=n6_
    have NM_506:=nm_
    clear nm_
    have NB506_493:=n7_
    have NB503_506:=n8_
    have NB506_503:=n9_
    clear n0_ n1_ n2_ n3_ n4_ n5_ n6_ n7_ n8_ n9_
    clear hb hbox hg
    refine hK.out _ _ ⟨bc BK503 0 rfl,bc BK503 1 rfl,bc BK503 2 rfl⟩ (fun hHeld=>?_)
    clear hK K
    refine norm_ (a':= ?_) ?_ ?_
    rotate_left
    ·show Act.put _ (some 21) _=_
     simp only[ap]
     rfl
    exact norm_ (by simp only[putAll,Act.put,List.setIfInBounds_toArray,List.set_cons_zero,List.set_cons_succ]) (hCont (gb506) _ ⟨hHeld,(by(with_reducible repeat(first|refine map_drewN ?_ _|refine map_drew ?_|refine map_alloc ?_ _));exact MB.out),NM_506.out,(bm BK493.out),(bm BK503.out),(bm BK506.out),GW506.out,GE506.out,NB493_506.out,NB506_493.out,NB503_506.out,NB506_503.out,(h3 HB.out GE493.out GE503.out GE506.out)⟩)
   skip
   refine box_step ?hg (N:=21) ?hd (cs:= #[.int .i64 0, .int .i64 0]) (t:=124) ?hr ?_;(case hd=>rfl);(case hg=>rfl);(case hr=>first|(go_simp;done)|(go_simp;rfl))
   intro gb506 hg w68 hbox hb
   have n0_:=Aside0.mk (blk_below (g:=gb493) (o:= .cells #[.int .i64 a0_0, .bool a0_1] 28 (0,0)) (bm BK493.out) hb)
   have mb_:=Aside0.mk (map_below (g:=gm) (m:=x12_6) (by(with_reducible repeat(first|refine map_drewN ?_ _|refine map_drew ?_|refine map_alloc ?_ _));exact MB.out) hb)
   have n1_:=Aside0.mk (blk_below (g:=gb503) (o:= .cells #[.int .i64 ((rd_T63 l1 x73_5).f0), .int .i64 ((rd_T63 l1 x73_5).f1), .int .i64 ((rd_T63 l1 x73_5).f2)] 63 (0,0)) (bm BK503.out) hb)
   have n2_:=Aside0.mk (below_step (h2 HB.out GE493.out GE503.out) hb)
   have n3_:=Aside0.mk (hbox)
   have n4_:=Aside0.mk ((by rw[hg];exact(below_size (h2 HB.out GE493.out GE503.out)):w.heap.size≤gb506))
   have n5_:=Aside0.mk ((by rw[hg];exact(below_size (h2 HB.out GE493.out GE503.out)):w.heap.size≤gb506))
   have n6_:=Aside0.mk ((by rw[hg];exact Nat.ne_of_lt (blk_lt (g:=gb493) (o:= .cells #[.int .i64 a0_0, .bool a0_1] 28 (0,0)) (bm BK493.out)):gb493≠gb506))
   have nm_:=Aside0.mk ((by rw[hg];exact Nat.ne_of_lt (map_lt (g:=gm) (m:=x12_6) (by(with_reducible repeat(first|refine map_drewN ?_ _|refine map_drew ?_|refine map_alloc ?_ _));exact MB.out))):gm≠gb506)
   have n7_:=Aside0.mk ((by rw[hg];exact Nat.ne_of_gt (blk_lt (g:=gb493) (o:= .cells #[.int .i64 a0_0, .bool a0_1] 28 (0,0)) (bm BK493.out)):gb506≠gb493))
   have n8_:=Aside0.mk ((by rw[hg];exact Nat.ne_of_lt (blk_lt (g:=gb503) (o:= .cells #[.int .i64 ((rd_T63 l1 x73_5).f0), .int .i64 ((rd_T63 l1 x73_5).f1), .int .i64 ((rd_T63 l1 x73_5).f2)] 63 (0,0)) (bm BK503.out)):gb503≠gb506))
   have n9_:=Aside0.mk ((by rw[hg];exact Nat.ne_of_gt (blk_lt (g:=gb503) (o:= .cells #[.int .i64 ((rd_T63 l1 x73_5).f0), .int .i64 ((rd_T63 l1 x73_5).f1), .int .i64 ((rd_T63 l1 x73_5).f2)] 63 (0,0)) (bm BK503.out)):gb506≠gb503))
   clear BK493
   clear BK503
   clear HB
   have BK493:=n0_
   clear MB
   have MB:=mb_
   clear mb_
   have BK503:=n1_
   have HB:=n2_
   have BK506:=n3_
   have GW506:=n4_
   have GE506:=n5_
   have NB493_506:=n6_
   have NM_506:=nm_
   clear nm_
   have NB506_493:=n7_
   have NB503_506:=n8_
   have NB506_503:=n9_
   clear n0_ n1_ n2_ n3_ n4_ n5_ n6_ n7_ n8_ n9_
   clear hb hbox hg
   refine hK.out _ _ ⟨bc BK503 0 rfl,bc BK503 1 rfl,bc BK503 2 rfl⟩ (fun hHeld=>?_)
   clear hK K
   refine norm_ (a':= ?_) ?_ ?_
   rotate_left
   ·show Act.put _ (some 21) _=_
    simp only[ap]
    rfl
   refine one_ (i:=11) (N:=some 113) (lb 15 8191) rfl rfl (one_of HT_.out (by kernel_rfl)) (by decide) (fun K hK=>?_)
   refine goesLeg_ (legV_below HLG.out (h3 HB.out GE493.out GE503.out GE506.out)) (.tmp 108) (by rfl) rfl rfl rfl (by first|rfl|(simp only[List.map_toArray,List.map_cons,List.map_nil];rfl)) A43.out ?_
   intro w69 hb
   have n0_:=Aside0.mk (blk_below (g:=gb493) (o:= .cells #[.int .i64 a0_0, .bool a0_1] 28 (0,0)) (bm BK493.out) hb)
   have mb_:=Aside0.mk (map_below (g:=gm) (m:=x12_6) (by(with_reducible repeat(first|refine map_drewN ?_ _|refine map_drew ?_|refine map_alloc ?_ _));exact MB.out) hb)
   have n1_:=Aside0.mk (blk_below (g:=gb503) (o:= .cells #[.int .i64 ((rd_T63 l1 x73_5).f0), .int .i64 ((rd_T63 l1 x73_5).f1), .int .i64 ((rd_T63 l1 x73_5).f2)] 63 (0,0)) (bm BK503.out) hb)
   have n2_:=Aside0.mk (blk_below (g:=gb506) (o:= .cells #[.int .i64 0, .int .i64 0] 124 (0,0)) (bm BK506.out) hb)
   have n3_:=Aside0.mk (below_step (h3 HB.out GE493.out GE503.out GE506.out) hb)
   clear BK493
   clear BK503
   clear BK506
   clear HB
   have BK493:=n0_
   clear MB
   have MB:=mb_
   clear mb_
   have BK503:=n1_
   have BK506:=n2_
   have HB:=n3_
   clear n0_ n1_ n2_ n3_
   (try clear hb)
   (try clear hb2)
   (try clear hk)
   (try clear hi)
   refine hK.out _ _ ⟨bc BK503 0 rfl,bc BK503 1 rfl,bc BK503 2 rfl⟩ (fun hHeld=>?_)
   clear hK K
   refine norm_ (a':= ?_) ?_ ?_
   rotate_left
   ·show Act.put _ (some 113) _=_
    simp only[ap]
    rfl
   exact norm_ (by simp only[putAll,Act.put,List.setIfInBounds_toArray,List.set_cons_zero,List.set_cons_succ]) (hCont (gb506) _ ⟨hHeld,(by(with_reducible repeat(first|refine map_drewN ?_ _|refine map_drew ?_|refine map_alloc ?_ _));exact MB.out),NM_506.out,(bm BK493.out),(bm BK503.out),(bm BK506.out),GW506.out,GE506.out,NB493_506.out,NB506_493.out,NB503_506.out,NB506_503.out,(h3 HB.out GE493.out GE503.out GE506.out)⟩)
  rintro gb506 w70 ⟨hS_,hm_,hmn_,h0_,h1_,h2_,h3_,h4_,h5_,h6_,h7_,h8_,h9_⟩
  have n0_:Aside0 (w70.heap[gb493]? =some (.cells #[.int .i64 a0_0, .bool a0_1] 28 (0,0))):=⟨h0_⟩
  have mb_:=Aside0.mk hm_
  have n1_:Aside0 (w70.heap[gb503]? =some (.cells #[.int .i64 ((rd_T63 l1 x73_5).f0), .int .i64 ((rd_T63 l1 x73_5).f1), .int .i64 ((rd_T63 l1 x73_5).f2)] 63 (0,0))):=⟨h1_⟩
  have n2_:Aside0 (w70.heap[gb506]? =some (.cells #[.int .i64 0, .int .i64 0] 124 (0,0))):=⟨h2_⟩
  have n3_:Aside0 (w.heap.size≤gb506):=⟨h3_⟩
  have n4_:Aside0 (w.heap.size≤gb506):=⟨h4_⟩
  have n5_:Aside0 (gb493≠gb506):=⟨h5_⟩
  have nm_:=Aside0.mk hmn_
  have n6_:Aside0 (gb506≠gb493):=⟨h6_⟩
  have n7_:Aside0 (gb503≠gb506):=⟨h7_⟩
  have n8_:Aside0 (gb506≠gb503):=⟨h8_⟩
  have n9_:Aside0 (Below w.heap.size w w70):=⟨h9_⟩
  clear BK493
  clear BK503
  clear HB
  clear h0_ h1_ h2_ h3_ h4_ h5_ h6_ h7_ h8_ h9_
  have BK493:=n0_
  clear MB
  have MB:=mb_
  clear mb_
  have BK503:=n1_
  have BK506:=n2_
  have GW506:=n3_
  have GE506:=n4_
  have NB493_506:=n5_
  have NM_506:=nm_
  clear nm_
  have NB506_493:=n6_
  have NB503_506:=n7_
  have NB506_503:=n8_
  have HB:=n9_
  clear n0_ n1_ n2_ n3_ n4_ n5_ n6_ n7_ n8_ n9_
  have hHeld:w70.cell? ⟨gb503,0,none⟩=some (.int .i64 ((rd_T63 l1 x73_5).f0))∧w70.cell? ⟨gb503,1,none⟩=some (.int .i64 ((rd_T63 l1 x73_5).f1))∧w70.cell? ⟨gb503,2,none⟩=some (.int .i64 ((rd_T63 l1 x73_5).f2)):=hS_
  refine norm_ (a':= ?_) ?_ ?_
  rotate_left
  ·simp only[putAll,Act.put,List.setIfInBounds_toArray,List.set_cons_zero,List.set_cons_succ]
   rfl
  refine one_ (i:=13) (N:=none) (lb 15 16383) rfl rfl (one_of HT_.out (by kernel_rfl)) (by decide) (fun K hK=>?_)
  have hs71:w70.cell? ⟨gb506,0,none⟩=some (.int .i64 0):=bc BK506 0 rfl
  have hfs71:=blk_frozen BK506.out 0
  have hns71_0:=NB493_506.out
  have hns71_1:=NB503_506.out
  have hms71_0:=NB506_493.out
  have hms71_1:=NB506_503.out
  have hs72:w70.cell? ⟨gb506,1,none⟩=some (.int .i64 0):=bc BK506 1 rfl
  have hfs72:=blk_frozen BK506.out 1
  have hns72_0:=NB493_506.out
  have hns72_1:=NB503_506.out
  have hms72_0:=NB506_493.out
  have hms72_1:=NB506_503.out
  refine skip_ (w1:= ?_) (by rfl) rfl ?_ ?_
  rotate_left
  ·go_simp
   rfl
  refine hK.out _ _ ⟨((cell_far (p:=⟨gb506,_,none⟩) NB503_506.out _).trans (((cell_far (p:=⟨gb506,_,none⟩) NB503_506.out _).trans (hHeld.1)))),((cell_far (p:=⟨gb506,_,none⟩) NB503_506.out _).trans (((cell_far (p:=⟨gb506,_,none⟩) NB503_506.out _).trans (hHeld.2.1)))),((cell_far (p:=⟨gb506,_,none⟩) NB503_506.out _).trans (((cell_far (p:=⟨gb506,_,none⟩) NB503_506.out _).trans (hHeld.2.2))))⟩ (fun hHeld=>?_)
  clear hK K
  refine pq 14 (N:=some 22) (lb 15 32767) HT_ ?_
  refine done_ (done_of HT_.out (by kernel_rfl)) ?_
  have hnb73:=NB506_493.out
  have hnc73:=NB493_506.out
  have hnb74:=NB506_503.out
  have hnc74:=NB503_506.out
  have hcz75_0:w70.cell? ⟨gb506,0,none⟩=some (.int .i64 0):=bc BK506 0 rfl
  have hcz75_1:w70.cell? ⟨gb506,1,none⟩=some (.int .i64 0):=bc BK506 1 rfl
  have hfz75_0:=blk_frozen BK506.out 0
  have hfz75_1:=blk_frozen BK506.out 1
  try go_wp2_with (first|((with_reducible refine gate_dst (N:=117) rfl ?_);refine map_get rfl (.tmp 115) (.tmp 116) rfl gm x12_6 (Go.bits .or .i64 x45_2 (ji42)) x20_6 t507 false (by rfl) (by first|rfl|(simp only[hji42];rfl)) (by(with_reducible repeat(first|refine map_drewN ?_ _|refine map_drew ?_|refine map_alloc ?_ _));refine map_far ?_ NM_506.out _;(with_reducible repeat(first|refine map_drewN ?_ _|refine map_drew ?_|refine map_alloc ?_ _));refine map_far ?_ NM_506.out _;(with_reducible repeat(first|refine map_drewN ?_ _|refine map_drew ?_|refine map_alloc ?_ _));exact MB.out) A44.out ?_)|(at_mapUpdate;refine map_put rfl (.tmp 127) (.tmp 128) (.tmp 129) (.inl rfl) rfl gm x12_6 t510 (Go.bits .or .i64 x45_2 (ji42)) x20_6 t505 (by rfl) (by first|rfl|(simp only[hji42];rfl)) (by first|rfl|(simp only[hji42];rfl)) (by(with_reducible repeat(first|refine map_drewN ?_ _|refine map_drew ?_|refine map_alloc ?_ _));refine map_far ?_ NM_506.out _;(with_reducible repeat(first|refine map_drewN ?_ _|refine map_drew ?_|refine map_alloc ?_ _));refine map_far ?_ NM_506.out _;(with_reducible repeat(first|refine map_drewN ?_ _|refine map_drew ?_|refine map_alloc ?_ _));exact MB.out) A66.out ?_;intro wp hM hgr;have q0_:=Aside0.mk hM;have q1_:=Aside0.mk (below_put (h3 HB.out GE493.out GE503.out GE506.out) hgr GM.out);have r0_:=Aside0.mk (blk_grown (o:=(.cells #[.int .i64 a0_0, .bool a0_1] 28 (0,0))) (by(with_reducible repeat(first|refine blk_drewN ?_ _|refine blk_drew ?_|refine blk_alloc ?_ _));refine blk_far ?_ NB493_506.out _;(with_reducible repeat(first|refine blk_drewN ?_ _|refine blk_drew ?_|refine blk_alloc ?_ _));refine blk_far ?_ NB493_506.out _;(with_reducible repeat(first|refine blk_drewN ?_ _|refine blk_drew ?_|refine blk_alloc ?_ _));exact BK493.out) hgr (fun e_=>NG493.out (Option.some.inj e_)));have r1_:=Aside0.mk (blk_grown (o:=(.cells #[.int .i64 ((rd_T63 l1 x73_5).f0), .int .i64 ((rd_T63 l1 x73_5).f1), .int .i64 ((rd_T63 l1 x73_5).f2)] 63 (0,0))) (by(with_reducible repeat(first|refine blk_drewN ?_ _|refine blk_drew ?_|refine blk_alloc ?_ _));refine blk_far ?_ NB503_506.out _;(with_reducible repeat(first|refine blk_drewN ?_ _|refine blk_drew ?_|refine blk_alloc ?_ _));refine blk_far ?_ NB503_506.out _;(with_reducible repeat(first|refine blk_drewN ?_ _|refine blk_drew ?_|refine blk_alloc ?_ _));exact BK503.out) hgr (fun e_=>NGM.out (Option.some.inj e_)));clear MB;clear HB;clear BK493;clear BK503;have MB:=q0_;have HB:=q1_;have BK493:=r0_;have BK503:=r1_;clear q0_ q1_ r0_ r1_;clear hM hgr))
  go_roundg kj29
  case measure=>have:=HK1.out;have:=HK2.out;have:=HJ18.out;have:=HJ21.out;have:=HK5.out;have:=HK6.out;have:=HJ29.out;omega
  case rel=>exact⟨(t510),(wrap64 (x20_6+1)),fd,H',⟨by have:=HK1.out;have:=HK2.out;have:=HJ18.out;have:=HJ21.out;have:=HK5.out;have:=HK6.out;have:=HJ29.out;omega⟩,⟨by(with_reducible repeat(first|refine map_drewN ?_ _|refine map_drew ?_|refine map_alloc ?_ _));exact MB.out⟩,⟨bm BK493.out⟩,⟨bm BK503.out⟩,⟨h3 HB.out GE493.out GE503.out GE506.out⟩⟩
 subst c45
 rw[if_pos rfl]at H
 by_cases c46:t505<t507
 rotate_left
 ·rw[if_neg c46]at H
  have c46b0:decide (t505<t507)=false:=decide_eq_false c46
  clear c46
  have H':=Aside0.mk H
  clear H
  try go_wp2
  have n0_:=Aside0.mk (blk_drew BK493.out)
  have mb_:=Aside0.mk (map_drew MB.out)
  have n1_:=Aside0.mk (blk_drew BK503.out)
  have n2_:=Aside0.mk (below_drew1 HB.out)
  clear BK493
  clear BK503
  clear HB
  have BK493:=n0_
  clear MB
  have MB:=mb_
  clear mb_
  have BK503:=n1_
  have HB:=n2_
  clear n0_ n1_ n2_
  refine start_ (n:=15) (S:=fun w'=>w'.cell? ⟨gb503,0,none⟩=some (.int .i64 ((rd_T63 l1 x73_5).f0))∧w'.cell? ⟨gb503,1,none⟩=some (.int .i64 ((rd_T63 l1 x73_5).f1))∧w'.cell? ⟨gb503,2,none⟩=some (.int .i64 ((rd_T63 l1 x73_5).f2))) (ds:=[]) (lb 15 0) (by kernel_rfl) rfl rfl ⟨bc BK503 0 rfl,bc BK503 1 rfl,bc BK503 2 rfl⟩ (fun hHeld=>?_);refine with_tabW impl_least.tab21 impl_least.bits21 (fun HT_ HW_=>?_)
  generalize wc.drew=w57 at MB BK493 BK503 HB hHeld⊢
  refine pq 0 (N:=some 102) (lb 15 1) HT_ ?_
  refine pq 1 (N:=some 103) (lb 15 3) HT_ ?_
  refine pq 2 (N:=some 104) (lb 15 7) HT_ ?_
  refine pq 3 (N:=some 105) (lb 15 15) HT_ ?_
  refine pq 4 (N:=some 106) (lb 15 31) HT_ ?_
  refine pq 5 (N:=some 107) (lb 15 63) HT_ ?_
  refine pq 6 (N:=some 108) (lb 15 127) HT_ ?_
  refine pq 8 (N:=some 110) (lb 15 383) HT_ ?_
  refine pq 9 (N:=some 111) (lb 15 895) HT_ ?_
  refine pq 10 (N:=some 112) (lb 15 1919) HT_ ?_
  refine tq 7 (N:=some 109) (lb 15 2047) HT_ HW_ hHeld ?_
  refine join_ (σ:=Nat) 2 (lb 15 8191) (fun s_=>[(113, .int .i64 t505),(21, .pointer (some ⟨s_,0,none⟩))]) (fun s_ w'=>(w'.cell? ⟨gb503,0,none⟩=some (.int .i64 ((rd_T63 l1 x73_5).f0))∧w'.cell? ⟨gb503,1,none⟩=some (.int .i64 ((rd_T63 l1 x73_5).f1))∧w'.cell? ⟨gb503,2,none⟩=some (.int .i64 ((rd_T63 l1 x73_5).f2)))∧(MapIs w' gm x12_6)∧(gm≠s_)∧(w'.heap[gb493]? =some (.cells #[.int .i64 a0_0, .bool a0_1] 28 (0,0)))∧(w'.heap[gb503]? =some (.cells #[.int .i64 ((rd_T63 l1 x73_5).f0), .int .i64 ((rd_T63 l1 x73_5).f1), .int .i64 ((rd_T63 l1 x73_5).f2)] 63 (0,0)))∧(w'.heap[s_]? =some (.cells #[.int .i64 0, .int .i64 0] 124 (0,0)))∧(w.heap.size≤s_)∧(w.heap.size≤s_)∧(gb493≠s_)∧(s_≠gb493)∧(gb503≠s_)∧(s_≠gb503)∧(Below w.heap.size w w')) ?_ ?_
  rotate_left
  ·intro hCont
   refine two_ (i:=11) (j:=12) (Ni:=some 113) (Nj:=some 21) (lb 15 4095) (lb 15 6143) rfl rfl rfl rfl (two_of HT_.out (by kernel_rfl)) (by decide) (by decide) (fun K hK=>?_) (fun K hK=>?_)
   ·skip
    refine goesLeg_ (legV_below HLG.out (h2 HB.out GE493.out GE503.out)) (.tmp 108) (by rfl) rfl rfl rfl (by first|rfl|(simp only[List.map_toArray,List.map_cons,List.map_nil];rfl)) A43.out ?_
    intro w58 hb
    have n0_:=Aside0.mk (blk_below (g:=gb493) (o:= .cells #[.int .i64 a0_0, .bool a0_1] 28 (0,0)) (bm BK493.out) hb)
    have mb_:=Aside0.mk (map_below (g:=gm) (m:=x12_6) (by(with_reducible repeat(first|refine map_drewN ?_ _|refine map_drew ?_|refine map_alloc ?_ _));exact MB.out) hb)
    have n1_:=Aside0.mk (blk_below (g:=gb503) (o:= .cells #[.int .i64 ((rd_T63 l1 x73_5).f0), .int .i64 ((rd_T63 l1 x73_5).f1), .int .i64 ((rd_T63 l1 x73_5).f2)] 63 (0,0)) (bm BK503.out) hb)
    have n2_:=Aside0.mk (below_step (h2 HB.out GE493.out GE503.out) hb)
    clear BK493
    clear BK503
    clear HB
    have BK493:=n0_
    clear MB
    have MB:=mb_
    clear mb_
    have BK503:=n1_
    have HB:=n2_
    clear n0_ n1_ n2_
    (try clear hb)
    (try clear hb2)
    (try clear hk)
    (try clear hi)
    refine hK.out _ _ ⟨bc BK503 0 rfl,bc BK503 1 rfl,bc BK503 2 rfl⟩ (fun hHeld=>?_)
    clear hK K
    refine norm_ (a':= ?_) ?_ ?_
    rotate_left
    ·show Act.put _ (some 113) _=_
     simp only[ap]
     rfl
    refine one_ (i:=12) (N:=some 21) (lb 15 8191) rfl rfl (one_of HT_.out (by kernel_rfl)) (by decide) (fun K hK=>?_)
    refine box_step ?hg (N:=21) ?hd (cs:= #[.int .i64 0, .int .i64 0]) (t:=124) ?hr ?_;(case hd=>rfl);(case hg=>rfl);(case hr=>first|(go_simp;done)|(go_simp;rfl))
    intro gb506 hg w59 hbox hb
    have n0_:=Aside0.mk (blk_below (g:=gb493) (o:= .cells #[.int .i64 a0_0, .bool a0_1] 28 (0,0)) (bm BK493.out) hb)
    have mb_:=Aside0.mk (map_below (g:=gm) (m:=x12_6) (by(with_reducible repeat(first|refine map_drewN ?_ _|refine map_drew ?_|refine map_alloc ?_ _));exact MB.out) hb)
    have n1_:=Aside0.mk (blk_below (g:=gb503) (o:= .cells #[.int .i64 ((rd_T63 l1 x73_5).f0), .int .i64 ((rd_T63 l1 x73_5).f1), .int .i64 ((rd_T63 l1 x73_5).f2)] 63 (0,0)) (bm BK503.out) hb)
    have n2_:=Aside0.mk (below_step (h2 HB.out GE493.out GE503.out) hb)
    have n3_:=Aside0.mk (hbox)
    have n4_:=Aside0.mk ((by rw[hg];exact(below_size (h2 HB.out GE493.out GE503.out)):w.heap.size≤gb506))
    have n5_:=Aside0.mk ((by rw[hg];exact(below_size (h2 HB.out GE493.out GE503.out)):w.heap.size≤gb506))
    have n6_:=Aside0.mk ((by rw[hg];exact Nat.ne_of_lt (blk_lt (g:=gb493) (o:= .cells #[.int .i64 a0_0, .bool a0_1] 28 (0,0)) (bm BK493.out)):gb493≠gb506))
    have nm_:=Aside0.mk ((by rw[hg];exact Nat.ne_of_lt (map_lt (g:=gm) (m:=x12_6) (by(with_reducible repeat(first|refine map_drewN ?_ _|refine map_drew ?_|refine map_alloc ?_ _));exact MB.out))):gm≠gb506)
    have n7_:=Aside0.mk ((by rw[hg];exact Nat.ne_of_gt (blk_lt (g:=gb493) (o:= .cells #[.int .i64 a0_0, .bool a0_1] 28 (0,0)) (bm BK493.out)):gb506≠gb493))
    have n8_:=Aside0.mk ((by rw[hg];exact Nat.ne_of_lt (blk_lt (g:=gb503) (o:= .cells #[.int .i64 ((rd_T63 l1 x73_5).f0), .int .i64 ((rd_T63 l1 x73_5).f1), .int .i64 ((rd_T63 l1 x73_5).f2)] 63 (0,0)) (bm BK503.out)):gb503≠gb506))
    have n9_:=Aside0.mk ((by rw[hg];exact Nat.ne_of_gt (blk_lt (g:=gb503) (o:= .cells #[.int .i64 ((rd_T63 l1 x73_5).f0), .int .i64 ((rd_T63 l1 x73_5).f1), .int .i64 ((rd_T63 l1 x73_5).f2)] 63 (0,0)) (bm BK503.out)):gb506≠gb503))
    clear BK493
    clear BK503
    clear HB
    have BK493:=n0_
    clear MB
    have MB:=mb_
    clear mb_
    have BK503:=n1_
    have HB:=n2_
    have BK506:=n3_
    have GW506:=n4_
    have GE506:=n5_
    have NB493_506:=n6_
    have NM_506:=nm_
    clear nm_
    have NB506_493:=n7_
    have NB503_506:=n8_
    have NB506_503:=n9_
    clear n0_ n1_ n2_ n3_ n4_ n5_ n6_ n7_ n8_ n9_
    clear hb hbox hg
    refine hK.out _ _ ⟨bc BK503 0 rfl,bc BK503 1 rfl,bc BK503 2 rfl⟩ (fun hHeld=>?_)
    clear hK K
    refine norm_ (a':= ?_) ?_ ?_
    rotate_left
    ·show Act.put _ (some 21) _=_
     simp only[ap]
     rfl
    exact norm_ (by simp only[putAll,Act.put,List.setIfInBounds_toArray,List.set_cons_zero,List.set_cons_succ]) (hCont (gb506) _ ⟨hHeld,(by(with_reducible repeat(first|refine map_drewN ?_ _|refine map_drew ?_|refine map_alloc ?_ _));exact MB.out),NM_506.out,(bm BK493.out),(bm BK503.out),(bm BK506.out),GW506.out,GE506.out,NB493_506.out,NB506_493.out,NB503_506.out,NB506_503.out,(h3 HB.out GE493.out GE503.out GE506.out)⟩)
   skip
   refine box_step ?hg (N:=21) ?hd (cs:= #[.int .i64 0, .int .i64 0]) (t:=124) ?hr ?_;(case hd=>rfl);(case hg=>rfl);(case hr=>first|(go_simp;done)|(go_simp;rfl))
   intro gb506 hg w58 hbox hb
   have n0_:=Aside0.mk (blk_below (g:=gb493) (o:= .cells #[.int .i64 a0_0, .bool a0_1] 28 (0,0)) (bm BK493.out) hb)
   have mb_:=Aside0.mk (map_below (g:=gm) (m:=x12_6) (by(with_reducible repeat(first|refine map_drewN ?_ _|refine map_drew ?_|refine map_alloc ?_ _));exact MB.out) hb)
   have n1_:=Aside0.mk (blk_below (g:=gb503) (o:= .cells #[.int .i64 ((rd_T63 l1 x73_5).f0), .int .i64 ((rd_T63 l1 x73_5).f1), .int .i64 ((rd_T63 l1 x73_5).f2)] 63 (0,0)) (bm BK503.out) hb)
   have n2_:=Aside0.mk (below_step (h2 HB.out GE493.out GE503.out) hb)
   have n3_:=Aside0.mk (hbox)
   have n4_:=Aside0.mk ((by rw[hg];exact(below_size (h2 HB.out GE493.out GE503.out)):w.heap.size≤gb506))
   have n5_:=Aside0.mk ((by rw[hg];exact(below_size (h2 HB.out GE493.out GE503.out)):w.heap.size≤gb506))
   have n6_:=Aside0.mk ((by rw[hg];exact Nat.ne_of_lt (blk_lt (g:=gb493) (o:= .cells #[.int .i64 a0_0, .bool a0_1] 28 (0,0)) (bm BK493.out)):gb493≠gb506))
   have nm_:=Aside0.mk ((by rw[hg];exact Nat.ne_of_lt (map_lt (g:=gm) (m:=x12_6) (by(with_reducible repeat(first|refine map_drewN ?_ _|refine map_drew ?_|refine map_alloc ?_ _));exact MB.out))):gm≠gb506)
   have n7_:=Aside0.mk ((by rw[hg];exact Nat.ne_of_gt (blk_lt (g:=gb493) (o:= .cells #[.int .i64 a0_0, .bool a0_1] 28 (0,0)) (bm BK493.out)):gb506≠gb493))
   have n8_:=Aside0.mk ((by rw[hg];exact Nat.ne_of_lt (blk_lt (g:=gb503) (o:= .cells #[.int .i64 ((rd_T63 l1 x73_5).f0), .int .i64 ((rd_T63 l1 x73_5).f1), .int .i64 ((rd_T63 l1 x73_5).f2)] 63 (0,0)) (bm BK503.out)):gb503≠gb506))
   have n9_:=Aside0.mk ((by rw[hg];exact Nat.ne_of_gt (blk_lt (g:=gb503) (o:= .cells #[.int .i64 ((rd_T63 l1 x73_5).f0), .int .i64 ((rd_T63 l1 x73_5).f1), .int .i64 ((rd_T63 l1 x73_5).f2)] 63 (0,0)) (bm BK503.out)):gb506≠gb503))
   clear BK493
   clear BK503
   clear HB
   have BK493:=n0_
   clear MB
   have MB:=mb_
   clear mb_
   have BK503:=n1_
   have HB:=n2_
   have BK506:=n3_
   have GW506:=n4_
   have GE506:=n5_
   have NB493_506:=n6_
   have NM_506:=nm_
   clear nm_
   have NB506_493:=n7_
   have NB503_506:=n8_
   have NB506_503:=n9_
   clear n0_ n1_ n2_ n3_ n4_ n5_ n6_ n7_ n8_ n9_
   clear hb hbox hg
   refine hK.out _ _ ⟨bc BK503 0 rfl,bc BK503 1 rfl,bc BK503 2 rfl⟩ (fun hHeld=>?_)
   clear hK K
   refine norm_ (a':= ?_) ?_ ?_
   rotate_left
   ·show Act.put _ (some 21) _=_
    simp only[ap]
    rfl
   refine one_ (i:=11) (N:=some 113) (lb 15 8191) rfl rfl (one_of HT_.out (by kernel_rfl)) (by decide) (fun K hK=>?_)
   refine goesLeg_ (legV_below HLG.out (h3 HB.out GE493.out GE503.out GE506.out)) (.tmp 108) (by rfl) rfl rfl rfl (by first|rfl|(simp only[List.map_toArray,List.map_cons,List.map_nil];rfl)) A43.out ?_
   intro w59 hb
   have n0_:=Aside0.mk (blk_below (g:=gb493) (o:= .cells #[.int .i64 a0_0, .bool a0_1] 28 (0,0)) (bm BK493.out) hb)
   have mb_:=Aside0.mk (map_below (g:=gm) (m:=x12_6) (by(with_reducible repeat(first|refine map_drewN ?_ _|refine map_drew ?_|refine map_alloc ?_ _));exact MB.out) hb)
   have n1_:=Aside0.mk (blk_below (g:=gb503) (o:= .cells #[.int .i64 ((rd_T63 l1 x73_5).f0), .int .i64 ((rd_T63 l1 x73_5).f1), .int .i64 ((rd_T63 l1 x73_5).f2)] 63 (0,0)) (bm BK503.out) hb)
   have n2_:=Aside0.mk (blk_below (g:=gb506) (o:= .cells #[.int .i64 0, .int .i64 0] 124 (0,0)) (bm BK506.out) hb)
   have n3_:=Aside0.mk (below_step (h3 HB.out GE493.out GE503.out GE506.out) hb)
   clear BK493
   clear BK503
   clear BK506
   clear HB
   have BK493:=n0_
   clear MB
   have MB:=mb_
   clear mb_
   have BK503:=n1_
   have BK506:=n2_
   have HB:=n3_
   clear n0_ n1_ n2_ n3_
   (try clear hb)
   (try clear hb2)
   (try clear hk)
   (try clear hi)
   refine hK.out _ _ ⟨bc BK503 0 rfl,bc BK503 1 rfl,bc BK503 2 rfl⟩ (fun hHeld=>?_)
   clear hK K
   refine norm_ (a':= ?_) ?_ ?_
   rotate_left
   ·show Act.put _ (some 113) _=_
    simp only[ap]
    rfl
   exact norm_ (by simp only[putAll,Act.put,List.setIfInBounds_toArray,List.set_cons_zero,List.set_cons_succ]) (hCont (gb506) _ ⟨hHeld,(by(with_reducible repeat(first|refine map_drewN ?_ _|refine map_drew ?_|refine map_alloc ?_ _));exact MB.out),NM_506.out,(bm BK493.out),(bm BK503.out),(bm BK506.out),GW506.out,GE506.out,NB493_506.out,NB506_493.out,NB503_506.out,NB506_503.out,(h3 HB.out GE493.out GE503.out GE506.out)⟩)
  rintro gb506 w60 ⟨hS_,hm_,hmn_,h0_,h1_,h2_,h3_,h4_,h5_,h6_,h7_,h8_,h9_⟩
  have n0_:Aside0 (w60.heap[gb493]? =some (.cells #[.int .i64 a0_0, .bool a0_1] 28 (0,0))):=⟨h0_⟩
  have mb_:=Aside0.mk hm_
  have n1_:Aside0 (w60.heap[gb503]? =some (.cells #[.int .i64 ((rd_T63 l1 x73_5).f0), .int .i64 ((rd_T63 l1 x73_5).f1), .int .i64 ((rd_T63 l1 x73_5).f2)] 63 (0,0))):=⟨h1_⟩
  have n2_:Aside0 (w60.heap[gb506]? =some (.cells #[.int .i64 0, .int .i64 0] 124 (0,0))):=⟨h2_⟩
  have n3_:Aside0 (w.heap.size≤gb506):=⟨h3_⟩
  have n4_:Aside0 (w.heap.size≤gb506):=⟨h4_⟩
  have n5_:Aside0 (gb493≠gb506):=⟨h5_⟩
  have nm_:=Aside0.mk hmn_
  have n6_:Aside0 (gb506≠gb493):=⟨h6_⟩
  have n7_:Aside0 (gb503≠gb506):=⟨h7_⟩
  have n8_:Aside0 (gb506≠gb503):=⟨h8_⟩
  have n9_:Aside0 (Below w.heap.size w w60):=⟨h9_⟩
  clear BK493
  clear BK503
  clear HB
  clear h0_ h1_ h2_ h3_ h4_ h5_ h6_ h7_ h8_ h9_
  have BK493:=n0_
  clear MB
  have MB:=mb_
  clear mb_
  have BK503:=n1_
  have BK506:=n2_
  have GW506:=n3_
  have GE506:=n4_
  have NB493_506:=n5_
  have NM_506:=nm_
  clear nm_
  have NB506_493:=n6_
  have NB503_506:=n7_
  have NB506_503:=n8_
  have HB:=n9_
  clear n0_ n1_ n2_ n3_ n4_ n5_ n6_ n7_ n8_ n9_
  have hHeld:w60.cell? ⟨gb503,0,none⟩=some (.int .i64 ((rd_T63 l1 x73_5).f0))∧w60.cell? ⟨gb503,1,none⟩=some (.int .i64 ((rd_T63 l1 x73_5).f1))∧w60.cell? ⟨gb503,2,none⟩=some (.int .i64 ((rd_T63 l1 x73_5).f2)):=hS_
  refine norm_ (a':= ?_) ?_ ?_
  rotate_left
  ·simp only[putAll,Act.put,List.setIfInBounds_toArray,List.set_cons_zero,List.set_cons_succ]
   rfl
  refine one_ (i:=13) (N:=none) (lb 15 16383) rfl rfl (one_of HT_.out (by kernel_rfl)) (by decide) (fun K hK=>?_)
  have hs61:w60.cell? ⟨gb506,0,none⟩=some (.int .i64 0):=bc BK506 0 rfl
  have hfs61:=blk_frozen BK506.out 0
  have hns61_0:=NB493_506.out
  have hns61_1:=NB503_506.out
  have hms61_0:=NB506_493.out
  have hms61_1:=NB506_503.out
  have hs62:w60.cell? ⟨gb506,1,none⟩=some (.int .i64 0):=bc BK506 1 rfl
  have hfs62:=blk_frozen BK506.out 1
  have hns62_0:=NB493_506.out
  have hns62_1:=NB503_506.out
  have hms62_0:=NB506_493.out
  have hms62_1:=NB506_503.out
  refine skip_ (w1:= ?_) (by rfl) rfl ?_ ?_
  rotate_left
  ·go_simp
   rfl
  refine hK.out _ _ ⟨((cell_far (p:=⟨gb506,_,none⟩) NB503_506.out _).trans (((cell_far (p:=⟨gb506,_,none⟩) NB503_506.out _).trans (hHeld.1)))),((cell_far (p:=⟨gb506,_,none⟩) NB503_506.out _).trans (((cell_far (p:=⟨gb506,_,none⟩) NB503_506.out _).trans (hHeld.2.1)))),((cell_far (p:=⟨gb506,_,none⟩) NB503_506.out _).trans (((cell_far (p:=⟨gb506,_,none⟩) NB503_506.out _).trans (hHeld.2.2))))⟩ (fun hHeld=>?_)
  clear hK K
  refine pq 14 (N:=some 22) (lb 15 32767) HT_ ?_
  refine done_ (done_of HT_.out (by kernel_rfl)) ?_
  have hnb63:=NB506_493.out
  have hnc63:=NB493_506.out
  have hnb64:=NB506_503.out
  have hnc64:=NB503_506.out
  have hcz65_0:w60.cell? ⟨gb506,0,none⟩=some (.int .i64 0):=bc BK506 0 rfl
  have hcz65_1:w60.cell? ⟨gb506,1,none⟩=some (.int .i64 0):=bc BK506 1 rfl
  have hfz65_0:=blk_frozen BK506.out 0
  have hfz65_1:=blk_frozen BK506.out 1
  try go_wp2_with (first|((with_reducible refine gate_dst (N:=117) rfl ?_);refine map_get rfl (.tmp 115) (.tmp 116) rfl gm x12_6 (Go.bits .or .i64 x45_2 (ji42)) x20_6 t507 true (by rfl) (by first|rfl|(simp only[hji42];rfl)) (by(with_reducible repeat(first|refine map_drewN ?_ _|refine map_drew ?_|refine map_alloc ?_ _));refine map_far ?_ NM_506.out _;(with_reducible repeat(first|refine map_drewN ?_ _|refine map_drew ?_|refine map_alloc ?_ _));refine map_far ?_ NM_506.out _;(with_reducible repeat(first|refine map_drewN ?_ _|refine map_drew ?_|refine map_alloc ?_ _));exact MB.out) A44.out ?_))
  go_roundg kj29
  case measure=>have:=HK1.out;have:=HK2.out;have:=HJ18.out;have:=HJ21.out;have:=HK5.out;have:=HK6.out;have:=HJ29.out;omega
  case rel=>exact⟨(x12_6),(wrap64 (x20_6+1)),fd,H',⟨by have:=HK1.out;have:=HK2.out;have:=HJ18.out;have:=HJ21.out;have:=HK5.out;have:=HK6.out;have:=HJ29.out;omega⟩,⟨by(with_reducible repeat(first|refine map_drewN ?_ _|refine map_drew ?_|refine map_alloc ?_ _));refine map_far ?_ NM_506.out _;(with_reducible repeat(first|refine map_drewN ?_ _|refine map_drew ?_|refine map_alloc ?_ _));refine map_far ?_ NM_506.out _;(with_reducible repeat(first|refine map_drewN ?_ _|refine map_drew ?_|refine map_alloc ?_ _));exact MB.out⟩,⟨by(with_reducible repeat(first|refine blk_drewN ?_ _|refine blk_drew ?_|refine blk_alloc ?_ _));refine blk_far ?_ NB493_506.out _;(with_reducible repeat(first|refine blk_drewN ?_ _|refine blk_drew ?_|refine blk_alloc ?_ _));refine blk_far ?_ NB493_506.out _;(with_reducible repeat(first|refine blk_drewN ?_ _|refine blk_drew ?_|refine blk_alloc ?_ _));exact BK493.out⟩,⟨by(with_reducible repeat(first|refine blk_drewN ?_ _|refine blk_drew ?_|refine blk_alloc ?_ _));refine blk_far ?_ NB503_506.out _;(with_reducible repeat(first|refine blk_drewN ?_ _|refine blk_drew ?_|refine blk_alloc ?_ _));refine blk_far ?_ NB503_506.out _;(with_reducible repeat(first|refine blk_drewN ?_ _|refine blk_drew ?_|refine blk_alloc ?_ _));exact BK503.out⟩,⟨h3 HB.out GE493.out GE503.out GE506.out⟩⟩
 rw[if_pos c46]at H
 have c46b0:decide (t505<t507)=true:=decide_eq_true c46
 clear c46
 replace H:=Option.bind_eq_some_iff.mp H
 obtain⟨t509,A470,H⟩:=H
 (try dsimp only at H)
 have A47:=Aside0.mk A470
 clear A470
 have H':=Aside0.mk H
 clear H
 try go_wp2
 have n0_:=Aside0.mk (blk_drew BK493.out)
 have mb_:=Aside0.mk (map_drew MB.out)
 have n1_:=Aside0.mk (blk_drew BK503.out)
 have n2_:=Aside0.mk (below_drew1 HB.out)
 clear BK493
 clear BK503
 clear HB
 have BK493:=n0_
 clear MB
 have MB:=mb_
 clear mb_
 have BK503:=n1_
 have HB:=n2_
 clear n0_ n1_ n2_
 refine start_ (n:=15) (S:=fun w'=>w'.cell? ⟨gb503,0,none⟩=some (.int .i64 ((rd_T63 l1 x73_5).f0))∧w'.cell? ⟨gb503,1,none⟩=some (.int .i64 ((rd_T63 l1 x73_5).f1))∧w'.cell? ⟨gb503,2,none⟩=some (.int .i64 ((rd_T63 l1 x73_5).f2))) (ds:=[]) (lb 15 0) (by kernel_rfl) rfl rfl ⟨bc BK503 0 rfl,bc BK503 1 rfl,bc BK503 2 rfl⟩ (fun hHeld=>?_);refine with_tabW impl_least.tab21 impl_least.bits21 (fun HT_ HW_=>?_)
 generalize wc.drew=w48 at MB BK493 BK503 HB hHeld⊢
 refine pq 0 (N:=some 102) (lb 15 1) HT_ ?_
 refine pq 1 (N:=some 103) (lb 15 3) HT_ ?_
 refine pq 2 (N:=some 104) (lb 15 7) HT_ ?_
 refine pq 3 (N:=some 105) (lb 15 15) HT_ ?_
 refine pq 4 (N:=some 106) (lb 15 31) HT_ ?_
 refine pq 5 (N:=some 107) (lb 15 63) HT_ ?_
 refine pq 6 (N:=some 108) (lb 15 127) HT_ ?_
 refine pq 8 (N:=some 110) (lb 15 383) HT_ ?_
 refine pq 9 (N:=some 111) (lb 15 895) HT_ ?_
 refine pq 10 (N:=some 112) (lb 15 1919) HT_ ?_
 refine tq 7 (N:=some 109) (lb 15 2047) HT_ HW_ hHeld ?_
 refine join_ (σ:=Nat) 2 (lb 15 8191) (fun s_=>[(113, .int .i64 t505),(21, .pointer (some ⟨s_,0,none⟩))]) (fun s_ w'=>(w'.cell? ⟨gb503,0,none⟩=some (.int .i64 ((rd_T63 l1 x73_5).f0))∧w'.cell? ⟨gb503,1,none⟩=some (.int .i64 ((rd_T63 l1 x73_5).f1))∧w'.cell? ⟨gb503,2,none⟩=some (.int .i64 ((rd_T63 l1 x73_5).f2)))∧(MapIs w' gm x12_6)∧(gm≠s_)∧(w'.heap[gb493]? =some (.cells #[.int .i64 a0_0, .bool a0_1] 28 (0,0)))∧(w'.heap[gb503]? =some (.cells #[.int .i64 ((rd_T63 l1 x73_5).f0), .int .i64 ((rd_T63 l1 x73_5).f1), .int .i64 ((rd_T63 l1 x73_5).f2)] 63 (0,0)))∧(w'.heap[s_]? =some (.cells #[.int .i64 0, .int .i64 0] 124 (0,0)))∧(w.heap.size≤s_)∧(w.heap.size≤s_)∧(gb493≠s_)∧(s_≠gb493)∧(gb503≠s_)∧(s_≠gb503)∧(Below w.heap.size w w')) ?_ ?_
 rotate_left
 ·intro hCont
  refine two_ (i:=11) (j:=12) (Ni:=some 113) (Nj:=some 21) (lb 15 4095) (lb 15 6143) rfl rfl rfl rfl (two_of HT_.out (by kernel_rfl)) (by decide) (by decide) (fun K hK=>?_) (fun K hK=>?_)
  ·skip
   refine goesLeg_ (legV_below HLG.out (h2 HB.out GE493.out GE503.out)) (.tmp 108) (by rfl) rfl rfl rfl (by first|rfl|(simp only[List.map_toArray,List.map_cons,List.map_nil];rfl)) A43.out ?_
   intro w49 hb
   have n0_:=Aside0.mk (blk_below (g:=gb493) (o:= .cells #[.int .i64 a0_0, .bool a0_1] 28 (0,0)) (bm BK493.out) hb)
   have mb_:=Aside0.mk (map_below (g:=gm) (m:=x12_6) (by(with_reducible repeat(first|refine map_drewN ?_ _|refine map_drew ?_|refine map_alloc ?_ _));exact MB.out) hb)
   have n1_:=Aside0.mk (blk_below (g:=gb503) (o:= .cells #[.int .i64 ((rd_T63 l1 x73_5).f0), .int .i64 ((rd_T63 l1 x73_5).f1), .int .i64 ((rd_T63 l1 x73_5).f2)] 63 (0,0)) (bm BK503.out) hb)
   have n2_:=Aside0.mk (below_step (h2 HB.out GE493.out GE503.out) hb)
   clear BK493
   clear BK503
   clear HB
   have BK493:=n0_
   clear MB
   have MB:=mb_
   clear mb_
   have BK503:=n1_
   have HB:=n2_
   clear n0_ n1_ n2_
   (try clear hb)
   (try clear hb2)
   (try clear hk)
   (try clear hi)
   refine hK.out _ _ ⟨bc BK503 0 rfl,bc BK503 1 rfl,bc BK503 2 rfl⟩ (fun hHeld=>?_)
   clear hK K
   refine norm_ (a':= ?_) ?_ ?_
   rotate_left
   ·show Act.put _ (some 113) _=_
    simp only[ap]
    rfl
   refine one_ (i:=12) (N:=some 21) (lb 15 8191) rfl rfl (one_of HT_.out (by kernel_rfl)) (by decide) (fun K hK=>?_)
   refine box_step ?hg (N:=21) ?hd (cs:= #[.int .i64 0, .int .i64 0]) (t:=124) ?hr ?_;(case hd=>rfl);(case hg=>rfl);(case hr=>first|(go_simp;done)|(go_simp;rfl))
   intro gb506 hg w50 hbox hb
   have n0_:=Aside0.mk (blk_below (g:=gb493) (o:= .cells #[.int .i64 a0_0, .bool a0_1] 28 (0,0)) (bm BK493.out) hb)
   have mb_:=Aside0.mk (map_below (g:=gm) (m:=x12_6) (by(with_reducible repeat(first|refine map_drewN ?_ _|refine map_drew ?_|refine map_alloc ?_ _));exact MB.out) hb)
   have n1_:=Aside0.mk (blk_below (g:=gb503) (o:= .cells #[.int .i64 ((rd_T63 l1 x73_5).f0), .int .i64 ((rd_T63 l1 x73_5).f1), .int .i64 ((rd_T63 l1 x73_5).f2)] 63 (0,0)) (bm BK503.out) hb)
   have n2_:=Aside0.mk (below_step (h2 HB.out GE493.out GE503.out) hb)
   have n3_:=Aside0.mk (hbox)
   have n4_:=Aside0.mk ((by rw[hg];exact(below_size (h2 HB.out GE493.out GE503.out)):w.heap.size≤gb506))
   have n5_:=Aside0.mk ((by rw[hg];exact(below_size (h2 HB.out GE493.out GE503.out)):w.heap.size≤gb506))
   have n6_:=Aside0.mk ((by rw[hg];exact Nat.ne_of_lt (blk_lt (g:=gb493) (o:= .cells #[.int .i64 a0_0, .bool a0_1] 28 (0,0)) (bm BK493.out)):gb493≠gb506))
   have nm_:=Aside0.mk ((by rw[hg];exact Nat.ne_of_lt (map_lt (g:=gm) (m:=x12_6) (by(with_reducible repeat(first|refine map_drewN ?_ _|refine map_drew ?_|refine map_alloc ?_ _));exact MB.out))):gm≠gb506)
   have n7_:=Aside0.mk ((by rw[hg];exact Nat.ne_of_gt (blk_lt (g:=gb493) (o:= .cells #[.int .i64 a0_0, .bool a0_1] 28 (0,0)) (bm BK493.out)):gb506≠gb493))
   have n8_:=Aside0.mk ((by rw[hg];exact Nat.ne_of_lt (blk_lt (g:=gb503) (o:= .cells #[.int .i64 ((rd_T63 l1 x73_5).f0), .int .i64 ((rd_T63 l1 x73_5).f1), .int .i64 ((rd_T63 l1 x73_5).f2)] 63 (0,0)) (bm BK503.out)):gb503≠gb506))
   have n9_:=Aside0.mk ((by rw[hg];exact Nat.ne_of_gt (blk_lt (g:=gb503) (o:= .cells #[.int .i64 ((rd_T63 l1 x73_5).f0), .int .i64 ((rd_T63 l1 x73_5).f1), .int .i64 ((rd_T63 l1 x73_5).f2)] 63 (0,0)) (bm BK503.out)):gb506≠gb503))
   clear BK493
   clear BK503
   clear HB
   have BK493:=n0_
   clear MB
   have MB:=mb_
   clear mb_
   have BK503:=n1_
   have HB:=n2_
   have BK506:=n3_
   have GW506:=n4_
   have GE506:=n5_
   have NB493_506:=n6_
   have NM_506:=nm_
   clear nm_
   have NB506_493:=n7_
   have NB503_506:=n8_
   have NB506_503:=n9_
   clear n0_ n1_ n2_ n3_ n4_ n5_ n6_ n7_ n8_ n9_
   clear hb hbox hg
   refine hK.out _ _ ⟨bc BK503 0 rfl,bc BK503 1 rfl,bc BK503 2 rfl⟩ (fun hHeld=>?_)
   clear hK K
   refine norm_ (a':= ?_) ?_ ?_
   rotate_left
   ·show Act.put _ (some 21) _=_
    simp only[ap]
    rfl
   exact norm_ (by simp only[putAll,Act.put,List.setIfInBounds_toArray,List.set_cons_zero,List.set_cons_succ]) (hCont (gb506) _ ⟨hHeld,(by(with_reducible repeat(first|refine map_drewN ?_ _|refine map_drew ?_|refine map_alloc ?_ _));exact MB.out),NM_506.out,(bm BK493.out),(bm BK503.out),(bm BK506.out),GW506.out,GE506.out,NB493_506.out,NB506_493.out,NB503_506.out,NB506_503.out,(h3 HB.out GE493.out GE503.out GE506.out)⟩)
  skip
  refine box_step ?hg (N:=21) ?hd (cs:= #[.int .i64 0, .int .i64 0]) (t:=124) ?hr ?_;(case hd=>rfl);(case hg=>rfl);(case hr=>first|(go_simp;done)|(go_simp;rfl))
  intro gb506 hg w49 hbox hb
  have n0_:=Aside0.mk (blk_below (g:=gb493) (o:= .cells #[.int .i64 a0_0, .bool a0_1] 28 (0,0)) (bm BK493.out) hb)
  have mb_:=Aside0.mk (map_below (g:=gm) (m:=x12_6) (by(with_reducible repeat(first|refine map_drewN ?_ _|refine map_drew ?_|refine map_alloc ?_ _));exact MB.out) hb)
  have n1_:=Aside0.mk (blk_below (g:=gb503) (o:= .cells #[.int .i64 ((rd_T63 l1 x73_5).f0), .int .i64 ((rd_T63 l1 x73_5).f1), .int .i64 ((rd_T63 l1 x73_5).f2)] 63 (0,0)) (bm BK503.out) hb)
  have n2_:=Aside0.mk (below_step (h2 HB.out GE493.out GE503.out) hb)
  have n3_:=Aside0.mk (hbox)
  have n4_:=Aside0.mk ((by rw[hg];exact(below_size (h2 HB.out GE493.out GE503.out)):w.heap.size≤gb506))
  have n5_:=Aside0.mk ((by rw[hg];exact(below_size (h2 HB.out GE493.out GE503.out)):w.heap.size≤gb506))
  have n6_:=Aside0.mk ((by rw[hg];exact Nat.ne_of_lt (blk_lt (g:=gb493) (o:= .cells #[.int .i64 a0_0, .bool a0_1] 28 (0,0)) (bm BK493.out)):gb493≠gb506))
  have nm_:=Aside0.mk ((by rw[hg];exact Nat.ne_of_lt (map_lt (g:=gm) (m:=x12_6) (by(with_reducible repeat(first|refine map_drewN ?_ _|refine map_drew ?_|refine map_alloc ?_ _));exact MB.out))):gm≠gb506)
  have n7_:=Aside0.mk ((by rw[hg];exact Nat.ne_of_gt (blk_lt (g:=gb493) (o:= .cells #[.int .i64 a0_0, .bool a0_1] 28 (0,0)) (bm BK493.out)):gb506≠gb493))
  have n8_:=Aside0.mk ((by rw[hg];exact Nat.ne_of_lt (blk_lt (g:=gb503) (o:= .cells #[.int .i64 ((rd_T63 l1 x73_5).f0), .int .i64 ((rd_T63 l1 x73_5).f1), .int .i64 ((rd_T63 l1 x73_5).f2)] 63 (0,0)) (bm BK503.out)):gb503≠gb506))
  have n9_:=Aside0.mk ((by rw[hg];exact Nat.ne_of_gt (blk_lt (g:=gb503) (o:= .cells #[.int .i64 ((rd_T63 l1 x73_5).f0), .int .i64 ((rd_T63 l1 x73_5).f1), .int .i64 ((rd_T63 l1 x73_5).f2)] 63 (0,0)) (bm BK503.out)):gb506≠gb503))
  clear BK493
  clear BK503
  clear HB
  have BK493:=n0_
  clear MB
  have MB:=mb_
  clear mb_
  have BK503:=n1_
  have HB:=n2_
  have BK506:=n3_
  have GW506:=n4_
  have GE506:=n5_
  have NB493_506:=n6_
  have NM_506:=nm_
  clear nm_
  have NB506_493:=n7_
  have NB503_506:=n8_
  have NB506_503:=n9_
  clear n0_ n1_ n2_ n3_ n4_ n5_ n6_ n7_ n8_ n9_
  clear hb hbox hg
  refine hK.out _ _ ⟨bc BK503 0 rfl,bc BK503 1 rfl,bc BK503 2 rfl⟩ (fun hHeld=>?_)
  clear hK K
  refine norm_ (a':= ?_) ?_ ?_
  rotate_left
  ·show Act.put _ (some 21) _=_
   simp only[ap]
   rfl
  refine one_ (i:=11) (N:=some 113) (lb 15 8191) rfl rfl (one_of HT_.out (by kernel_rfl)) (by decide) (fun K hK=>?_)
  refine goesLeg_ (legV_below HLG.out (h3 HB.out GE493.out GE503.out GE506.out)) (.tmp 108) (by rfl) rfl rfl rfl (by first|rfl|(simp only[List.map_toArray,List.map_cons,List.map_nil];rfl)) A43.out ?_
  intro w50 hb
  have n0_:=Aside0.mk (blk_below (g:=gb493) (o:= .cells #[.int .i64 a0_0, .bool a0_1] 28 (0,0)) (bm BK493.out) hb)
  have mb_:=Aside0.mk (map_below (g:=gm) (m:=x12_6) (by(with_reducible repeat(first|refine map_drewN ?_ _|refine map_drew ?_|refine map_alloc ?_ _));exact MB.out) hb)
  have n1_:=Aside0.mk (blk_below (g:=gb503) (o:= .cells #[.int .i64 ((rd_T63 l1 x73_5).f0), .int .i64 ((rd_T63 l1 x73_5).f1), .int .i64 ((rd_T63 l1 x73_5).f2)] 63 (0,0)) (bm BK503.out) hb)
  have n2_:=Aside0.mk (blk_below (g:=gb506) (o:= .cells #[.int .i64 0, .int .i64 0] 124 (0,0)) (bm BK506.out) hb)
  have n3_:=Aside0.mk (below_step (h3 HB.out GE493.out GE503.out GE506.out) hb)
  clear BK493
  clear BK503
  clear BK506
  clear HB
  have BK493:=n0_
  clear MB
  have MB:=mb_
  clear mb_
  have BK503:=n1_
  have BK506:=n2_
  have HB:=n3_
  clear n0_ n1_ n2_ n3_
  (try clear hb)
  (try clear hb2)
  (try clear hk)
  (try clear hi)
  refine hK.out _ _ ⟨bc BK503 0 rfl,bc BK503 1 rfl,bc BK503 2 rfl⟩ (fun hHeld=>?_)
  clear hK K
  refine norm_ (a':= ?_) ?_ ?_
  rotate_left
  ·show Act.put _ (some 113) _=_
   simp only[ap]
   rfl
  exact norm_ (by simp only[putAll,Act.put,List.setIfInBounds_toArray,List.set_cons_zero,List.set_cons_succ]) (hCont (gb506) _ ⟨hHeld,(by(with_reducible repeat(first|refine map_drewN ?_ _|refine map_drew ?_|refine map_alloc ?_ _));exact MB.out),NM_506.out,(bm BK493.out),(bm BK503.out),(bm BK506.out),GW506.out,GE506.out,NB493_506.out,NB506_493.out,NB503_506.out,NB506_503.out,(h3 HB.out GE493.out GE503.out GE506.out)⟩)
 rintro gb506 w51 ⟨hS_,hm_,hmn_,h0_,h1_,h2_,h3_,h4_,h5_,h6_,h7_,h8_,h9_⟩
 have n0_:Aside0 (w51.heap[gb493]? =some (.cells #[.int .i64 a0_0, .bool a0_1] 28 (0,0))):=⟨h0_⟩
 have mb_:=Aside0.mk hm_
 have n1_:Aside0 (w51.heap[gb503]? =some (.cells #[.int .i64 ((rd_T63 l1 x73_5).f0), .int .i64 ((rd_T63 l1 x73_5).f1), .int .i64 ((rd_T63 l1 x73_5).f2)] 63 (0,0))):=⟨h1_⟩
 have n2_:Aside0 (w51.heap[gb506]? =some (.cells #[.int .i64 0, .int .i64 0] 124 (0,0))):=⟨h2_⟩
 have n3_:Aside0 (w.heap.size≤gb506):=⟨h3_⟩
 have n4_:Aside0 (w.heap.size≤gb506):=⟨h4_⟩
 have n5_:Aside0 (gb493≠gb506):=⟨h5_⟩
 have nm_:=Aside0.mk hmn_
 have n6_:Aside0 (gb506≠gb493):=⟨h6_⟩
 have n7_:Aside0 (gb503≠gb506):=⟨h7_⟩
 have n8_:Aside0 (gb506≠gb503):=⟨h8_⟩
 have n9_:Aside0 (Below w.heap.size w w51):=⟨h9_⟩
 clear BK493
 clear BK503
 clear HB
 clear h0_ h1_ h2_ h3_ h4_ h5_ h6_ h7_ h8_ h9_
 have BK493:=n0_
 clear MB
 have MB:=mb_
 clear mb_
 have BK503:=n1_
 have BK506:=n2_
 have GW506:=n3_
 have GE506:=n4_
 have NB493_506:=n5_
 have NM_506:=nm_
 clear nm_
 have NB506_493:=n6_
 have NB503_506:=n7_
 have NB506_503:=n8_
 have HB:=n9_
 clear n0_ n1_ n2_ n3_ n4_ n5_ n6_ n7_ n8_ n9_
 have hHeld:w51.cell? ⟨gb503,0,none⟩=some (.int .i64 ((rd_T63 l1 x73_5).f0))∧w51.cell? ⟨gb503,1,none⟩=some (.int .i64 ((rd_T63 l1 x73_5).f1))∧w51.cell? ⟨gb503,2,none⟩=some (.int .i64 ((rd_T63 l1 x73_5).f2)):=hS_
 refine norm_ (a':= ?_) ?_ ?_
 rotate_left
 ·simp only[putAll,Act.put,List.setIfInBounds_toArray,List.set_cons_zero,List.set_cons_succ]
  rfl
 refine one_ (i:=13) (N:=none) (lb 15 16383) rfl rfl (one_of HT_.out (by kernel_rfl)) (by decide) (fun K hK=>?_)
 have hs52:w51.cell? ⟨gb506,0,none⟩=some (.int .i64 0):=bc BK506 0 rfl
 have hfs52:=blk_frozen BK506.out 0
 have hns52_0:=NB493_506.out
 have hns52_1:=NB503_506.out
 have hms52_0:=NB506_493.out
 have hms52_1:=NB506_503.out
 have hs53:w51.cell? ⟨gb506,1,none⟩=some (.int .i64 0):=bc BK506 1 rfl
 have hfs53:=blk_frozen BK506.out 1
 have hns53_0:=NB493_506.out
 have hns53_1:=NB503_506.out
 have hms53_0:=NB506_493.out
 have hms53_1:=NB506_503.out
 refine skip_ (w1:= ?_) (by rfl) rfl ?_ ?_
 rotate_left
 ·go_simp
  rfl
 refine hK.out _ _ ⟨((cell_far (p:=⟨gb506,_,none⟩) NB503_506.out _).trans (((cell_far (p:=⟨gb506,_,none⟩) NB503_506.out _).trans (hHeld.1)))),((cell_far (p:=⟨gb506,_,none⟩) NB503_506.out _).trans (((cell_far (p:=⟨gb506,_,none⟩) NB503_506.out _).trans (hHeld.2.1)))),((cell_far (p:=⟨gb506,_,none⟩) NB503_506.out _).trans (((cell_far (p:=⟨gb506,_,none⟩) NB503_506.out _).trans (hHeld.2.2))))⟩ (fun hHeld=>?_)
 clear hK K
 refine pq 14 (N:=some 22) (lb 15 32767) HT_ ?_
 refine done_ (done_of HT_.out (by kernel_rfl)) ?_
 have hnb54:=NB506_493.out
 have hnc54:=NB493_506.out
 have hnb55:=NB506_503.out
 have hnc55:=NB503_506.out
 have hcz56_0:w51.cell? ⟨gb506,0,none⟩=some (.int .i64 0):=bc BK506 0 rfl
 have hcz56_1:w51.cell? ⟨gb506,1,none⟩=some (.int .i64 0):=bc BK506 1 rfl
 have hfz56_0:=blk_frozen BK506.out 0
 have hfz56_1:=blk_frozen BK506.out 1
 try go_wp2_with (first|((with_reducible refine gate_dst (N:=117) rfl ?_);refine map_get rfl (.tmp 115) (.tmp 116) rfl gm x12_6 (Go.bits .or .i64 x45_2 (ji42)) x20_6 t507 true (by rfl) (by first|rfl|(simp only[hji42];rfl)) (by(with_reducible repeat(first|refine map_drewN ?_ _|refine map_drew ?_|refine map_alloc ?_ _));refine map_far ?_ NM_506.out _;(with_reducible repeat(first|refine map_drewN ?_ _|refine map_drew ?_|refine map_alloc ?_ _));refine map_far ?_ NM_506.out _;(with_reducible repeat(first|refine map_drewN ?_ _|refine map_drew ?_|refine map_alloc ?_ _));exact MB.out) A44.out ?_)|(at_mapUpdate;refine map_put rfl (.tmp 127) (.tmp 128) (.tmp 129) (.inl rfl) rfl gm x12_6 t509 (Go.bits .or .i64 x45_2 (ji42)) x20_6 t505 (by rfl) (by first|rfl|(simp only[hji42];rfl)) (by first|rfl|(simp only[hji42];rfl)) (by(with_reducible repeat(first|refine map_drewN ?_ _|refine map_drew ?_|refine map_alloc ?_ _));refine map_far ?_ NM_506.out _;(with_reducible repeat(first|refine map_drewN ?_ _|refine map_drew ?_|refine map_alloc ?_ _));refine map_far ?_ NM_506.out _;(with_reducible repeat(first|refine map_drewN ?_ _|refine map_drew ?_|refine map_alloc ?_ _));exact MB.out) A47.out ?_;intro wp hM hgr;have q0_:=Aside0.mk hM;have q1_:=Aside0.mk (below_put (h3 HB.out GE493.out GE503.out GE506.out) hgr GM.out);have r0_:=Aside0.mk (blk_grown (o:=(.cells #[.int .i64 a0_0, .bool a0_1] 28 (0,0))) (by(with_reducible repeat(first|refine blk_drewN ?_ _|refine blk_drew ?_|refine blk_alloc ?_ _));refine blk_far ?_ NB493_506.out _;(with_reducible repeat(first|refine blk_drewN ?_ _|refine blk_drew ?_|refine blk_alloc ?_ _));refine blk_far ?_ NB493_506.out _;(with_reducible repeat(first|refine blk_drewN ?_ _|refine blk_drew ?_|refine blk_alloc ?_ _));exact BK493.out) hgr (fun e_=>NG493.out (Option.some.inj e_)));have r1_:=Aside0.mk (blk_grown (o:=(.cells #[.int .i64 ((rd_T63 l1 x73_5).f0), .int .i64 ((rd_T63 l1 x73_5).f1), .int .i64 ((rd_T63 l1 x73_5).f2)] 63 (0,0))) (by(with_reducible repeat(first|refine blk_drewN ?_ _|refine blk_drew ?_|refine blk_alloc ?_ _));refine blk_far ?_ NB503_506.out _;(with_reducible repeat(first|refine blk_drewN ?_ _|refine blk_drew ?_|refine blk_alloc ?_ _));refine blk_far ?_ NB503_506.out _;(with_reducible repeat(first|refine blk_drewN ?_ _|refine blk_drew ?_|refine blk_alloc ?_ _));exact BK503.out) hgr (fun e_=>NGM.out (Option.some.inj e_)));clear MB;clear HB;clear BK493;clear BK503;have MB:=q0_;have HB:=q1_;have BK493:=r0_;have BK503:=r1_;clear q0_ q1_ r0_ r1_;clear hM hgr))
 go_roundg kj29
 case measure=>have:=HK1.out;have:=HK2.out;have:=HJ18.out;have:=HJ21.out;have:=HK5.out;have:=HK6.out;have:=HJ29.out;omega
 case rel=>exact⟨(t509),(wrap64 (x20_6+1)),fd,H',⟨by have:=HK1.out;have:=HK2.out;have:=HJ18.out;have:=HJ21.out;have:=HK5.out;have:=HK6.out;have:=HJ29.out;omega⟩,⟨by(with_reducible repeat(first|refine map_drewN ?_ _|refine map_drew ?_|refine map_alloc ?_ _));exact MB.out⟩,⟨bm BK493.out⟩,⟨bm BK503.out⟩,⟨h3 HB.out GE493.out GE503.out GE506.out⟩⟩
end Go.Proofs.Ythagkpoinjpmfaa.QFnReaches
