/- Functions that the law FnReaches comes to, and their walks: no condition but those named. -/
import Derived.Test.YthagkpoinjpmfaaQFnReachesx0
import Derived.Test.YthagkpoinjpmfaaQFnReachesx4
namespace Go.Proofs.Ythagkpoinjpmfaa.QFnReaches
open Go.RowKit Go.Proofs.YthagkpoinjpmfaaW.PrintWords Go.Proofs.YthagkpoinjpmfaaW.PrintLast Go.Proofs.YthagkpoinjpmfaaW.PrintMore Go.Proofs.Ythagkpoinjpmfaa.Short
attribute [local go_sem] max2_int min2_int max_two min_two max_three min_three max_four min_four
set_option linter.unusedVariables false
set_option linter.unusedSimpArgs false
section
open Kd
def impl_Road_legEnd.f (a0_0:Int) (a0_1:Bool) (a1_0:Int) (a1_1:Int) (a1_2:Int) (a2:Int):Option (Int × Bool):=(impl_Road_gap.f a0_0 a0_1 a1_0 a2).bind fun t188=>(some (mn (wrap64 (a0_0-1)) (wrap64 (a2+(mx 0 (wrap64 (a1_1-t188))))),decide ((wrap64 (a1_1-t188))≥0)))
def impl_Road_legEnd.T1:Bool × List (List Nat × List Nat):=(true,[([],[]),([0],[0]),([],[]),([],[]),([3],[3]),([],[]),([2,4,5],[2,4,5]),([1,6],[1,6]),([7,6,0,1,2,3,4,5,6,7],[7])])
def impl_Road_legEnd.B1:List Nat:=[0,1,0,0,8,0,60,127,255]
theorem impl_Road_legEnd.tab1:rtab .any (opsOf Try.f96 1)=impl_Road_legEnd.T1:=by kernel_rfl
theorem impl_Road_legEnd.bits1:waitsOk impl_Road_legEnd.T1.2 impl_Road_legEnd.B1=true:=by kernel_rfl
set_option maxHeartbeats 8000000 in
set_option maxRecDepth 100000 in
theorem impl_Road_legEnd.calls (a0_0:Int) (a0_1:Bool) (a1_0:Int) (a1_1:Int) (a1_2:Int) (a2:Int) (r1:Int) (r2:Bool) (w:World) (h:impl_Road_legEnd.f a0_0 a0_1 a1_0 a1_1 a1_2 a2=some (r1,r2)):
  Calls Try.prog 96 #[.agg #[.int .i64 a0_0,.bool a0_1],.agg #[.int .i64 a1_0,.int .i64 a1_1,.int .i64 a1_2],.int .i64 a2] w fun e w'=>e= .returned (.tuple #[.int .i64 r1,.bool r2])∧Below w.heap.size w w':=by
 have hu28:=Try.underlying28
 have hu63:=Try.underlying63
 have HB:=Aside0.mk (Below.refl w.heap.size w)
 unfold impl_Road_legEnd.f at h
 have H:=h
 clear h
 obtain⟨t188,A4,H⟩:=bd H;(try dsimp only at H)
 generalize hji5: (mx 0 (wrap64 (a1_1-t188)))=ji5 at H
 (try rw[hji5]at A4)
 (try(have hji5l:0≤ji5:=by(rw[←hji5];unfold mx;(repeat' split)<;>omega)))
 (try(have hji5m:0≤ji5:=by omega))
 have hji5_: (if 0<(wrap64 (a1_1-t188))then(wrap64 (a1_1-t188))else 0)=ji5:=hji5
 generalize hji6: (mn (wrap64 (a0_0-1)) (wrap64 (a2+(ji5))))=ji6 at H
 (try rw[hji6]at A4)
 have hji6_: (if(wrap64 (a2+(ji5)))<(wrap64 (a0_0-1))then(wrap64 (a2+(ji5)))else(wrap64 (a0_0-1)))=ji6:=hji6
 simp only[Option.some.injEq,Prod.mk.injEq]at H
 obtain⟨rfl,rfl⟩:=H
 go_enter Try.func96,Try.ntmps96
 try go_wp2_with (first|(refine bx 3 #[.int .i64 a0_0,.bool a0_1] 28 ?_;intro gb186 hg w7 hbox hb;have BK186:=ak hbox;have GW186:=gw HB hg;have GE186:=gw HB hg;replace HB:=bs HB hb;clear hb hbox hg)|(refine bx 4 #[.int .i64 a1_0,.int .i64 a1_1,.int .i64 a1_2] 63 ?_;intro gb187 hg w8 hbox hb;have BK187:=ak hbox;have GW187:=ak ((by rw[hg];exact(below_size (h1 HB.out GE186.out)):w.heap.size≤gb187));have GE187:=ak ((by rw[hg];exact(below_size (h1 HB.out GE186.out)):w.heap.size≤gb187));replace HB:=ak (below_step (h1 HB.out GE186.out) hb);have NB186_187:=nl BK186 hg;have NB187_186:=ng BK186 hg;replace BK186:=kb BK186 hb;clear hb hbox hg))
 replace BK186:=ak (blk_drew BK186.out)
 replace BK187:=ak (blk_drew BK187.out)
 replace HB:=ak (below_drew1 HB.out)
 refine start_ (n:=9) (S:=fun w'=>w'.cell? ⟨gb187,0,none⟩=some (.int .i64 a1_0)∧w'.cell? ⟨gb187,1,none⟩=some (.int .i64 a1_1)∧w'.cell? ⟨gb187,2,none⟩=some (.int .i64 a1_2)∧w'.cell? ⟨gb186,0,none⟩=some (.int .i64 a0_0)∧w'.cell? ⟨gb186,1,none⟩=some (.bool a0_1)) (ds:=[]) (lb 9 0) (by kernel_rfl) rfl rfl ⟨bc BK187 0 rfl,bc BK187 1 rfl,bc BK187 2 rfl,bc BK186 0 rfl,bc BK186 1 rfl⟩ (fun hHeld=>?_);refine with_tabW impl_Road_legEnd.tab1 impl_Road_legEnd.bits1 (fun HT_ HW_=>?_)
 generalize w8.drew=w9 at BK186 BK187 HB hHeld⊢
 refine pq 0 (N:=some 9) (lb 9 1) HT_ ?_
 refine pq 3 (N:=some 12) (lb 9 9) HT_ ?_
 refine pq 5 (N:=some 14) (lb 9 41) HT_ ?_
 refine tq 1 (N:=some 10) (lb 9 43) HT_ HW_ hHeld ?_
 refine tq 2 (N:=some 11) (lb 9 47) HT_ HW_ hHeld ?_
 refine tq 4 (N:=some 13) (lb 9 63) HT_ HW_ hHeld ?_
 refine one_ (i:=6) (N:=some 15) (lb 9 127) rfl rfl (one_of HT_.out (by kernel_rfl)) (by decide) (fun K hK=>?_)
 refine goes_ Try.func89 (by kernel_rfl) rfl #[.agg #[.int .i64 a0_0,.bool a0_1],.int .i64 a1_0,.int .i64 a2] (by rfl) rfl rfl gl ?_
 with_reducible refine(impl_Road_gap.calls a0_0 a0_1 a1_0 a2 t188 _ A4.out).mono ?_
 rintro e w10 ⟨rfl,hb⟩
 refine⟨_,rfl,?_⟩
 replace BK186:=kb BK186 hb
 replace BK187:=kb BK187 hb
 replace HB:=ak (below_step (h2 HB.out GE186.out GE187.out) hb)
 (try clear hb)
 (try clear hb2)
 (try clear hk)
 (try clear hi)
 refine hK.out _ _ ⟨bc BK187 0 rfl,bc BK187 1 rfl,bc BK187 2 rfl,bc BK186 0 rfl,bc BK186 1 rfl⟩ (fun hHeld=>?_)
 clear hK K
 refine norm_ (a':=?_) ?_ ?_
 rotate_left
 ·show Act.put _ (some 15) _=_
  simp only[ap]
  rfl
 refine pq 7 (N:=some 16) (lb 9 255) HT_ ?_
 refine pq 8 (N:=some 8) (lb 9 511) HT_ ?_
 refine done_ (done_of HT_.out (by kernel_rfl)) ?_
 have hnb11:=NB186_187.out
 have hnc11:=NB187_186.out
 have hcz12_0:=bc BK186 0 rfl
 have hcz12_1:=bc BK186 1 rfl
 have hfz12_0:=bf BK186 0
 have hfz12_1:=bf BK186 1
 try go_wp2
 go_ret2
 exact⟨by first|rfl|(simp[errW_none,errW_some]<;>rfl)|(simp only[←hji5,←hji6];first|rfl|(simp[errW_none,errW_some]<;>rfl))|(simp[*,errW_none,errW_some]<;>rfl),h2 HB.out GE186.out GE187.out⟩
def impl_Road_orderReach.l0:Nat→List (S63)→Int→List Int→Int→Int→Int→Bool→Option (Int)
 | 0,_,_,_,_,_,_,_=>none
 | k+1,x1,x3,x11,x12,x13,x190000,x190001=>if x13<x12 then(if 0≤x13 then(if x13<(x11.length:Int)then(if 0≤(rd x11 x13)then(if(rd x11 x13)<(x1.length:Int)then((impl_Road_legEnd.f x190000 x190001 ((rd_T63 x1 (rd x11 x13)).f0) ((rd_T63 x1 (rd x11 x13)).f1) ((rd_T63 x1 (rd x11 x13)).f2) x3).bind fun bt192=>(impl_Road_orderReach.l0 k x1 bt192.1 x11 x12 (wrap64 (x13+1)) x190000 x190001))else(none))else(none))else(none))else(none))else(some x3)
def impl_Road_orderReach.f (k:Nat) (a0_0:Int) (a0_1:Bool) (l1:List (S63)) (l2:List Int) (a3:Int):Option (Int):=impl_Road_orderReach.l0 k l1 a3 l2 (l2.length:Int) 0 a0_0 a0_1
theorem impl_Road_orderReach.mono_l:∀ k,(∀ y0 y1 y2 y3 y4 y5 y6,LeO (impl_Road_orderReach.l0 k y0 y1 y2 y3 y4 y5 y6) (impl_Road_orderReach.l0 (k+1) y0 y1 y2 y3 y4 y5 y6))
 | 0=>by
  refine ?_<;>(intros;intro r h;simp[impl_Road_orderReach.l0]at h)
 | k+1=>by
  have ih0:=impl_Road_orderReach.mono_l k
  refine ?_<;>intros<;>unfold impl_Road_orderReach.l0<;>(repeat' (with_reducible first|exact ih0 ..|exact LeO.refl _|exact LeO.none _|refine LeO.ite ?_ ?_|refine LeO.bind ?_ (fun _=>?_)))
theorem impl_Road_orderReach.mono:∀ a0 a1 a2 a3 a4 k,LeO (impl_Road_orderReach.f k a0 a1 a2 a3 a4) (impl_Road_orderReach.f (k+1) a0 a1 a2 a3 a4):=by
 intro a0 a1 a2 a3 a4 k
 have ih0:=impl_Road_orderReach.mono_l k
 unfold impl_Road_orderReach.f
 repeat' (with_reducible first|exact ih0 ..|exact LeO.refl _|exact LeO.none _|refine LeO.ite ?_ ?_|refine LeO.bind ?_ (fun _=>?_))
def impl_Road_orderReach.T4:Bool × List (List Nat × List Nat):=(true,[([],[]),([],[]),([],[]),([1,2],[1,2]),([3],[3]),([],[]),([0,4,5],[0,4,5]),([6],[6]),([7],[7]),([7],[7]),([8,6,0,1,2,3,4,5,6,7,8],[5,8])])
def impl_Road_orderReach.B4:List Nat:=[0,0,0,6,14,0,63,127,255,255,511]
theorem impl_Road_orderReach.tab4:rtab .any (opsOf Try.f85 4)=impl_Road_orderReach.T4:=by kernel_rfl
theorem impl_Road_orderReach.bits4:waitsOk impl_Road_orderReach.T4.2 impl_Road_orderReach.B4=true:=by kernel_rfl
set_option maxHeartbeats 8000000 in
set_option maxRecDepth 100000 in
theorem impl_Road_orderReach.calls (k:Nat) (a0_0:Int) (a0_1:Bool) (A1:Option Addr) (c1:Nat) (l1:List (S63)) (A2:Option Addr) (c2:Nat) (l2:List Int) (a3:Int) (r:Int) (w:World) (hr1:Kd.C k63 w A1 l1.length l1) (hc1:l1.length≤c1) (hr2:Kd.C (Kd.int .i64) w A2 l2.length l2) (hc2:l2.length≤c2) (h:impl_Road_orderReach.f k a0_0 a0_1 l1 l2 a3=some r):
  Calls Try.prog 85 #[.agg #[.int .i64 a0_0,.bool a0_1],.slice A1 l1.length c1,.slice A2 l2.length c2,.int .i64 a3] w fun e w'=>e= .returned (.int .i64 r)∧Below w.heap.size w w':=by
 have hu28:=Try.underlying28
 have hu63:=Try.underlying63
 have HR1:=Aside0.mk hr1
 have HC1:=Aside0.mk hc1
 clear hr1 hc1
 have HR2:=Aside0.mk hr2
 have HC2:=Aside0.mk hc2
 clear hr2 hc2
 have HB:=Aside0.mk (Below.refl w.heap.size w)
 unfold impl_Road_orderReach.f at h
 have H:=h
 clear h
 have H':=Aside0.mk H
 clear H
 go_enter Try.func85,Try.ntmps85
 go_wp2_with (first|(refine bx 4 #[.int .i64 a0_0,.bool a0_1] 28 ?_;intro gb189 hg w5 hbox hb;have BK189:=ak hbox;have GW189:=gw HB hg;have GE189:=gw HB hg;replace HB:=bs HB hb;clear hb hbox hg))
 go_loopg [3,13] k (fun kq v3 v13 w'=>∃ (x3_1:Int) (x13_1:Int),v3= .int .i64 x3_1∧v13= .int .i64 x13_1∧Aside0 (impl_Road_orderReach.l0 kq l1 x3_1 l2 (l2.length:Int) x13_1 a0_0 a0_1=some r)∧Aside0 (kq≤k)∧Aside0 (w'.heap[gb189]? =some (.cells #[.int .i64 a0_0,.bool a0_1] 28 (0,0)))∧Aside0 (Below w.heap.size w w'))
 case atStart=>exact⟨(a3),(0),fd,fd,H',⟨Nat.le_refl _⟩,⟨bm BK189.out⟩,⟨h1 HB.out GE189.out⟩⟩
 clear H'
 try clear c1
 try clear c2
 try clear p2
 obtain⟨x3_1,x13_1,rfl,rfl,HA,HK1,BK189,HB⟩:=hrel
 obtain _|k1:=gk;·cases HA.out
 obtain⟨H⟩:=HA
 simp only[impl_Road_orderReach.l0]at H
 by_cases c6:x13_1<(l2.length:Int)
 rotate_left
 ·rw[if_neg c6]at H
  have c6b0:decide (x13_1<(l2.length:Int))=false:=decide_eq_false c6
  clear c6
  obtain rfl:=Option.some.inj H
  go_wp2
  go_ret
  exact⟨fe,h1 HB.out GE189.out⟩
 rw[if_pos c6]at H
 have c6b0:decide (x13_1<(l2.length:Int))=true:=decide_eq_true c6
 clear c6
 obtain⟨c7,H⟩:=gi H
 have c7b0:decide (0≤x13_1)=true:=decide_eq_true c7
 clear c7
 obtain⟨c8,H⟩:=gi H
 have c8b0:decide (x13_1<(l2.length:Int))=true:=decide_eq_true c8
 clear c8
 obtain⟨c9,H⟩:=gi H
 have c9b0:decide (0≤(rd l2 x13_1))=true:=decide_eq_true c9
 clear c9
 obtain⟨c10,H⟩:=gi H
 have c10b0:decide ((rd l2 x13_1)<(l1.length:Int))=true:=decide_eq_true c10
 clear c10
 obtain⟨⟨t192,t193⟩,A11,H⟩:=bd H;(try dsimp only at H)
 have H':=Aside0.mk H
 clear H
 have p190:0≤(x13_1:Int):=od
 have q190:x13_1<(l2.length:Int):=od
 obtain⟨ad190,e190,hx190_0⟩:=Kd.at_int HR2.out x13_1 p190 q190
 cases e190
 replace hx190_0:=hc HB hx190_0
 replace p190:=eq_true p190
 replace q190:=eq_true q190
 try go_wp2
 replace BK189:=ak (blk_drew BK189.out)
 replace HB:=ak (below_drew1 HB.out)
 have p191:0≤((rd l2 x13_1):Int):=od
 have q191: (rd l2 x13_1)<(l1.length:Int):=od
 obtain⟨ad191,e191,hx191_0,hx191_1,hx191_2⟩:=at_T63 HR1.out (rd l2 x13_1) p191 q191
 have hw191_2:=hx191_2
 have hw191_1:=hx191_1
 have hw191_0:=hx191_0
 cases e191
 replace hx191_0:=hc HB hx191_0
 replace hx191_1:=hc HB hx191_1
 replace hx191_2:=hc HB hx191_2
 replace p191:=eq_true p191
 replace q191:=eq_true q191
 refine start_ (n:=11) (S:=fun w'=>w'.cell? ⟨gb189,0,none⟩=some (.int .i64 a0_0)∧w'.cell? ⟨gb189,1,none⟩=some (.bool a0_1)∧w'.cell? (ad191.add (((rd l2 x13_1)).toNat*3))=some (.int .i64 ((rd_T63 l1 (rd l2 x13_1)).f0))∧w'.cell? ⟨(ad191.add (((rd l2 x13_1)).toNat*3)).block,(ad191.add (((rd l2 x13_1)).toNat*3)).off+1,none⟩=some (.int .i64 ((rd_T63 l1 (rd l2 x13_1)).f1))∧w'.cell? ⟨(ad191.add (((rd l2 x13_1)).toNat*3)).block,(ad191.add (((rd l2 x13_1)).toNat*3)).off+2,none⟩=some (.int .i64 ((rd_T63 l1 (rd l2 x13_1)).f2))) (ds:=[]) (lb 11 0) (by kernel_rfl) rfl rfl ⟨bc BK189 0 rfl,bc BK189 1 rfl,((HB.out.cell (World.block_lt_of_cell? w _ hw191_0)).trans hw191_0),((HB.out.cell (World.block_lt_of_cell? w _ hw191_1)).trans hw191_1),((HB.out.cell (World.block_lt_of_cell? w _ hw191_2)).trans hw191_2)⟩ (fun hHeld=>?_);refine with_tabW impl_Road_orderReach.tab4 impl_Road_orderReach.bits4 (fun HT_ HW_=>?_)
 generalize wr.drew=w12 at BK189 HB hx191_0 hx191_1 hx191_2 hHeld⊢
 refine pq 1 (N:=some 19) (lb 11 2) HT_ ?_
 refine pq 2 (N:=some 20) (lb 11 6) HT_ ?_
 refine pq 3 (N:=some 21) (lb 11 14) HT_ ?_
 refine pq 5 (N:=some 23) (lb 11 46) HT_ ?_
 refine tq 0 (N:=some 18) (lb 11 47) HT_ HW_ hHeld ?_
 refine tq 4 (N:=some 22) (lb 11 63) HT_ HW_ hHeld ?_
 refine one_ (i:=6) (N:=some 24) (lb 11 127) rfl rfl (one_of HT_.out (by kernel_rfl)) (by decide) (fun K hK=>?_)
 refine goes_ Try.func96 (by kernel_rfl) rfl #[.agg #[.int .i64 a0_0,.bool a0_1],.agg #[.int .i64 ((rd_T63 l1 (rd l2 x13_1)).f0),.int .i64 ((rd_T63 l1 (rd l2 x13_1)).f1),.int .i64 ((rd_T63 l1 (rd l2 x13_1)).f2)],.int .i64 x3_1] (by rfl) rfl rfl gl ?_
 with_reducible refine(impl_Road_legEnd.calls a0_0 a0_1 ((rd_T63 l1 (rd l2 x13_1)).f0) ((rd_T63 l1 (rd l2 x13_1)).f1) ((rd_T63 l1 (rd l2 x13_1)).f2) x3_1 t192 t193 _ A11.out).mono ?_
 rintro e w13 ⟨rfl,hb⟩
 refine⟨_,rfl,?_⟩
 replace BK189:=kb BK189 hb
 replace HB:=ak (below_step (h1 HB.out GE189.out) hb)
 (try clear hb)
 (try clear hb2)
 (try clear hk)
 (try clear hi)
 refine hK.out _ _ ⟨bc BK189 0 rfl,bc BK189 1 rfl,((HB.out.cell (World.block_lt_of_cell? w _ hw191_0)).trans hw191_0),((HB.out.cell (World.block_lt_of_cell? w _ hw191_1)).trans hw191_1),((HB.out.cell (World.block_lt_of_cell? w _ hw191_2)).trans hw191_2)⟩ (fun hHeld=>?_)
 clear hK K
 refine norm_ (a':=?_) ?_ ?_
 rotate_left
 ·show Act.put _ (some 24) _=_
  simp only[ap]
  rfl
 refine pq 7 (N:=some 17) (lb 11 255) HT_ ?_
 refine pq 8 (N:=some 25) (lb 11 511) HT_ ?_
 refine pq 9 (N:=some 26) (lb 11 1023) HT_ ?_
 refine pq 10 (N:=some 3) (lb 11 2047) HT_ ?_
 refine done_ (done_of HT_.out (by kernel_rfl)) ?_
 try go_wp2
 go_roundg k1
 case measure=>have:=HK1.out;omega
 case rel=>exact⟨(t192),(wrap64 (x13_1+1)),fd,fd,H',⟨by have:=HK1.out;omega⟩,⟨bm BK189.out⟩,⟨h1 HB.out GE189.out⟩⟩
def impl_copied.f (l0:List Int):Option (List Int):=(some (([]:List Int):List Int)).bind fun y194=>(if y194.length+l0.length<17592186044416 then(some (y194++l0))else(none))
set_option maxHeartbeats 8000000 in
set_option maxRecDepth 100000 in
theorem impl_copied.calls (A0:Option Addr) (c0:Nat) (l0:List Int) (r:List Int) (w:World) (hr0:Kd.C (Kd.int .i64) w A0 l0.length l0) (hc0:l0.length≤c0) (h:impl_copied.f l0=some r):
  Calls Try.prog 106 #[.slice A0 l0.length c0] w fun e w'=>∃ v0_:Value,e= .returned (v0_)∧Kd.R (Kd.int .i64) 3 w' w.heap.size (fun _=>True) v0_ r∧Below w.heap.size w w':=by
 have HR0:=Aside0.mk hr0
 have HC0:=Aside0.mk hc0
 clear hr0 hc0
 have HB:=Aside0.mk (Below.refl w.heap.size w)
 unfold impl_copied.f at h
 have H:=h
 clear h
 obtain⟨y194,hy194⟩:∃ y_:List Int,y_=(([]:List Int)):=⟨_,rfl⟩
 replace H: (if y194.length+l0.length<17592186044416 then(some (y194++l0))else(none))=some r:=by subst hy194;first|(with_reducible exact H)|exact H
 have Ny194:=Aside0.mk hy194
 clear hy194
 obtain⟨c2,H⟩:=gi H
 have LMc2:=Aside0.mk c2
 clear c2
 generalize hy197: (y194++l0:List Int)=y197 at H
 have Ny197:=ak hy197.symm
 clear hy197
 obtain rfl:=Option.some.inj H
 go_enter Try.func106,Try.ntmps106
 go_wp2_with (first|((with_reducible refine gate_dst (N:=3) rfl ?_);refine R_lit (Kd.int .i64) _ 3 ?hg (N:=3) ?hd (xs:=([]:List Int)) (inner:=[]) (ok:=fun _=>True) (okp:=fun _=>True) ?hr ?hp (fun _ hk=>hk) trivial (Below.refl _ _) (Nat.le_refl _) (by simp) ?_;(case hd=>rfl);(case hg=>rfl);(case hr=>first|(go_simp;done)|(go_simp;rfl));(case hp=>exact(Reps.none _ _));intro v195 w3 ho4 hb hg_ hnew_;clear hg_ hnew_;(first|rw[←Ny194.out]at ho4|(simp only[Int.reduceToNat]at ho4;rw[←Ny194.out]at ho4));have HO196:=ak (R_lower ho4 (below_size (hm HB.out)));replace HB:=bs HB hb;clear hb ho4)|((with_reducible refine gate_builtin (b:=.append) (xs:=#[.tmp 3,.tmp 4]) rfl ?_);at_builtin;refine R_append_rows (Kd.int .i64) (w0:=w) w.heap.size rfl (.tmp 3) (.tmp 4) 40 3 (.int .i64 0) 8 rfl Try.underlying40 info3 rfl (by decide) (by omega) v195 y194 l0 _ _ _ (fun _=>True) (fun _=>False) rfl rfl ?aO ?aR (fun _ _ h=>h) (fun _ h=>h.elim) ?aF ?aB ?aS ?aL ?_;(case aR=>exact cm (C_below HR0.out HB.out));(case aB=>exact(hm HB.out));(case aF=>exact(fun _ _=>trivial));(case aO=>exact(rm HO196.out));(case aS=>exact(below_size (hm HB.out)));(case aL=>have:=LMc2.out;omega);intro v198 w5 ho hb hg hat;rw[←Ny197.out]at ho;replace HB:=ak hb;have HO199:=ak ho;clear HO196;clear ho hb hg hat))
 go_ret
 exact⟨_,fe,rm HO199.out,hm HB.out⟩
end
end Go.Proofs.Ythagkpoinjpmfaa.QFnReaches
