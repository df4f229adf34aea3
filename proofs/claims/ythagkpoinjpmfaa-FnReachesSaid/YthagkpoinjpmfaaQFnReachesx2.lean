/- Functions that the law FnReaches comes to, and their walks: no condition but those named. -/
import Derived.Test.YthagkpoinjpmfaaQFnReachesx0
import Derived.Test.YthagkpoinjpmfaaQFnReachesx1
namespace Go.Proofs.Ythagkpoinjpmfaa.QFnReaches
open Go.RowKit Go.Proofs.YthagkpoinjpmfaaW.PrintWords Go.Proofs.YthagkpoinjpmfaaW.PrintLast Go.Proofs.YthagkpoinjpmfaaW.PrintMore Go.Proofs.Ythagkpoinjpmfaa.Short
attribute [local go_sem] max2_int min2_int max_two min_two max_three min_three max_four min_four
set_option linter.unusedVariables false
set_option linter.unusedSimpArgs false
section
open Kd
def spec_l7End.f (a0_0:Int) (a0_1:Bool) (a1_0:Int) (a1_1:Int) (a1_2:Int) (a2:Int):Option (Int):=(spec_l2Gap.f a0_0 a0_1 a1_0 a2).bind fun t127=>(if(wrap64 (a1_1-t127))<0 then(some (-1))else((spec_l1Least.f (wrap64 (a0_0-1)) (wrap64 (a2+(wrap64 (a1_1-t127))))).bind fun t128=>(some t128)))
def spec_l7End.T1:Bool × List (List Nat × List Nat):=(true,[([],[]),([0],[0]),([],[]),([],[]),([3],[3]),([],[]),([2,4,5],[2,4,5]),([1,6],[1,6]),([7,6,0,1,2,3,4,5,6,7],[7])])
def spec_l7End.B1:List Nat:=[0,1,0,0,8,0,60,127,255]
theorem spec_l7End.tab1:rtab .any (opsOf Try.f98 1)=spec_l7End.T1:=by kernel_rfl
theorem spec_l7End.bits1:waitsOk spec_l7End.T1.2 spec_l7End.B1=true:=by kernel_rfl
set_option maxHeartbeats 8000000 in
set_option maxRecDepth 100000 in
theorem spec_l7End.calls (a0_0:Int) (a0_1:Bool) (a1_0:Int) (a1_1:Int) (a1_2:Int) (a2:Int) (r:Int) (w:World) (h:spec_l7End.f a0_0 a0_1 a1_0 a1_1 a1_2 a2=some r):
  Calls Try.prog 98 #[.agg #[.int .i64 a0_0,.bool a0_1],.agg #[.int .i64 a1_0,.int .i64 a1_1,.int .i64 a1_2],.int .i64 a2] w fun e w'=>e= .returned (.int .i64 r)∧Below w.heap.size w w':=by
 have hu28:=Try.underlying28
 have hu63:=Try.underlying63
 have HB:=Aside0.mk (Below.refl w.heap.size w)
 unfold spec_l7End.f at h
 have H:=h
 clear h
 obtain⟨t127,A4,H⟩:=bd H;(try dsimp only at H)
 by_cases c5: (wrap64 (a1_1-t127))<0
 ·rw[if_pos c5]at H
  have c5b0:decide ((wrap64 (a1_1-t127))<0)=true:=decide_eq_true c5
  clear c5
  obtain rfl:=Option.some.inj H
  go_enter Try.func98,Try.ntmps98
  try go_wp2_with (first|(refine bx 3 #[.int .i64 a0_0,.bool a0_1] 28 ?_;intro gb125 hg w6 hbox hb;have BK125:=ak hbox;have GW125:=gw HB hg;have GE125:=gw HB hg;replace HB:=bs HB hb;clear hb hbox hg)|(refine bx 4 #[.int .i64 a1_0,.int .i64 a1_1,.int .i64 a1_2] 63 ?_;intro gb126 hg w7 hbox hb;have BK126:=ak hbox;have GW126:=ak ((by rw[hg];exact(below_size (h1 HB.out GE125.out)):w.heap.size≤gb126));have GE126:=ak ((by rw[hg];exact(below_size (h1 HB.out GE125.out)):w.heap.size≤gb126));replace HB:=ak (below_step (h1 HB.out GE125.out) hb);have NB125_126:=nl BK125 hg;have NB126_125:=ng BK125 hg;replace BK125:=kb BK125 hb;clear hb hbox hg))
  replace BK125:=ak (blk_drew BK125.out)
  replace BK126:=ak (blk_drew BK126.out)
  replace HB:=ak (below_drew1 HB.out)
  refine start_ (n:=9) (S:=fun w'=>w'.cell? ⟨gb126,0,none⟩=some (.int .i64 a1_0)∧w'.cell? ⟨gb126,1,none⟩=some (.int .i64 a1_1)∧w'.cell? ⟨gb126,2,none⟩=some (.int .i64 a1_2)∧w'.cell? ⟨gb125,0,none⟩=some (.int .i64 a0_0)∧w'.cell? ⟨gb125,1,none⟩=some (.bool a0_1)) (ds:=[]) (lb 9 0) (by kernel_rfl) rfl rfl ⟨bc BK126 0 rfl,bc BK126 1 rfl,bc BK126 2 rfl,bc BK125 0 rfl,bc BK125 1 rfl⟩ (fun hHeld=>?_);refine with_tabW spec_l7End.tab1 spec_l7End.bits1 (fun HT_ HW_=>?_)
  generalize w7.drew=w8 at BK125 BK126 HB hHeld⊢
  refine pq 0 (N:=some 8) (lb 9 1) HT_ ?_
  refine pq 3 (N:=some 11) (lb 9 9) HT_ ?_
  refine pq 5 (N:=some 13) (lb 9 41) HT_ ?_
  refine tq 1 (N:=some 9) (lb 9 43) HT_ HW_ hHeld ?_
  refine tq 2 (N:=some 10) (lb 9 47) HT_ HW_ hHeld ?_
  refine tq 4 (N:=some 12) (lb 9 63) HT_ HW_ hHeld ?_
  refine one_ (i:=6) (N:=some 14) (lb 9 127) rfl rfl (one_of HT_.out (by kernel_rfl)) (by decide) (fun K hK=>?_)
  refine goes_ Try.func103 (by kernel_rfl) rfl #[.agg #[.int .i64 a0_0,.bool a0_1],.int .i64 a1_0,.int .i64 a2] (by rfl) rfl rfl gl ?_
  with_reducible refine(spec_l2Gap.calls a0_0 a0_1 a1_0 a2 t127 _ A4.out).mono ?_
  rintro e w9 ⟨rfl,hb⟩
  refine⟨_,rfl,?_⟩
  replace BK125:=kb BK125 hb
  replace BK126:=kb BK126 hb
  replace HB:=ak (below_step (h2 HB.out GE125.out GE126.out) hb)
  (try clear hb)
  (try clear hb2)
  (try clear hk)
  (try clear hi)
  refine hK.out _ _ ⟨bc BK126 0 rfl,bc BK126 1 rfl,bc BK126 2 rfl,bc BK125 0 rfl,bc BK125 1 rfl⟩ (fun hHeld=>?_)
  clear hK K
  refine norm_ (a':=?_) ?_ ?_
  rotate_left
  ·show Act.put _ (some 14) _=_
   simp only[ap]
   rfl
  refine pq 7 (N:=some 15) (lb 9 255) HT_ ?_
  refine pq 8 (N:=some 7) (lb 9 511) HT_ ?_
  refine done_ (done_of HT_.out (by kernel_rfl)) ?_
  try go_wp2
  go_ret
  exact⟨fe,h2 HB.out GE125.out GE126.out⟩
 rw[if_neg c5]at H
 have c5b0:decide ((wrap64 (a1_1-t127))<0)=false:=decide_eq_false c5
 clear c5
 obtain⟨t128,A10,H⟩:=bd H;(try dsimp only at H)
 obtain rfl:=Option.some.inj H
 go_enter Try.func98,Try.ntmps98
 try go_wp2_with (first|(refine bx 3 #[.int .i64 a0_0,.bool a0_1] 28 ?_;intro gb125 hg w11 hbox hb;have BK125:=ak hbox;have GW125:=gw HB hg;have GE125:=gw HB hg;replace HB:=bs HB hb;clear hb hbox hg)|(refine bx 4 #[.int .i64 a1_0,.int .i64 a1_1,.int .i64 a1_2] 63 ?_;intro gb126 hg w12 hbox hb;have BK126:=ak hbox;have GW126:=ak ((by rw[hg];exact(below_size (h1 HB.out GE125.out)):w.heap.size≤gb126));have GE126:=ak ((by rw[hg];exact(below_size (h1 HB.out GE125.out)):w.heap.size≤gb126));replace HB:=ak (below_step (h1 HB.out GE125.out) hb);have NB125_126:=nl BK125 hg;have NB126_125:=ng BK125 hg;replace BK125:=kb BK125 hb;clear hb hbox hg))
 replace BK125:=ak (blk_drew BK125.out)
 replace BK126:=ak (blk_drew BK126.out)
 replace HB:=ak (below_drew1 HB.out)
 refine start_ (n:=9) (S:=fun w'=>w'.cell? ⟨gb126,0,none⟩=some (.int .i64 a1_0)∧w'.cell? ⟨gb126,1,none⟩=some (.int .i64 a1_1)∧w'.cell? ⟨gb126,2,none⟩=some (.int .i64 a1_2)∧w'.cell? ⟨gb125,0,none⟩=some (.int .i64 a0_0)∧w'.cell? ⟨gb125,1,none⟩=some (.bool a0_1)) (ds:=[]) (lb 9 0) (by kernel_rfl) rfl rfl ⟨bc BK126 0 rfl,bc BK126 1 rfl,bc BK126 2 rfl,bc BK125 0 rfl,bc BK125 1 rfl⟩ (fun hHeld=>?_);refine with_tabW spec_l7End.tab1 spec_l7End.bits1 (fun HT_ HW_=>?_)
 generalize w12.drew=w13 at BK125 BK126 HB hHeld⊢
 refine pq 0 (N:=some 8) (lb 9 1) HT_ ?_
 refine pq 3 (N:=some 11) (lb 9 9) HT_ ?_
 refine pq 5 (N:=some 13) (lb 9 41) HT_ ?_
 refine tq 1 (N:=some 9) (lb 9 43) HT_ HW_ hHeld ?_
 refine tq 2 (N:=some 10) (lb 9 47) HT_ HW_ hHeld ?_
 refine tq 4 (N:=some 12) (lb 9 63) HT_ HW_ hHeld ?_
 refine one_ (i:=6) (N:=some 14) (lb 9 127) rfl rfl (one_of HT_.out (by kernel_rfl)) (by decide) (fun K hK=>?_)
 refine goes_ Try.func103 (by kernel_rfl) rfl #[.agg #[.int .i64 a0_0,.bool a0_1],.int .i64 a1_0,.int .i64 a2] (by rfl) rfl rfl gl ?_
 with_reducible refine(spec_l2Gap.calls a0_0 a0_1 a1_0 a2 t127 _ A4.out).mono ?_
 rintro e w14 ⟨rfl,hb⟩
 refine⟨_,rfl,?_⟩
 replace BK125:=kb BK125 hb
 replace BK126:=kb BK126 hb
 replace HB:=ak (below_step (h2 HB.out GE125.out GE126.out) hb)
 (try clear hb)
 (try clear hb2)
 (try clear hk)
 (try clear hi)
 refine hK.out _ _ ⟨bc BK126 0 rfl,bc BK126 1 rfl,bc BK126 2 rfl,bc BK125 0 rfl,bc BK125 1 rfl⟩ (fun hHeld=>?_)
 clear hK K
 refine norm_ (a':=?_) ?_ ?_
 rotate_left
 ·show Act.put _ (some 14) _=_
  simp only[ap]
  rfl
 refine pq 7 (N:=some 15) (lb 9 255) HT_ ?_
 refine pq 8 (N:=some 7) (lb 9 511) HT_ ?_
 refine done_ (done_of HT_.out (by kernel_rfl)) ?_
 have hnb15:=NB125_126.out
 have hnc15:=NB126_125.out
 have hcz16_0:=bc BK125 0 rfl
 have hcz16_1:=bc BK125 1 rfl
 have hfz16_0:=bf BK125 0
 have hfz16_1:=bf BK125 1
 try go_wp2_with (first|(refine gs 24 Try.func108 #[.int .i64 (wrap64 (a0_0-1)),.int .i64 (wrap64 (a2+(wrap64 (a1_1-t127))))] ?_;(with_reducible refine(spec_l1Least.calls (wrap64 (a0_0-1)) (wrap64 (a2+(wrap64 (a1_1-t127)))) t128 _ A10.out).mono ?_);rintro e w' ⟨rfl,⟨nd,rfl⟩⟩;refine⟨_,rfl,?_⟩))
 go_ret
 exact⟨fe,h2 HB.out GE125.out GE126.out⟩
def spec_l7Reach.l0:Nat→List (S63)→List Int→Int→Int→Int→Bool→Option (Int)
 | 0,_,_,_,_,_,_=>none
 | k+1,x1,x2,x3,x9,x130000,x130001=>if x9<(x2.length:Int)then(if 0≤x9 then(if 0≤(rd x2 x9)then(if(rd x2 x9)<(x1.length:Int)then((spec_l7End.f x130000 x130001 ((rd_T63 x1 (rd x2 x9)).f0) ((rd_T63 x1 (rd x2 x9)).f1) ((rd_T63 x1 (rd x2 x9)).f2) x3).bind fun t132=>((spec_l1Most.f x3 t132).bind fun t133=>(spec_l7Reach.l0 k x1 x2 t133 (wrap64 (x9+1)) x130000 x130001)))else(none))else(none))else(none))else(some x3)
def spec_l7Reach.f (k:Nat) (a0_0:Int) (a0_1:Bool) (l1:List (S63)) (l2:List Int) (a3:Int):Option (Int):=spec_l7Reach.l0 k l1 l2 a3 0 a0_0 a0_1
theorem spec_l7Reach.mono_l:∀ k,(∀ y0 y1 y2 y3 y4 y5,LeO (spec_l7Reach.l0 k y0 y1 y2 y3 y4 y5) (spec_l7Reach.l0 (k+1) y0 y1 y2 y3 y4 y5))
 | 0=>by
  refine ?_<;>(intros;intro r h;simp[spec_l7Reach.l0]at h)
 | k+1=>by
  have ih0:=spec_l7Reach.mono_l k
  refine ?_<;>intros<;>unfold spec_l7Reach.l0<;>(repeat' (with_reducible first|exact ih0 ..|exact LeO.refl _|exact LeO.none _|refine LeO.ite ?_ ?_|refine LeO.bind ?_ (fun _=>?_)))
theorem spec_l7Reach.mono:∀ a0 a1 a2 a3 a4 k,LeO (spec_l7Reach.f k a0 a1 a2 a3 a4) (spec_l7Reach.f (k+1) a0 a1 a2 a3 a4):=by
 intro a0 a1 a2 a3 a4 k
 have ih0:=spec_l7Reach.mono_l k
 unfold spec_l7Reach.f
 repeat' (with_reducible first|exact ih0 ..|exact LeO.refl _|exact LeO.none _|refine LeO.ite ?_ ?_|refine LeO.bind ?_ (fun _=>?_))
def spec_l7Reach.T4:Bool × List (List Nat × List Nat):=(true,[([],[]),([],[]),([],[]),([],[]),([],[]),([3,4],[3,4]),([5],[5]),([2,6],[2,6]),([7],[7]),([],[]),([1,8,9],[1,8,9]),([0,10,10],[0,10]),([11,11,0,1,2,3,4,5,6,7,8,9,10,11],[0,9,11])])
def spec_l7Reach.B4:List Nat:=[0,0,0,0,0,24,56,124,252,0,1022,2047,4095]
theorem spec_l7Reach.tab4:rtab .any (opsOf Try.f72 4)=spec_l7Reach.T4:=by kernel_rfl
theorem spec_l7Reach.bits4:waitsOk spec_l7Reach.T4.2 spec_l7Reach.B4=true:=by kernel_rfl
set_option maxHeartbeats 8000000 in
set_option maxRecDepth 100000 in
theorem spec_l7Reach.calls (k:Nat) (a0_0:Int) (a0_1:Bool) (A1:Option Addr) (c1:Nat) (l1:List (S63)) (A2:Option Addr) (c2:Nat) (l2:List Int) (a3:Int) (r:Int) (w:World) (hr1:Kd.C k63 w A1 l1.length l1) (hc1:l1.length≤c1) (hr2:Kd.C (Kd.int .i64) w A2 l2.length l2) (hc2:l2.length≤c2) (h:spec_l7Reach.f k a0_0 a0_1 l1 l2 a3=some r):
  Calls Try.prog 72 #[.agg #[.int .i64 a0_0,.bool a0_1],.slice A1 l1.length c1,.slice A2 l2.length c2,.int .i64 a3] w fun e w'=>e= .returned (.int .i64 r)∧Below w.heap.size w w':=by
 have hu28:=Try.underlying28
 have hu63:=Try.underlying63
 have HR1:=Aside0.mk hr1
 have HC1:=Aside0.mk hc1
 clear hr1 hc1
 have HR2:=Aside0.mk hr2
 have HC2:=Aside0.mk hc2
 clear hr2 hc2
 have HB:=Aside0.mk (Below.refl w.heap.size w)
 unfold spec_l7Reach.f at h
 have H:=h
 clear h
 have H':=Aside0.mk H
 clear H
 go_enter Try.func72,Try.ntmps72
 go_wp2_with (first|(refine bx 4 #[.int .i64 a0_0,.bool a0_1] 28 ?_;intro gb129 hg w5 hbox hb;have BK129:=ak hbox;have GW129:=gw HB hg;have GE129:=gw HB hg;replace HB:=bs HB hb;clear hb hbox hg))
 go_loopg [3,9] k (fun kq v3 v9 w'=>∃ (x3_1:Int) (x9_1:Int),v3= .int .i64 x3_1∧v9= .int .i64 x9_1∧Aside0 (spec_l7Reach.l0 kq l1 l2 x3_1 x9_1 a0_0 a0_1=some r)∧Aside0 (kq≤k)∧Aside0 (w'.heap[gb129]? =some (.cells #[.int .i64 a0_0,.bool a0_1] 28 (0,0)))∧Aside0 (Below w.heap.size w w'))
 case atStart=>exact⟨(a3),(0),fd,fd,H',⟨Nat.le_refl _⟩,⟨bm BK129.out⟩,⟨h1 HB.out GE129.out⟩⟩
 clear H'
 try clear c1
 try clear c2
 try clear p2
 obtain⟨x3_1,x9_1,rfl,rfl,HA,HK1,BK129,HB⟩:=hrel
 obtain _|k1:=gk;·cases HA.out
 obtain⟨H⟩:=HA
 simp only[spec_l7Reach.l0]at H
 by_cases c6:x9_1<(l2.length:Int)
 rotate_left
 ·rw[if_neg c6]at H
  have c6b0:decide (x9_1<(l2.length:Int))=false:=decide_eq_false c6
  clear c6
  obtain rfl:=Option.some.inj H
  go_wp2
  go_ret
  exact⟨fe,h1 HB.out GE129.out⟩
 rw[if_pos c6]at H
 have c6b0:decide (x9_1<(l2.length:Int))=true:=decide_eq_true c6
 clear c6
 obtain⟨c7,H⟩:=gi H
 have c7b0:decide (0≤x9_1)=true:=decide_eq_true c7
 clear c7
 obtain⟨c8,H⟩:=gi H
 have c8b0:decide (0≤(rd l2 x9_1))=true:=decide_eq_true c8
 clear c8
 obtain⟨c9,H⟩:=gi H
 have c9b0:decide ((rd l2 x9_1)<(l1.length:Int))=true:=decide_eq_true c9
 clear c9
 obtain⟨t132,A10,H⟩:=bd H;(try dsimp only at H)
 obtain⟨t133,A11,H⟩:=bd H;(try dsimp only at H)
 have H':=Aside0.mk H
 clear H
 try go_wp2
 replace BK129:=ak (blk_drew BK129.out)
 replace HB:=ak (below_drew1 HB.out)
 have p130:0≤(x9_1:Int):=od
 have q130:x9_1<(l2.length:Int):=od
 obtain⟨ad130,e130,hx130_0⟩:=Kd.at_int HR2.out x9_1 p130 q130
 have hw130_0:=hx130_0
 cases e130
 replace hx130_0:=hc HB hx130_0
 replace p130:=eq_true p130
 replace q130:=eq_true q130
 have p131:0≤((rd l2 x9_1):Int):=od
 have q131: (rd l2 x9_1)<(l1.length:Int):=od
 obtain⟨ad131,e131,hx131_0,hx131_1,hx131_2⟩:=at_T63 HR1.out (rd l2 x9_1) p131 q131
 have hw131_2:=hx131_2
 have hw131_1:=hx131_1
 have hw131_0:=hx131_0
 cases e131
 replace hx131_0:=hc HB hx131_0
 replace hx131_1:=hc HB hx131_1
 replace hx131_2:=hc HB hx131_2
 replace p131:=eq_true p131
 replace q131:=eq_true q131
 refine start_ (n:=13) (S:=fun w'=>w'.cell? ⟨gb129,0,none⟩=some (.int .i64 a0_0)∧w'.cell? ⟨gb129,1,none⟩=some (.bool a0_1)∧w'.cell? (ad130.add (x9_1).toNat)=some (.int .i64 (rd l2 x9_1))∧w'.cell? (ad131.add (((rd l2 x9_1)).toNat*3))=some (.int .i64 ((rd_T63 l1 (rd l2 x9_1)).f0))∧w'.cell? ⟨(ad131.add (((rd l2 x9_1)).toNat*3)).block,(ad131.add (((rd l2 x9_1)).toNat*3)).off+1,none⟩=some (.int .i64 ((rd_T63 l1 (rd l2 x9_1)).f1))∧w'.cell? ⟨(ad131.add (((rd l2 x9_1)).toNat*3)).block,(ad131.add (((rd l2 x9_1)).toNat*3)).off+2,none⟩=some (.int .i64 ((rd_T63 l1 (rd l2 x9_1)).f2))) (ds:=[]) (lb 13 0) (by kernel_rfl) rfl rfl ⟨bc BK129 0 rfl,bc BK129 1 rfl,((HB.out.cell (World.block_lt_of_cell? w _ hw130_0)).trans hw130_0),((HB.out.cell (World.block_lt_of_cell? w _ hw131_0)).trans hw131_0),((HB.out.cell (World.block_lt_of_cell? w _ hw131_1)).trans hw131_1),((HB.out.cell (World.block_lt_of_cell? w _ hw131_2)).trans hw131_2)⟩ (fun hHeld=>?_);refine with_tabW spec_l7Reach.tab4 spec_l7Reach.bits4 (fun HT_ HW_=>?_)
 generalize wr.drew=w12 at BK129 HB hx130_0 hx131_0 hx131_1 hx131_2 hHeld⊢
 refine pq 0 (N:=some 16) (lb 13 1) HT_ ?_
 refine pq 2 (N:=some 18) (lb 13 5) HT_ ?_
 refine pq 3 (N:=some 19) (lb 13 13) HT_ ?_
 refine pq 4 (N:=some 20) (lb 13 29) HT_ ?_
 refine pq 5 (N:=some 21) (lb 13 61) HT_ ?_
 refine pq 9 (N:=some 25) (lb 13 573) HT_ ?_
 refine tq 1 (N:=some 17) (lb 13 575) HT_ HW_ hHeld ?_
 refine tq 6 (N:=some 22) (lb 13 639) HT_ HW_ hHeld ?_
 refine pq 7 (N:=some 23) (lb 13 767) HT_ ?_
 refine tq 8 (N:=some 24) (lb 13 1023) HT_ HW_ hHeld ?_
 refine one_ (i:=10) (N:=some 26) (lb 13 2047) rfl rfl (one_of HT_.out (by kernel_rfl)) (by decide) (fun K hK=>?_)
 refine goes_ Try.func98 (by kernel_rfl) rfl #[.agg #[.int .i64 a0_0,.bool a0_1],.agg #[.int .i64 ((rd_T63 l1 (rd l2 x9_1)).f0),.int .i64 ((rd_T63 l1 (rd l2 x9_1)).f1),.int .i64 ((rd_T63 l1 (rd l2 x9_1)).f2)],.int .i64 x3_1] (by rfl) rfl rfl gl ?_
 with_reducible refine(spec_l7End.calls a0_0 a0_1 ((rd_T63 l1 (rd l2 x9_1)).f0) ((rd_T63 l1 (rd l2 x9_1)).f1) ((rd_T63 l1 (rd l2 x9_1)).f2) x3_1 t132 _ A10.out).mono ?_
 rintro e w13 ⟨rfl,hb⟩
 refine⟨_,rfl,?_⟩
 replace BK129:=kb BK129 hb
 replace HB:=ak (below_step (h1 HB.out GE129.out) hb)
 (try clear hb)
 (try clear hb2)
 (try clear hk)
 (try clear hi)
 refine hK.out _ _ ⟨bc BK129 0 rfl,bc BK129 1 rfl,((HB.out.cell (World.block_lt_of_cell? w _ hw130_0)).trans hw130_0),((HB.out.cell (World.block_lt_of_cell? w _ hw131_0)).trans hw131_0),((HB.out.cell (World.block_lt_of_cell? w _ hw131_1)).trans hw131_1),((HB.out.cell (World.block_lt_of_cell? w _ hw131_2)).trans hw131_2)⟩ (fun hHeld=>?_)
 clear hK K
 refine norm_ (a':=?_) ?_ ?_
 rotate_left
 ·show Act.put _ (some 26) _=_
  simp only[ap]
  rfl
 refine one_ (i:=11) (N:=some 27) (lb 13 4095) rfl rfl (one_of HT_.out (by kernel_rfl)) (by decide) (fun K hK=>?_)
 refine goes_ Try.func101 (by kernel_rfl) rfl #[.int .i64 x3_1,.int .i64 t132] (by rfl) rfl rfl gl ?_
 with_reducible refine(spec_l1Most.calls x3_1 t132 t133 _ A11.out).mono ?_
 rintro e w' ⟨rfl,⟨nd,rfl⟩⟩
 refine⟨_,rfl,?_⟩
 refine hK.out _ _ ⟨bc BK129 0 rfl,bc BK129 1 rfl,((HB.out.cell (World.block_lt_of_cell? w _ hw130_0)).trans hw130_0),((HB.out.cell (World.block_lt_of_cell? w _ hw131_0)).trans hw131_0),((HB.out.cell (World.block_lt_of_cell? w _ hw131_1)).trans hw131_1),((HB.out.cell (World.block_lt_of_cell? w _ hw131_2)).trans hw131_2)⟩ (fun hHeld=>?_)
 clear hK K
 refine norm_ (a':=?_) ?_ ?_
 rotate_left
 ·show Act.put _ (some 27) _=_
  simp only[ap]
  rfl
 refine pq 12 (N:=some 3) (lb 13 8191) HT_ ?_
 refine done_ (done_of HT_.out (by kernel_rfl)) ?_
 try go_wp2
 go_roundg k1
 case measure=>have:=HK1.out;omega
 case rel=>exact⟨(t133),(wrap64 (x9_1+1)),fd,fd,H',⟨by have:=HK1.out;omega⟩,⟨bm BK129.out⟩,⟨h1 HB.out GE129.out⟩⟩
end
end Go.Proofs.Ythagkpoinjpmfaa.QFnReaches
