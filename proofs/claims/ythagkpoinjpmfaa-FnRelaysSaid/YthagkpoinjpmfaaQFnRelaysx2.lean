/- Functions that the law FnRelays comes to, and their walks: no condition but those named. -/
import Derived.Test.YthagkpoinjpmfaaQFnRelaysx0
namespace Go.Proofs.Ythagkpoinjpmfaa.QFnRelays
open Go.RowKit Go.Proofs.YthagkpoinjpmfaaW.PrintWords Go.Proofs.YthagkpoinjpmfaaW.PrintLast Go.Proofs.YthagkpoinjpmfaaW.PrintMore Go.Proofs.Ythagkpoinjpmfaa.Short
attribute [local go_sem] max2_int min2_int max_two min_two max_three min_three max_four min_four
set_option linter.unusedVariables false
set_option linter.unusedSimpArgs false
section
open Kd
def slices_Index_int_int.l0:Nat→List Int→Int→Int→Int→Option (Int)
 | 0,_,_,_,_=>none
 | k+1,x0,x1,x7,x8=>if x8<x7 then(if 0≤x8 then(if x8<(x0.length:Int)then(if x1=(rd x0 x8)then(some x8)else(slices_Index_int_int.l0 k x0 x1 x7 (wrap64 (x8+1))))else(none))else(none))else(some (-1))
def slices_Index_int_int.f (k:Nat) (l0:List Int) (a1:Int):Option (Int):=slices_Index_int_int.l0 k l0 a1 (l0.length:Int) 0
theorem slices_Index_int_int.mono_l:∀ k,(∀ y0 y1 y2 y3,LeO (slices_Index_int_int.l0 k y0 y1 y2 y3) (slices_Index_int_int.l0 (k+1) y0 y1 y2 y3))
 | 0=>by
  refine ?_<;>(intros;intro r h;simp[slices_Index_int_int.l0]at h)
 | k+1=>by
  have ih0:=slices_Index_int_int.mono_l k
  refine ?_<;>intros<;>unfold slices_Index_int_int.l0<;>(repeat' (with_reducible first|exact ih0 ..|exact LeO.refl _|exact LeO.none _|refine LeO.ite ?_ ?_|refine LeO.bind ?_ (fun _=>?_)))
theorem slices_Index_int_int.mono:∀ a0 a1 k,LeO (slices_Index_int_int.f k a0 a1) (slices_Index_int_int.f (k+1) a0 a1):=by
 intro a0 a1 k
 have ih0:=slices_Index_int_int.mono_l k
 unfold slices_Index_int_int.f
 repeat' (with_reducible first|exact ih0 ..|exact LeO.refl _|exact LeO.none _|refine LeO.ite ?_ ?_|refine LeO.bind ?_ (fun _=>?_))
set_option maxHeartbeats 8000000 in
set_option maxRecDepth 100000 in
theorem slices_Index_int_int.calls (k:Nat) (A0:Option Addr) (c0:Nat) (l0:List Int) (a1:Int) (r:Int) (w:World) (hr0:Kd.C (Kd.int .i64) w A0 l0.length l0) (hc0:l0.length≤c0) (h:slices_Index_int_int.f k l0 a1=some r):
  Calls Try.prog 111 #[.slice A0 l0.length c0,.int .i64 a1] w fun e w'=>e= .returned (.int .i64 r)∧Drawn0 w w':=by
 have HR0:=Aside0.mk hr0
 have HC0:=Aside0.mk hc0
 clear hr0 hc0
 unfold slices_Index_int_int.f at h
 have H:=h
 clear h
 have H':=Aside0.mk H
 clear H
 go_enter Try.func111,Try.ntmps111
 go_wp2
 go_loopg [8] k (fun kq v8 w'=>∃ (x8_1:Int),v8= .int .i64 x8_1∧Aside0 (slices_Index_int_int.l0 kq l0 a1 (l0.length:Int) x8_1=some r)∧Aside0 (kq≤k)∧Drawn0 w w')
 case atStart=>exact⟨(0),fd,H',⟨Nat.le_refl _⟩,by repeat(first|exact Drawn0.refl _|apply Drawn0.step)⟩
 clear H'
 try clear c1
 try clear p2
 obtain⟨x8_1,rfl,HA,HK1,⟨m1,rfl⟩⟩:=hrel
 obtain _|k1:=gk;·cases HA.out
 obtain⟨H⟩:=HA
 simp only[slices_Index_int_int.l0]at H
 by_cases c3:x8_1<(l0.length:Int)
 rotate_left
 ·rw[if_neg c3]at H
  have c3b0:decide (x8_1<(l0.length:Int))=false:=decide_eq_false c3
  clear c3
  obtain rfl:=Option.some.inj H
  go_wp2
  go_ret
  exact⟨by first|rfl|(simp;done)|(simp[*];done),by repeat(first|exact Drawn0.refl _|apply Drawn0.step)⟩
 rw[if_pos c3]at H
 have c3b0:decide (x8_1<(l0.length:Int))=true:=decide_eq_true c3
 clear c3
 obtain⟨c4,H⟩:=gi H
 have c4b0:decide (0≤x8_1)=true:=decide_eq_true c4
 clear c4
 obtain⟨c5,H⟩:=gi H
 have c5b0:decide (x8_1<(l0.length:Int))=true:=decide_eq_true c5
 clear c5
 by_cases c6:a1=(rd l0 x8_1)
 ·rw[if_pos c6]at H
  have c6b0: (a1==(rd l0 x8_1))=true:=beq_iff_eq.mpr c6
  have c6b1: (a1 !=(rd l0 x8_1))=false:=bne_eq_false_iff_eq.mpr c6
  clear c6
  obtain rfl:=Option.some.inj H
  have p128:0≤(x8_1:Int):=od
  have q128:x8_1<(l0.length:Int):=od
  obtain⟨ad128,e128,hx128_0⟩:=Kd.at_int HR0.out x8_1 p128 q128
  cases e128
  replace p128:=eq_true p128
  replace q128:=eq_true q128
  go_wp2
  go_ret
  exact⟨by first|rfl|(simp;done)|(simp[*];done),by repeat(first|exact Drawn0.refl _|apply Drawn0.step)⟩
 rw[if_neg c6]at H
 have c6b0: (a1==(rd l0 x8_1))=false:=beq_eq_false_iff_ne.mpr c6
 have c6b1: (a1 !=(rd l0 x8_1))=true:=bne_iff_ne.mpr c6
 have H':=Aside0.mk H
 clear H
 have p128:0≤(x8_1:Int):=od
 have q128:x8_1<(l0.length:Int):=od
 obtain⟨ad128,e128,hx128_0⟩:=Kd.at_int HR0.out x8_1 p128 q128
 cases e128
 replace p128:=eq_true p128
 replace q128:=eq_true q128
 go_wp2
 go_roundg k1
 case measure=>have:=HK1.out;omega
 case rel=>exact⟨(wrap64 (x8_1+1)),fd,H',⟨by have:=HK1.out;omega⟩,by repeat(first|exact Drawn0.refl _|apply Drawn0.step)⟩
def slices_Contains_int_int.f (k:Nat) (l0:List Int) (a1:Int):Option (Bool):=(slices_Index_int_int.f k l0 a1).bind fun t129=>(some (decide (t129≥0)))
theorem slices_Contains_int_int.mono:∀ a0 a1 k,LeO (slices_Contains_int_int.f k a0 a1) (slices_Contains_int_int.f (k+1) a0 a1):=by
 intro a0 a1 k
 unfold slices_Contains_int_int.f
 repeat' (with_reducible first|exact slices_Index_int_int.mono ..|exact LeO.refl _|exact LeO.none _|refine LeO.ite ?_ ?_|refine LeO.bind ?_ (fun _=>?_))
set_option maxHeartbeats 8000000 in
set_option maxRecDepth 100000 in
theorem slices_Contains_int_int.calls (k:Nat) (A0:Option Addr) (c0:Nat) (l0:List Int) (a1:Int) (r:Bool) (w:World) (hr0:Kd.C (Kd.int .i64) w A0 l0.length l0) (hc0:l0.length≤c0) (h:slices_Contains_int_int.f k l0 a1=some r):
  Calls Try.prog 84 #[.slice A0 l0.length c0,.int .i64 a1] w fun e w'=>e= .returned (.bool r)∧Drawn0 w w':=by
 have HR0:=Aside0.mk hr0
 have HC0:=Aside0.mk hc0
 clear hr0 hc0
 unfold slices_Contains_int_int.f at h
 have H:=h
 clear h
 obtain⟨t129,A3,H⟩:=bd H;(try dsimp only at H)
 obtain rfl:=Option.some.inj H
 go_enter Try.func84,Try.ntmps84
 go_wp2_with (first|(refine gs 7 Try.func111 #[.slice A0 l0.length c0,.int .i64 a1] ?_;(with_reducible refine(slices_Index_int_int.calls k _ _ l0 a1 t129 _ ?side1 ?side2 A3.out).mono ?_);(case side1=>repeat(first|exact HR0.out|(with_reducible refine C_alloc ?_ _)|(with_reducible refine C_drewN ?_ _)|(with_reducible refine C_drew ?_)));(case side2=>exact HC0.out);rintro e w' ⟨rfl,⟨nd,rfl⟩⟩;refine⟨_,rfl,?_⟩))
 go_ret
 exact⟨by first|rfl|(simp;done)|(simp[*];done),by repeat(first|exact Drawn0.refl _|apply Drawn0.step)⟩
def impl_Road_gap.f (a0_0:Int) (a0_1:Bool) (a1:Int) (a2:Int):Option (Int):=if a0_1=true then(some (mn (mx (wrap64 (a1-a2)) (wrap64 (a2-a1))) (wrap64 (a0_0-(mx (wrap64 (a1-a2)) (wrap64 (a2-a1)))))))else(some (mx (wrap64 (a1-a2)) (wrap64 (a2-a1))))
set_option maxHeartbeats 8000000 in
set_option maxRecDepth 100000 in
theorem impl_Road_gap.calls (a0_0:Int) (a0_1:Bool) (a1:Int) (a2:Int) (r:Int) (w:World) (h:impl_Road_gap.f a0_0 a0_1 a1 a2=some r):
  Calls Try.prog 89 #[.agg #[.int .i64 a0_0,.bool a0_1],.int .i64 a1,.int .i64 a2] w fun e w'=>e= .returned (.int .i64 r)∧Below w.heap.size w w':=by
 have hu28:=Try.underlying28
 have HB:=Aside0.mk (Below.refl w.heap.size w)
 unfold impl_Road_gap.f at h
 have H:=h
 clear h
 generalize hji4: (mx (wrap64 (a1-a2)) (wrap64 (a2-a1)))=ji4 at H
 have hji4_: (if(wrap64 (a1-a2))<(wrap64 (a2-a1))then(wrap64 (a2-a1))else(wrap64 (a1-a2)))=ji4:=hji4
 by_cases c5:a0_1=true
 rotate_left
 ·replace c5:=Bool.eq_false_iff.mpr c5
  subst c5
  rw[if_neg (show ¬(false=true)by decide)]at H
  obtain rfl:=Option.some.inj H
  go_enter Try.func89,Try.ntmps89
  go_wp2_with (first|(refine bx 3 #[.int .i64 a0_0,.bool false] 28 ?_;intro gb130 hg w9 hbox hb;have BK130:=ak hbox;have GW130:=gw HB hg;have GE130:=gw HB hg;replace HB:=bs HB hb;clear hb hbox hg;have hcz10_0:=bc BK130 0 rfl;have hcz10_1:=bc BK130 1 rfl;have hfz10_0:=bf BK130 0;have hfz10_1:=bf BK130 1))
  go_ret
  exact⟨by first|rfl|(simp[errW_none,errW_some]<;>rfl)|(simp only[←hji4];first|rfl|(simp[errW_none,errW_some]<;>rfl))|(simp[*,errW_none,errW_some]<;>rfl),h1 HB.out GE130.out⟩
 subst c5
 rw[if_pos rfl]at H
 generalize hji6: (mn (ji4) (wrap64 (a0_0-(ji4))))=ji6 at H
 have hji6_: (if(wrap64 (a0_0-(ji4)))<(ji4)then(wrap64 (a0_0-(ji4)))else(ji4))=ji6:=hji6
 obtain rfl:=Option.some.inj H
 go_enter Try.func89,Try.ntmps89
 go_wp2_with (first|(refine bx 3 #[.int .i64 a0_0,.bool true] 28 ?_;intro gb130 hg w7 hbox hb;have BK130:=ak hbox;have GW130:=gw HB hg;have GE130:=gw HB hg;replace HB:=bs HB hb;clear hb hbox hg;have hcz8_0:=bc BK130 0 rfl;have hcz8_1:=bc BK130 1 rfl;have hfz8_0:=bf BK130 0;have hfz8_1:=bf BK130 1))
 go_ret
 exact⟨by first|rfl|(simp[errW_none,errW_some]<;>rfl)|(simp only[←hji4,←hji6];first|rfl|(simp[errW_none,errW_some]<;>rfl))|(simp[*,errW_none,errW_some]<;>rfl),h1 HB.out GE130.out⟩
def impl_Road_legEnd.f (a0_0:Int) (a0_1:Bool) (a1_0:Int) (a1_1:Int) (a1_2:Int) (a2:Int):Option (Int × Bool):=(impl_Road_gap.f a0_0 a0_1 a1_0 a2).bind fun t133=>(some (mn (wrap64 (a0_0-1)) (wrap64 (a2+(mx 0 (wrap64 (a1_1-t133))))),decide ((wrap64 (a1_1-t133))≥0)))
def impl_Road_legEnd.T1:Bool × List (List Nat × List Nat):=(true,[([],[]),([0],[0]),([],[]),([],[]),([3],[3]),([],[]),([2,4,5],[2,4,5]),([1,6],[1,6]),([7,6,0,1,2,3,4,5,6,7],[7])])
def impl_Road_legEnd.B1:List Nat:=[0,1,0,0,8,0,60,127,255]
theorem impl_Road_legEnd.tab1:rtab .any (opsOf Try.f96 1)=impl_Road_legEnd.T1:=by kernel_rfl
theorem impl_Road_legEnd.bits1:waitsOk impl_Road_legEnd.T1.2 impl_Road_legEnd.B1=true:=by kernel_rfl
set_option maxHeartbeats 8000000 in
set_option maxRecDepth 100000 in
theorem impl_Road_legEnd.calls (a0_0:Int) (a0_1:Bool) (a1_0:Int) (a1_1:Int) (a1_2:Int) (a2:Int) (r1:Int) (r2:Bool) (w:World) (h:impl_Road_legEnd.f a0_0 a0_1 a1_0 a1_1 a1_2 a2=some (r1,r2)):
  Calls Try.prog 96 #[.agg #[.int .i64 a0_0,.bool a0_1],.agg #[.int .i64 a1_0,.int .i64 a1_1,.int .i64 a1_2],.int .i64 a2] w fun e w'=>e= .returned (.tuple #[.int .i64 r1,.bool r2])∧Below w.heap.size w w':=by
 have hu28:=Try.underlying28
 have hu63:=Try.underlying63
 have HB:=Aside0.mk (Below.refl w.heap.size w)
 unfold impl_Road_legEnd.f at h
 have H:=h
 clear h
 obtain⟨t133,A4,H⟩:=bd H;(try dsimp only at H)
 generalize hji5: (mx 0 (wrap64 (a1_1-t133)))=ji5 at H
 (try rw[hji5]at A4)
 (try(have hji5l:0≤ji5:=by(rw[←hji5];unfold mx;(repeat' split)<;>omega)))
 (try(have hji5m:0≤ji5:=by omega))
 have hji5_: (if 0<(wrap64 (a1_1-t133))then(wrap64 (a1_1-t133))else 0)=ji5:=hji5
 generalize hji6: (mn (wrap64 (a0_0-1)) (wrap64 (a2+(ji5))))=ji6 at H
 (try rw[hji6]at A4)
 have hji6_: (if(wrap64 (a2+(ji5)))<(wrap64 (a0_0-1))then(wrap64 (a2+(ji5)))else(wrap64 (a0_0-1)))=ji6:=hji6
 simp only[Option.some.injEq,Prod.mk.injEq]at H
 obtain⟨rfl,rfl⟩:=H
 go_enter Try.func96,Try.ntmps96
 try go_wp2_with (first|(refine bx 3 #[.int .i64 a0_0,.bool a0_1] 28 ?_;intro gb131 hg w7 hbox hb;have BK131:=ak hbox;have GW131:=gw HB hg;have GE131:=gw HB hg;replace HB:=bs HB hb;clear hb hbox hg)|(refine bx 4 #[.int .i64 a1_0,.int .i64 a1_1,.int .i64 a1_2] 63 ?_;intro gb132 hg w8 hbox hb;have BK132:=ak hbox;have GW132:=ak ((by rw[hg];exact(below_size (h1 HB.out GE131.out)):w.heap.size≤gb132));have GE132:=ak ((by rw[hg];exact(below_size (h1 HB.out GE131.out)):w.heap.size≤gb132));replace HB:=ak (below_step (h1 HB.out GE131.out) hb);have NB131_132:=nl BK131 hg;have NB132_131:=ng BK131 hg;replace BK131:=kb BK131 hb;clear hb hbox hg))
 replace BK131:=ak (blk_drew BK131.out)
 replace BK132:=ak (blk_drew BK132.out)
 replace HB:=ak (below_drew1 HB.out)
 refine start_ (n:=9) (S:=fun w'=>w'.cell? ⟨gb132,0,none⟩=some (.int .i64 a1_0)∧w'.cell? ⟨gb132,1,none⟩=some (.int .i64 a1_1)∧w'.cell? ⟨gb132,2,none⟩=some (.int .i64 a1_2)∧w'.cell? ⟨gb131,0,none⟩=some (.int .i64 a0_0)∧w'.cell? ⟨gb131,1,none⟩=some (.bool a0_1)) (ds:=[]) (lb 9 0) (by kernel_rfl) rfl rfl ⟨bc BK132 0 rfl,bc BK132 1 rfl,bc BK132 2 rfl,bc BK131 0 rfl,bc BK131 1 rfl⟩ (fun hHeld=>?_);refine with_tabW impl_Road_legEnd.tab1 impl_Road_legEnd.bits1 (fun HT_ HW_=>?_)
 generalize w8.drew=w9 at BK131 BK132 HB hHeld⊢
 refine pq 0 (N:=some 9) (lb 9 1) HT_ ?_
 refine pq 3 (N:=some 12) (lb 9 9) HT_ ?_
 refine pq 5 (N:=some 14) (lb 9 41) HT_ ?_
 refine tq 1 (N:=some 10) (lb 9 43) HT_ HW_ hHeld ?_
 refine tq 2 (N:=some 11) (lb 9 47) HT_ HW_ hHeld ?_
 refine tq 4 (N:=some 13) (lb 9 63) HT_ HW_ hHeld ?_
 refine one_ (i:=6) (N:=some 15) (lb 9 127) rfl rfl (one_of HT_.out (by kernel_rfl)) (by decide) (fun K hK=>?_)
 refine goes_ Try.func89 (by kernel_rfl) rfl #[.agg #[.int .i64 a0_0,.bool a0_1],.int .i64 a1_0,.int .i64 a2] (by rfl) rfl rfl gl ?_
 with_reducible refine(impl_Road_gap.calls a0_0 a0_1 a1_0 a2 t133 _ A4.out).mono ?_
 rintro e w10 ⟨rfl,hb⟩
 refine⟨_,rfl,?_⟩
 replace BK131:=kb BK131 hb
 replace BK132:=kb BK132 hb
 replace HB:=ak (below_step (h2 HB.out GE131.out GE132.out) hb)
 (try clear hb)
 (try clear hb2)
 (try clear hk)
 (try clear hi)
 refine hK.out _ _ ⟨bc BK132 0 rfl,bc BK132 1 rfl,bc BK132 2 rfl,bc BK131 0 rfl,bc BK131 1 rfl⟩ (fun hHeld=>?_)
 clear hK K
 refine norm_ (a':=?_) ?_ ?_
 rotate_left
 ·show Act.put _ (some 15) _=_
  simp only[ap]
  rfl
 refine pq 7 (N:=some 16) (lb 9 255) HT_ ?_
 refine pq 8 (N:=some 8) (lb 9 511) HT_ ?_
 refine done_ (done_of HT_.out (by kernel_rfl)) ?_
 have hnb11:=NB131_132.out
 have hnc11:=NB132_131.out
 have hcz12_0:=bc BK131 0 rfl
 have hcz12_1:=bc BK131 1 rfl
 have hfz12_0:=bf BK131 0
 have hfz12_1:=bf BK131 1
 try go_wp2
 go_ret2
 exact⟨by first|rfl|(simp[errW_none,errW_some]<;>rfl)|(simp only[←hji5,←hji6];first|rfl|(simp[errW_none,errW_some]<;>rfl))|(simp[*,errW_none,errW_some]<;>rfl),h2 HB.out GE131.out GE132.out⟩
def impl_Road_orderReach.l0:Nat→List (S63)→Int→List Int→Int→Int→Int→Bool→Option (Int)
 | 0,_,_,_,_,_,_,_=>none
 | k+1,x1,x3,x11,x12,x13,x135000,x135001=>if x13<x12 then(if 0≤x13 then(if x13<(x11.length:Int)then(if 0≤(rd x11 x13)then(if(rd x11 x13)<(x1.length:Int)then((impl_Road_legEnd.f x135000 x135001 ((rd_T63 x1 (rd x11 x13)).f0) ((rd_T63 x1 (rd x11 x13)).f1) ((rd_T63 x1 (rd x11 x13)).f2) x3).bind fun bt137=>(impl_Road_orderReach.l0 k x1 bt137.1 x11 x12 (wrap64 (x13+1)) x135000 x135001))else(none))else(none))else(none))else(none))else(some x3)
def impl_Road_orderReach.f (k:Nat) (a0_0:Int) (a0_1:Bool) (l1:List (S63)) (l2:List Int) (a3:Int):Option (Int):=impl_Road_orderReach.l0 k l1 a3 l2 (l2.length:Int) 0 a0_0 a0_1
theorem impl_Road_orderReach.mono_l:∀ k,(∀ y0 y1 y2 y3 y4 y5 y6,LeO (impl_Road_orderReach.l0 k y0 y1 y2 y3 y4 y5 y6) (impl_Road_orderReach.l0 (k+1) y0 y1 y2 y3 y4 y5 y6))
 | 0=>by
  refine ?_<;>(intros;intro r h;simp[impl_Road_orderReach.l0]at h)
 | k+1=>by
  have ih0:=impl_Road_orderReach.mono_l k
  refine ?_<;>intros<;>unfold impl_Road_orderReach.l0<;>(repeat' (with_reducible first|exact ih0 ..|exact LeO.refl _|exact LeO.none _|refine LeO.ite ?_ ?_|refine LeO.bind ?_ (fun _=>?_)))
theorem impl_Road_orderReach.mono:∀ a0 a1 a2 a3 a4 k,LeO (impl_Road_orderReach.f k a0 a1 a2 a3 a4) (impl_Road_orderReach.f (k+1) a0 a1 a2 a3 a4):=by
 intro a0 a1 a2 a3 a4 k
 have ih0:=impl_Road_orderReach.mono_l k
 unfold impl_Road_orderReach.f
 repeat' (with_reducible first|exact ih0 ..|exact LeO.refl _|exact LeO.none _|refine LeO.ite ?_ ?_|refine LeO.bind ?_ (fun _=>?_))
def impl_Road_orderReach.T4:Bool × List (List Nat × List Nat):=(true,[([],[]),([],[]),([],[]),([1,2],[1,2]),([3],[3]),([],[]),([0,4,5],[0,4,5]),([6],[6]),([7],[7]),([7],[7]),([8,6,0,1,2,3,4,5,6,7,8],[5,8])])
def impl_Road_orderReach.B4:List Nat:=[0,0,0,6,14,0,63,127,255,255,511]
theorem impl_Road_orderReach.tab4:rtab .any (opsOf Try.f85 4)=impl_Road_orderReach.T4:=by kernel_rfl
theorem impl_Road_orderReach.bits4:waitsOk impl_Road_orderReach.T4.2 impl_Road_orderReach.B4=true:=by kernel_rfl
set_option maxHeartbeats 8000000 in
set_option maxRecDepth 100000 in
theorem impl_Road_orderReach.calls (k:Nat) (a0_0:Int) (a0_1:Bool) (A1:Option Addr) (c1:Nat) (l1:List (S63)) (A2:Option Addr) (c2:Nat) (l2:List Int) (a3:Int) (r:Int) (w:World) (hr1:Kd.C k63 w A1 l1.length l1) (hc1:l1.length≤c1) (hr2:Kd.C (Kd.int .i64) w A2 l2.length l2) (hc2:l2.length≤c2) (h:impl_Road_orderReach.f k a0_0 a0_1 l1 l2 a3=some r):
  Calls Try.prog 85 #[.agg #[.int .i64 a0_0,.bool a0_1],.slice A1 l1.length c1,.slice A2 l2.length c2,.int .i64 a3] w fun e w'=>e= .returned (.int .i64 r)∧Below w.heap.size w w':=by
 have hu28:=Try.underlying28
 have hu63:=Try.underlying63
 have HR1:=Aside0.mk hr1
 have HC1:=Aside0.mk hc1
 clear hr1 hc1
 have HR2:=Aside0.mk hr2
 have HC2:=Aside0.mk hc2
 clear hr2 hc2
 have HB:=Aside0.mk (Below.refl w.heap.size w)
 unfold impl_Road_orderReach.f at h
 have H:=h
 clear h
 have H':=Aside0.mk H
 clear H
 go_enter Try.func85,Try.ntmps85
 go_wp2_with (first|(refine bx 4 #[.int .i64 a0_0,.bool a0_1] 28 ?_;intro gb134 hg w5 hbox hb;have BK134:=ak hbox;have GW134:=gw HB hg;have GE134:=gw HB hg;replace HB:=bs HB hb;clear hb hbox hg))
 go_loopg [3,13] k (fun kq v3 v13 w'=>∃ (x3_1:Int) (x13_1:Int),v3= .int .i64 x3_1∧v13= .int .i64 x13_1∧Aside0 (impl_Road_orderReach.l0 kq l1 x3_1 l2 (l2.length:Int) x13_1 a0_0 a0_1=some r)∧Aside0 (kq≤k)∧Aside0 (w'.heap[gb134]? =some (.cells #[.int .i64 a0_0,.bool a0_1] 28 (0,0)))∧Aside0 (Below w.heap.size w w'))
 case atStart=>exact⟨(a3),(0),fd,fd,H',⟨Nat.le_refl _⟩,⟨bm BK134.out⟩,⟨h1 HB.out GE134.out⟩⟩
 clear H'
 try clear c1
 try clear c2
 try clear p2
 obtain⟨x3_1,x13_1,rfl,rfl,HA,HK1,BK134,HB⟩:=hrel
 obtain _|k1:=gk;·cases HA.out
 obtain⟨H⟩:=HA
 simp only[impl_Road_orderReach.l0]at H
 by_cases c6:x13_1<(l2.length:Int)
 rotate_left
 ·rw[if_neg c6]at H
  have c6b0:decide (x13_1<(l2.length:Int))=false:=decide_eq_false c6
  clear c6
  obtain rfl:=Option.some.inj H
  go_wp2
  go_ret
  exact⟨fe,h1 HB.out GE134.out⟩
 rw[if_pos c6]at H
 have c6b0:decide (x13_1<(l2.length:Int))=true:=decide_eq_true c6
 clear c6
 obtain⟨c7,H⟩:=gi H
 have c7b0:decide (0≤x13_1)=true:=decide_eq_true c7
 clear c7
 obtain⟨c8,H⟩:=gi H
 have c8b0:decide (x13_1<(l2.length:Int))=true:=decide_eq_true c8
 clear c8
 obtain⟨c9,H⟩:=gi H
 have c9b0:decide (0≤(rd l2 x13_1))=true:=decide_eq_true c9
 clear c9
 obtain⟨c10,H⟩:=gi H
 have c10b0:decide ((rd l2 x13_1)<(l1.length:Int))=true:=decide_eq_true c10
 clear c10
 obtain⟨⟨t137,t138⟩,A11,H⟩:=bd H;(try dsimp only at H)
 have H':=Aside0.mk H
 clear H
 have p135:0≤(x13_1:Int):=od
 have q135:x13_1<(l2.length:Int):=od
 obtain⟨ad135,e135,hx135_0⟩:=Kd.at_int HR2.out x13_1 p135 q135
 cases e135
 replace hx135_0:=hc HB hx135_0
 replace p135:=eq_true p135
 replace q135:=eq_true q135
 try go_wp2
 replace BK134:=ak (blk_drew BK134.out)
 replace HB:=ak (below_drew1 HB.out)
 have p136:0≤((rd l2 x13_1):Int):=od
 have q136: (rd l2 x13_1)<(l1.length:Int):=od
 obtain⟨ad136,e136,hx136_0,hx136_1,hx136_2⟩:=at_T63 HR1.out (rd l2 x13_1) p136 q136
 have hw136_2:=hx136_2
 have hw136_1:=hx136_1
 have hw136_0:=hx136_0
 cases e136
 replace hx136_0:=hc HB hx136_0
 replace hx136_1:=hc HB hx136_1
 replace hx136_2:=hc HB hx136_2
 replace p136:=eq_true p136
 replace q136:=eq_true q136
 refine start_ (n:=11) (S:=fun w'=>w'.cell? ⟨gb134,0,none⟩=some (.int .i64 a0_0)∧w'.cell? ⟨gb134,1,none⟩=some (.bool a0_1)∧w'.cell? (ad136.add (((rd l2 x13_1)).toNat*3))=some (.int .i64 ((rd_T63 l1 (rd l2 x13_1)).f0))∧w'.cell? ⟨(ad136.add (((rd l2 x13_1)).toNat*3)).block,(ad136.add (((rd l2 x13_1)).toNat*3)).off+1,none⟩=some (.int .i64 ((rd_T63 l1 (rd l2 x13_1)).f1))∧w'.cell? ⟨(ad136.add (((rd l2 x13_1)).toNat*3)).block,(ad136.add (((rd l2 x13_1)).toNat*3)).off+2,none⟩=some (.int .i64 ((rd_T63 l1 (rd l2 x13_1)).f2))) (ds:=[]) (lb 11 0) (by kernel_rfl) rfl rfl ⟨bc BK134 0 rfl,bc BK134 1 rfl,((HB.out.cell (World.block_lt_of_cell? w _ hw136_0)).trans hw136_0),((HB.out.cell (World.block_lt_of_cell? w _ hw136_1)).trans hw136_1),((HB.out.cell (World.block_lt_of_cell? w _ hw136_2)).trans hw136_2)⟩ (fun hHeld=>?_);refine with_tabW impl_Road_orderReach.tab4 impl_Road_orderReach.bits4 (fun HT_ HW_=>?_)
 generalize wr.drew=w12 at BK134 HB hx136_0 hx136_1 hx136_2 hHeld⊢
 refine pq 1 (N:=some 19) (lb 11 2) HT_ ?_
 refine pq 2 (N:=some 20) (lb 11 6) HT_ ?_
 refine pq 3 (N:=some 21) (lb 11 14) HT_ ?_
 refine pq 5 (N:=some 23) (lb 11 46) HT_ ?_
 refine tq 0 (N:=some 18) (lb 11 47) HT_ HW_ hHeld ?_
 refine tq 4 (N:=some 22) (lb 11 63) HT_ HW_ hHeld ?_
 refine one_ (i:=6) (N:=some 24) (lb 11 127) rfl rfl (one_of HT_.out (by kernel_rfl)) (by decide) (fun K hK=>?_)
 refine goes_ Try.func96 (by kernel_rfl) rfl #[.agg #[.int .i64 a0_0,.bool a0_1],.agg #[.int .i64 ((rd_T63 l1 (rd l2 x13_1)).f0),.int .i64 ((rd_T63 l1 (rd l2 x13_1)).f1),.int .i64 ((rd_T63 l1 (rd l2 x13_1)).f2)],.int .i64 x3_1] (by rfl) rfl rfl gl ?_
 with_reducible refine(impl_Road_legEnd.calls a0_0 a0_1 ((rd_T63 l1 (rd l2 x13_1)).f0) ((rd_T63 l1 (rd l2 x13_1)).f1) ((rd_T63 l1 (rd l2 x13_1)).f2) x3_1 t137 t138 _ A11.out).mono ?_
 rintro e w13 ⟨rfl,hb⟩
 refine⟨_,rfl,?_⟩
 replace BK134:=kb BK134 hb
 replace HB:=ak (below_step (h1 HB.out GE134.out) hb)
 (try clear hb)
 (try clear hb2)
 (try clear hk)
 (try clear hi)
 refine hK.out _ _ ⟨bc BK134 0 rfl,bc BK134 1 rfl,((HB.out.cell (World.block_lt_of_cell? w _ hw136_0)).trans hw136_0),((HB.out.cell (World.block_lt_of_cell? w _ hw136_1)).trans hw136_1),((HB.out.cell (World.block_lt_of_cell? w _ hw136_2)).trans hw136_2)⟩ (fun hHeld=>?_)
 clear hK K
 refine norm_ (a':=?_) ?_ ?_
 rotate_left
 ·show Act.put _ (some 24) _=_
  simp only[ap]
  rfl
 refine pq 7 (N:=some 17) (lb 11 255) HT_ ?_
 refine pq 8 (N:=some 25) (lb 11 511) HT_ ?_
 refine pq 9 (N:=some 26) (lb 11 1023) HT_ ?_
 refine pq 10 (N:=some 3) (lb 11 2047) HT_ ?_
 refine done_ (done_of HT_.out (by kernel_rfl)) ?_
 try go_wp2
 go_roundg k1
 case measure=>have:=HK1.out;omega
 case rel=>exact⟨(t137),(wrap64 (x13_1+1)),fd,fd,H',⟨by have:=HK1.out;omega⟩,⟨bm BK134.out⟩,⟨h1 HB.out GE134.out⟩⟩
def impl_copied.f (l0:List Int):Option (List Int):=(some (([]:List Int):List Int)).bind fun y139=>(if y139.length+l0.length<17592186044416 then(some (y139++l0))else(none))
set_option maxHeartbeats 8000000 in
set_option maxRecDepth 100000 in
theorem impl_copied.calls (A0:Option Addr) (c0:Nat) (l0:List Int) (r:List Int) (w:World) (hr0:Kd.C (Kd.int .i64) w A0 l0.length l0) (hc0:l0.length≤c0) (h:impl_copied.f l0=some r):
  Calls Try.prog 106 #[.slice A0 l0.length c0] w fun e w'=>∃ v0_:Value,e= .returned (v0_)∧Kd.R (Kd.int .i64) 3 w' w.heap.size (fun _=>True) v0_ r∧Below w.heap.size w w':=by
 have HR0:=Aside0.mk hr0
 have HC0:=Aside0.mk hc0
 clear hr0 hc0
 have HB:=Aside0.mk (Below.refl w.heap.size w)
 unfold impl_copied.f at h
 have H:=h
 clear h
 obtain⟨y139,hy139⟩:∃ y_:List Int,y_=(([]:List Int)):=⟨_,rfl⟩
 replace H: (if y139.length+l0.length<17592186044416 then(some (y139++l0))else(none))=some r:=by subst hy139;first|(with_reducible exact H)|exact H
 have Ny139:=Aside0.mk hy139
 clear hy139
 obtain⟨c2,H⟩:=gi H
 have LMc2:=Aside0.mk c2
 clear c2
 generalize hy142: (y139++l0:List Int)=y142 at H
 have Ny142:=ak hy142.symm
 clear hy142
 obtain rfl:=Option.some.inj H
 go_enter Try.func106,Try.ntmps106
 go_wp2_with (first|((with_reducible refine gate_dst (N:=3) rfl ?_);refine R_lit (Kd.int .i64) _ 3 ?hg (N:=3) ?hd (xs:=([]:List Int)) (inner:=[]) (ok:=fun _=>True) (okp:=fun _=>True) ?hr ?hp (fun _ hk=>hk) trivial (Below.refl _ _) (Nat.le_refl _) (by simp) ?_;(case hd=>rfl);(case hg=>rfl);(case hr=>first|(go_simp;done)|(go_simp;rfl));(case hp=>exact(Reps.none _ _));intro v140 w3 ho4 hb hg_ hnew_;clear hg_ hnew_;(first|rw[←Ny139.out]at ho4|(simp only[Int.reduceToNat]at ho4;rw[←Ny139.out]at ho4));have HO141:=ak (R_lower ho4 (below_size (hm HB.out)));replace HB:=bs HB hb;clear hb ho4)|((with_reducible refine gate_builtin (b:=.append) (xs:=#[.tmp 3,.tmp 4]) rfl ?_);at_builtin;refine R_append_rows (Kd.int .i64) (w0:=w) w.heap.size rfl (.tmp 3) (.tmp 4) 40 3 (.int .i64 0) 8 rfl Try.underlying40 info3 rfl (by decide) (by omega) v140 y139 l0 _ _ _ (fun _=>True) (fun _=>False) rfl rfl ?aO ?aR (fun _ _ h=>h) (fun _ h=>h.elim) ?aF ?aB ?aS ?aL ?_;(case aR=>exact cm (C_below HR0.out HB.out));(case aB=>exact(hm HB.out));(case aF=>exact(fun _ _=>trivial));(case aO=>exact(rm HO141.out));(case aS=>exact(below_size (hm HB.out)));(case aL=>have:=LMc2.out;omega);intro v143 w5 ho hb hg hat;rw[←Ny142.out]at ho;replace HB:=ak hb;have HO144:=ak ho;clear HO141;clear ho hb hg hat))
 go_ret
 exact⟨_,fe,rm HO144.out,hm HB.out⟩
end
end Go.Proofs.Ythagkpoinjpmfaa.QFnRelays
