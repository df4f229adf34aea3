/- Functions that the law FnRelays comes to, and their walks: no condition but those named. -/
import Derived.Test.YthagkpoinjpmfaaQFnRelaysx0
import Derived.Test.YthagkpoinjpmfaaQFnRelaysx2
import Derived.Test.YthagkpoinjpmfaaQFnRelaysx4
import Derived.Test.YthagkpoinjpmfaaQFnRelaysx5
import Derived.Test.YthagkpoinjpmfaaQFnRelaysx8
namespace Go.Proofs.Ythagkpoinjpmfaa.QFnRelays
open Go.RowKit Go.Proofs.YthagkpoinjpmfaaW.PrintWords Go.Proofs.YthagkpoinjpmfaaW.PrintLast Go.Proofs.YthagkpoinjpmfaaW.PrintMore Go.Proofs.Ythagkpoinjpmfaa.Short
attribute [local go_sem] max2_int min2_int max_two min_two max_three min_three max_four min_four
set_option linter.unusedVariables false
set_option linter.unusedSimpArgs false
section
open Kd
mutual
def spec_RelayArrival.j0:Nat→List (S63)→List (S70)→Bool→Int→Bool→Option (Int × Bool)
 | 0,_,_,_,_,_=>none
 | k+1,x1,x4,x28,x269000,x269001=>if x28=true then(some (0,false))else(spec_RelayArrival.l0 k x1 x4 0 0 x269000 x269001)
def spec_RelayArrival.l0:Nat→List (S63)→List (S70)→Int→Int→Int→Bool→Option (Int × Bool)
 | 0,_,_,_,_,_,_=>none
 | k+1,x1,x4,x12,x13,x269000,x269001=>if x13<(x4.length:Int)then(if 0≤x13 then(if 0≤((rd_T70 x4 x13).f0)then(if((rd_T70 x4 x13).f0)<(x1.length:Int)then((spec_l7Arrive.f x269000 x269001 ((rd_T63 x1 ((rd_T70 x4 x13).f0)).f0) ((rd_T63 x1 ((rd_T70 x4 x13).f0)).f1) ((rd_T63 x1 ((rd_T70 x4 x13).f0)).f2) x12 ((rd_T70 x4 x13).f1) ((rd_T70 x4 x13).f2)).bind fun t275=>(spec_RelayArrival.l0 k x1 x4 t275 (wrap64 (x13+1)) x269000 x269001))else(none))else(none))else(none))else(some (x12,true))
end
def spec_RelayArrival.f (k:Nat) (a0_0:Int) (a0_1:Bool) (l1:List (S63)) (a2:Int) (a3:Int) (l4:List (S70)):Option (Int × Bool):=(spec_l7Asks.f k a0_0 a0_1 l1 a2 a3).bind fun t269=>(if t269=true then((spec_l7Relay.f k a0_0 a0_1 l1 a2 a3 l4).bind fun t270=>(spec_RelayArrival.j0 k l1 l4 (!t270) a0_0 a0_1))else(spec_RelayArrival.j0 k l1 l4 true a0_0 a0_1))
theorem spec_RelayArrival.mono_l:∀ k,(∀ y0 y1 y2 y3 y4,LeO (spec_RelayArrival.j0 k y0 y1 y2 y3 y4) (spec_RelayArrival.j0 (k+1) y0 y1 y2 y3 y4))∧(∀ y0 y1 y2 y3 y4 y5,LeO (spec_RelayArrival.l0 k y0 y1 y2 y3 y4 y5) (spec_RelayArrival.l0 (k+1) y0 y1 y2 y3 y4 y5))
 | 0=>by
  refine⟨?_,?_⟩<;>(intros;intro r h;simp[spec_RelayArrival.j0,spec_RelayArrival.l0]at h)
 | k+1=>by
  obtain⟨ih0,ih1⟩:=spec_RelayArrival.mono_l k
  refine⟨?_,?_⟩<;>intros<;>(first|unfold spec_RelayArrival.j0|unfold spec_RelayArrival.l0)<;>(repeat' (with_reducible first|exact ih0 ..|exact ih1 ..|exact spec_l7Asks.mono ..|exact spec_l7Relay.mono ..|exact LeO.refl _|exact LeO.none _|refine LeO.ite ?_ ?_|refine LeO.bind ?_ (fun _=>?_)))
theorem spec_RelayArrival.mono:∀ a0 a1 a2 a3 a4 a5 k,LeO (spec_RelayArrival.f k a0 a1 a2 a3 a4 a5) (spec_RelayArrival.f (k+1) a0 a1 a2 a3 a4 a5):=by
 intro a0 a1 a2 a3 a4 a5 k
 obtain⟨ih0,ih1⟩:=spec_RelayArrival.mono_l k
 unfold spec_RelayArrival.f
 repeat' (with_reducible first|exact ih0 ..|exact ih1 ..|exact spec_l7Asks.mono ..|exact spec_l7Relay.mono ..|exact LeO.refl _|exact LeO.none _|refine LeO.ite ?_ ?_|refine LeO.bind ?_ (fun _=>?_))
def spec_RelayArrival.T7:Bool × List (List Nat × List Nat):=(true,[([],[]),([],[]),([],[]),([],[]),([2,3],[2,3]),([4],[4]),([5],[5]),([1,6],[1,6]),([7],[7]),([],[]),([],[]),([],[]),([10,11],[10,11]),([12],[12]),([13],[13]),([],[]),([],[]),([15,16],[15,16]),([17],[17]),([18],[18]),([0,8,9,14,19],[0,8,9,14,19]),([20,20,0,1,2,3,4,5,6,7,8,9,10,11,12,13,14,15,16,17,18,19,20],[9,20])])
def spec_RelayArrival.B7:List Nat:=[0,0,0,0,12,28,60,126,254,0,0,0,3072,7168,15360,0,0,98304,229376,491520,1048575,2097151]
theorem spec_RelayArrival.tab7:rtab .any (opsOf Try.f23 7)=spec_RelayArrival.T7:=by kernel_rfl
theorem spec_RelayArrival.bits7:waitsOk spec_RelayArrival.T7.2 spec_RelayArrival.B7=true:=by kernel_rfl
set_option maxHeartbeats 8000000 in
set_option maxRecDepth 100000 in
theorem spec_RelayArrival.calls (k:Nat) (a0_0:Int) (a0_1:Bool) (A1:Option Addr) (c1:Nat) (l1:List (S63)) (a2:Int) (a3:Int) (A4:Option Addr) (c4:Nat) (l4:List (S70)) (r1:Int) (r2:Bool) (w:World) (hr1:Kd.C k63 w A1 l1.length l1) (hc1:l1.length≤c1) (hr4:Kd.C k70 w A4 l4.length l4) (hc4:l4.length≤c4) (h:spec_RelayArrival.f k a0_0 a0_1 l1 a2 a3 l4=some (r1,r2)):
  Calls Try.prog 23 #[.agg #[.int .i64 a0_0,.bool a0_1],.slice A1 l1.length c1,.int .i64 a2,.int .i64 a3,.slice A4 l4.length c4] w fun e w'=>e= .returned (.tuple #[.int .i64 r1,.bool r2])∧Below w.heap.size w w':=by
 have hu28:=Try.underlying28
 have hu63:=Try.underlying63
 have HR1:=Aside0.mk hr1
 have HC1:=Aside0.mk hc1
 clear hr1 hc1
 have HR4:=Aside0.mk hr4
 have HC4:=Aside0.mk hc4
 clear hr4 hc4
 have HB:=Aside0.mk (Below.refl w.heap.size w)
 unfold spec_RelayArrival.f at h
 have H:=h
 clear h
 have HC6:=Aside0.mk H
 clear H
 go_enter Try.func23,Try.ntmps23
 go_upto_region 1 with(first|(refine bx 5 #[.int .i64 a0_0,.bool a0_1] 28 ?_;intro gb268 hg w7 hbox hb;have BK268:=ak hbox;have GW268:=gw HB hg;have GE268:=gw HB hg;replace HB:=bs HB hb;clear hb hbox hg))
 (try simp only[ap])
 go_cut [28] (fun v28 wc=>∃ (kq:Nat) (x28_5:Bool),v28= .bool x28_5∧Aside0 (spec_RelayArrival.j0 kq l1 l4 x28_5 a0_0 a0_1=some (r1,r2))∧Aside0 (kq≤k)∧Aside0 (wc.heap[gb268]? =some (.cells #[.int .i64 a0_0,.bool a0_1] 28 (0,0)))∧Aside0 (Below w.heap.size w wc))
 case first=>
  have H:=HC6.out
  clear HC6
  obtain⟨t269,A8,H⟩:=bd H;(try dsimp only at H)
  by_cases c9:t269=true
  rotate_left
  ·replace c9:=Bool.eq_false_iff.mpr c9
   subst c9
   rw[if_neg (show ¬(false=true)by decide)]at H
   have H':=Aside0.mk H
   clear H
   have hcz15_0:=bc BK268 0 rfl
   have hcz15_1:=bc BK268 1 rfl
   have hfz15_0:=bf BK268 0
   have hfz15_1:=bf BK268 1
   go_wp2_with (first|(refine gs 18 Try.func55 #[.agg #[.int .i64 a0_0,.bool a0_1],.slice A1 l1.length c1,.int .i64 a2,.int .i64 a3] ?_;(with_reducible refine(spec_l7Asks.calls k a0_0 a0_1 _ _ l1 a2 a3 false _ ?side1 ?side2 A8.out).mono ?_);(case side1=>exact cm (C_below HR1.out HB.out));(case side2=>exact HC1.out);rintro e w16 ⟨rfl,hb⟩;refine⟨_,rfl,?_⟩;replace BK268:=kb BK268 hb;replace HB:=ak (below_step (h1 HB.out GE268.out) hb);(try clear hb);(try clear hk);(try clear hi)))
   go_meet
   case rel=>exact⟨_,(true),fd,H',⟨by first|exact Nat.le_refl _|omega⟩,⟨bm BK268.out⟩,⟨h1 HB.out GE268.out⟩⟩
  subst c9
  rw[if_pos rfl]at H
  obtain⟨t270,A10,H⟩:=bd H;(try dsimp only at H)
  have H':=Aside0.mk H
  clear H
  have hcz11_0:=bc BK268 0 rfl
  have hcz11_1:=bc BK268 1 rfl
  have hfz11_0:=bf BK268 0
  have hfz11_1:=bf BK268 1
  go_wp2_with (first|(refine gs 18 Try.func55 #[.agg #[.int .i64 a0_0,.bool a0_1],.slice A1 l1.length c1,.int .i64 a2,.int .i64 a3] ?_;(with_reducible refine(spec_l7Asks.calls k a0_0 a0_1 _ _ l1 a2 a3 true _ ?side1 ?side2 A8.out).mono ?_);(case side1=>exact cm (C_below HR1.out HB.out));(case side2=>exact HC1.out);rintro e w12 ⟨rfl,hb⟩;refine⟨_,rfl,?_⟩;replace BK268:=kb BK268 hb;replace HB:=ak (below_step (h1 HB.out GE268.out) hb);(try clear hb);(try clear hk);(try clear hi);have hcz13_0:=bc BK268 0 rfl;have hcz13_1:=bc BK268 1 rfl;have hfz13_0:=bf BK268 0;have hfz13_1:=bf BK268 1)|(go_at_call 60;(with_reducible refine(spec_l7Relay.calls k a0_0 a0_1 _ _ l1 a2 a3 _ _ l4 t270 _ ?side1 ?side2 ?side3 ?side4 A10.out).mono ?_);(case side1=>exact cm (C_below HR1.out HB.out));(case side2=>exact HC1.out);(case side3=>exact cm (C_below HR4.out HB.out));(case side4=>exact HC4.out);rintro e w14 ⟨rfl,hb⟩;replace BK268:=kb BK268 hb;replace HB:=ak (below_step (h1 HB.out GE268.out) hb);(try clear hb);(try clear hk);(try clear hi)))
  go_meet
  case rel=>exact⟨_,(!t270),fd,H',⟨by first|exact Nat.le_refl _|omega⟩,⟨bm BK268.out⟩,⟨h1 HB.out GE268.out⟩⟩
 clear HC6
 try clear c1
 try clear c2
 try clear p2
 try clear c4
 try clear c5
 try clear c9
 try clear hcz11_0
 try clear hcz11_1
 try clear hcz13_0
 try clear hcz13_1
 try clear hcz15_0
 try clear hcz15_1
 try clear hfz11_0
 try clear hfz11_1
 try clear hfz13_0
 try clear hfz13_1
 try clear hfz15_0
 try clear hfz15_1
 obtain⟨kq,x28_5,rfl,HA,HJ5,BK268,HB⟩:=hcut
 obtain _|kj5:=kq;·cases HA.out
 obtain⟨H⟩:=HA
 simp only[spec_RelayArrival.j0]at H
 by_cases c17:x28_5=true
 ·subst c17
  rw[if_pos rfl]at H
  simp only[Option.some.injEq,Prod.mk.injEq]at H
  obtain⟨rfl,rfl⟩:=H
  go_wp2
  go_ret2
  exact⟨fe,h1 HB.out GE268.out⟩
 replace c17:=Bool.eq_false_iff.mpr c17
 subst c17
 rw[if_neg (show ¬(false=true)by decide)]at H
 have H':=Aside0.mk H
 clear H
 go_wp2
 go_loopg [12,13] kj5 (fun kq v12 v13 w'=>∃ (x12_2:Int) (x13_2:Int),v12= .int .i64 x12_2∧v13= .int .i64 x13_2∧Aside0 (spec_RelayArrival.l0 kq l1 l4 x12_2 x13_2 a0_0 a0_1=some (r1,r2))∧Aside0 (kq≤kj5)∧Aside0 (w'.heap[gb268]? =some (.cells #[.int .i64 a0_0,.bool a0_1] 28 (0,0)))∧Aside0 (Below w.heap.size w w'))
 case atStart=>exact⟨(0),(0),fd,fd,H',⟨Nat.le_refl _⟩,⟨bm BK268.out⟩,⟨h1 HB.out GE268.out⟩⟩
 clear H'
 try clear c1
 try clear c2
 try clear p2
 try clear c4
 try clear c5
 try clear c9
 try clear c17
 try clear hcz11_0
 try clear hcz11_1
 try clear hcz13_0
 try clear hcz13_1
 try clear hcz15_0
 try clear hcz15_1
 try clear hfz11_0
 try clear hfz11_1
 try clear hfz13_0
 try clear hfz13_1
 try clear hfz15_0
 try clear hfz15_1
 try clear p2
 obtain⟨x12_2,x13_2,rfl,rfl,HA,HK2,BK268,HB⟩:=hrel
 obtain _|k2:=gk;·cases HA.out
 obtain⟨H⟩:=HA
 simp only[spec_RelayArrival.l0]at H
 by_cases c18:x13_2<(l4.length:Int)
 rotate_left
 ·rw[if_neg c18]at H
  have c18b0:decide (x13_2<(l4.length:Int))=false:=decide_eq_false c18
  clear c18
  simp only[Option.some.injEq,Prod.mk.injEq]at H
  obtain⟨rfl,rfl⟩:=H
  go_wp2
  go_ret2
  exact⟨fe,h1 HB.out GE268.out⟩
 rw[if_pos c18]at H
 have c18b0:decide (x13_2<(l4.length:Int))=true:=decide_eq_true c18
 clear c18
 obtain⟨c19,H⟩:=gi H
 have c19b0:decide (0≤x13_2)=true:=decide_eq_true c19
 clear c19
 obtain⟨c20,H⟩:=gi H
 have c20b0:decide (0≤((rd_T70 l4 x13_2).f0))=true:=decide_eq_true c20
 clear c20
 obtain⟨c21,H⟩:=gi H
 have c21b0:decide (((rd_T70 l4 x13_2).f0)<(l1.length:Int))=true:=decide_eq_true c21
 clear c21
 obtain⟨t275,A22,H⟩:=bd H;(try dsimp only at H)
 have H':=Aside0.mk H
 clear H
 try go_wp2
 replace BK268:=ak (blk_drew BK268.out)
 replace HB:=ak (below_drew1 HB.out)
 have p271:0≤(x13_2:Int):=od
 have q271:x13_2<(l4.length:Int):=od
 obtain⟨ad271,e271,hx271_0,hx271_1,hx271_2⟩:=at_T70 HR4.out x13_2 p271 q271
 have hw271_2:=hx271_2
 have hw271_1:=hx271_1
 have hw271_0:=hx271_0
 cases e271
 replace hx271_0:=hc HB hx271_0
 replace hx271_1:=hc HB hx271_1
 replace hx271_2:=hc HB hx271_2
 replace p271:=eq_true p271
 replace q271:=eq_true q271
 have p272:0≤(((rd_T70 l4 x13_2).f0):Int):=od
 have q272: ((rd_T70 l4 x13_2).f0)<(l1.length:Int):=od
 obtain⟨ad272,e272,hx272_0,hx272_1,hx272_2⟩:=at_T63 HR1.out ((rd_T70 l4 x13_2).f0) p272 q272
 have hw272_2:=hx272_2
 have hw272_1:=hx272_1
 have hw272_0:=hx272_0
 cases e272
 replace hx272_0:=hc HB hx272_0
 replace hx272_1:=hc HB hx272_1
 replace hx272_2:=hc HB hx272_2
 replace p272:=eq_true p272
 replace q272:=eq_true q272
 have p273:0≤(x13_2:Int):=od
 have q273:x13_2<(l4.length:Int):=od
 obtain⟨ad273,e273,hx273_0,hx273_1,hx273_2⟩:=at_T70 HR4.out x13_2 p273 q273
 have hw273_2:=hx273_2
 have hw273_1:=hx273_1
 have hw273_0:=hx273_0
 obtain rfl:ad271=ad273:=(by injection e273)
 replace hx273_0:=hc HB hx273_0
 replace hx273_1:=hc HB hx273_1
 replace hx273_2:=hc HB hx273_2
 replace p273:=eq_true p273
 replace q273:=eq_true q273
 have p274:0≤(x13_2:Int):=od
 have q274:x13_2<(l4.length:Int):=od
 obtain⟨ad274,e274,hx274_0,hx274_1,hx274_2⟩:=at_T70 HR4.out x13_2 p274 q274
 have hw274_2:=hx274_2
 have hw274_1:=hx274_1
 have hw274_0:=hx274_0
 obtain rfl:ad271=ad274:=(by injection e274)
 replace hx274_0:=hc HB hx274_0
 replace hx274_1:=hc HB hx274_1
 replace hx274_2:=hc HB hx274_2
 replace p274:=eq_true p274
 replace q274:=eq_true q274
 refine start_ (n:=22) (S:=fun w'=>w'.cell? ⟨gb268,0,none⟩=some (.int .i64 a0_0)∧w'.cell? ⟨gb268,1,none⟩=some (.bool a0_1)∧w'.cell? (ad271.add ((x13_2).toNat*3))=some (.int .i64 ((rd_T70 l4 x13_2).f0))∧w'.cell? ⟨(ad271.add ((x13_2).toNat*3)).block,(ad271.add ((x13_2).toNat*3)).off+1,none⟩=some (.int .i64 ((rd_T70 l4 x13_2).f1))∧w'.cell? ⟨(ad271.add ((x13_2).toNat*3)).block,(ad271.add ((x13_2).toNat*3)).off+2,none⟩=some (.int .i64 ((rd_T70 l4 x13_2).f2))∧w'.cell? (ad272.add ((((rd_T70 l4 x13_2).f0)).toNat*3))=some (.int .i64 ((rd_T63 l1 ((rd_T70 l4 x13_2).f0)).f0))∧w'.cell? ⟨(ad272.add ((((rd_T70 l4 x13_2).f0)).toNat*3)).block,(ad272.add ((((rd_T70 l4 x13_2).f0)).toNat*3)).off+1,none⟩=some (.int .i64 ((rd_T63 l1 ((rd_T70 l4 x13_2).f0)).f1))∧w'.cell? ⟨(ad272.add ((((rd_T70 l4 x13_2).f0)).toNat*3)).block,(ad272.add ((((rd_T70 l4 x13_2).f0)).toNat*3)).off+2,none⟩=some (.int .i64 ((rd_T63 l1 ((rd_T70 l4 x13_2).f0)).f2))∧w'.cell? (ad271.add ((x13_2).toNat*3))=some (.int .i64 ((rd_T70 l4 x13_2).f0))∧w'.cell? ⟨(ad271.add ((x13_2).toNat*3)).block,(ad271.add ((x13_2).toNat*3)).off+1,none⟩=some (.int .i64 ((rd_T70 l4 x13_2).f1))∧w'.cell? ⟨(ad271.add ((x13_2).toNat*3)).block,(ad271.add ((x13_2).toNat*3)).off+2,none⟩=some (.int .i64 ((rd_T70 l4 x13_2).f2))∧w'.cell? (ad271.add ((x13_2).toNat*3))=some (.int .i64 ((rd_T70 l4 x13_2).f0))∧w'.cell? ⟨(ad271.add ((x13_2).toNat*3)).block,(ad271.add ((x13_2).toNat*3)).off+1,none⟩=some (.int .i64 ((rd_T70 l4 x13_2).f1))∧w'.cell? ⟨(ad271.add ((x13_2).toNat*3)).block,(ad271.add ((x13_2).toNat*3)).off+2,none⟩=some (.int .i64 ((rd_T70 l4 x13_2).f2))) (ds:=[]) (lb 22 0) (by kernel_rfl) rfl rfl ⟨bc BK268 0 rfl,bc BK268 1 rfl,((HB.out.cell (World.block_lt_of_cell? w _ hw271_0)).trans hw271_0),((HB.out.cell (World.block_lt_of_cell? w _ hw271_1)).trans hw271_1),((HB.out.cell (World.block_lt_of_cell? w _ hw271_2)).trans hw271_2),((HB.out.cell (World.block_lt_of_cell? w _ hw272_0)).trans hw272_0),((HB.out.cell (World.block_lt_of_cell? w _ hw272_1)).trans hw272_1),((HB.out.cell (World.block_lt_of_cell? w _ hw272_2)).trans hw272_2),((HB.out.cell (World.block_lt_of_cell? w _ hw273_0)).trans hw273_0),((HB.out.cell (World.block_lt_of_cell? w _ hw273_1)).trans hw273_1),((HB.out.cell (World.block_lt_of_cell? w _ hw273_2)).trans hw273_2),((HB.out.cell (World.block_lt_of_cell? w _ hw274_0)).trans hw274_0),((HB.out.cell (World.block_lt_of_cell? w _ hw274_1)).trans hw274_1),((HB.out.cell (World.block_lt_of_cell? w _ hw274_2)).trans hw274_2)⟩ (fun hHeld=>?_);refine with_tabW spec_RelayArrival.tab7 spec_RelayArrival.bits7 (fun HT_ HW_=>?_)
 generalize wr.drew=w23 at BK268 HB hx271_0 hx271_1 hx271_2 hx272_0 hx272_1 hx272_2 hx273_0 hx273_1 hx273_2 hx274_0 hx274_1 hx274_2 hHeld⊢
 refine pq 1 (N:=some 36) (lb 22 2) HT_ ?_
 refine pq 2 (N:=some 37) (lb 22 6) HT_ ?_
 refine pq 3 (N:=some 38) (lb 22 14) HT_ ?_
 refine pq 4 (N:=some 39) (lb 22 30) HT_ ?_
 refine pq 5 (N:=some 40) (lb 22 62) HT_ ?_
 refine pq 9 (N:=some 44) (lb 22 574) HT_ ?_
 refine pq 10 (N:=some 45) (lb 22 1598) HT_ ?_
 refine pq 11 (N:=some 46) (lb 22 3646) HT_ ?_
 refine pq 12 (N:=some 47) (lb 22 7742) HT_ ?_
 refine pq 13 (N:=some 48) (lb 22 15934) HT_ ?_
 refine pq 15 (N:=some 50) (lb 22 48702) HT_ ?_
 refine pq 16 (N:=some 51) (lb 22 114238) HT_ ?_
 refine pq 17 (N:=some 52) (lb 22 245310) HT_ ?_
 refine pq 18 (N:=some 53) (lb 22 507454) HT_ ?_
 refine take_ (i:=0) (N:=some 35) (v:=?_) (a':=?_) (lb 22 507455) rfl rfl (take_ofW HT_.out HW_.out (by kernel_rfl)) (fun _ _ _ h=>h) (Or.inl ⟨by rfl,?_⟩) hHeld ?_ ?_
 rotate_left
 ·rintro w' ⟨s0,s1,s2,s3,s4,s5,s6,s7,s8,s9,s10,s11,s12,s13⟩
  go_simp
  with_reducible rfl
 rotate_left
 ·simp only[ap]
  rfl
 refine take_ (i:=6) (N:=some 41) (v:=?_) (a':=?_) (lb 22 507519) rfl rfl (take_ofW HT_.out HW_.out (by kernel_rfl)) (fun _ _ _ h=>h) (Or.inl ⟨by rfl,?_⟩) hHeld ?_ ?_
 rotate_left
 ·rintro w' ⟨s0,s1,s2,s3,s4,s5,s6,s7,s8,s9,s10,s11,s12,s13⟩
  go_simp
  with_reducible rfl
 rotate_left
 ·simp only[ap]
  rfl
 refine pq 7 (N:=some 42) (lb 22 507647) HT_ ?_
 refine take_ (i:=8) (N:=some 43) (v:=?_) (a':=?_) (lb 22 507903) rfl rfl (take_ofW HT_.out HW_.out (by kernel_rfl)) (fun _ _ _ h=>h) (Or.inl ⟨by rfl,?_⟩) hHeld ?_ ?_
 rotate_left
 ·rintro w' ⟨s0,s1,s2,s3,s4,s5,s6,s7,s8,s9,s10,s11,s12,s13⟩
  go_simp
  with_reducible rfl
 rotate_left
 ·simp only[ap]
  rfl
 refine take_ (i:=14) (N:=some 49) (v:=?_) (a':=?_) (lb 22 524287) rfl rfl (take_ofW HT_.out HW_.out (by kernel_rfl)) (fun _ _ _ h=>h) (Or.inl ⟨by rfl,?_⟩) hHeld ?_ ?_
 rotate_left
 ·rintro w' ⟨s0,s1,s2,s3,s4,s5,s6,s7,s8,s9,s10,s11,s12,s13⟩
  go_simp
  with_reducible rfl
 rotate_left
 ·simp only[ap]
  rfl
 refine take_ (i:=19) (N:=some 54) (v:=?_) (a':=?_) (lb 22 1048575) rfl rfl (take_ofW HT_.out HW_.out (by kernel_rfl)) (fun _ _ _ h=>h) (Or.inl ⟨by rfl,?_⟩) hHeld ?_ ?_
 rotate_left
 ·rintro w' ⟨s0,s1,s2,s3,s4,s5,s6,s7,s8,s9,s10,s11,s12,s13⟩
  go_simp
  with_reducible rfl
 rotate_left
 ·simp only[ap]
  rfl
 refine one_ (i:=20) (N:=some 55) (lb 22 2097151) rfl rfl (one_of HT_.out (by kernel_rfl)) (by decide) (fun K hK=>?_)
 refine goes_ Try.func69 (by kernel_rfl) rfl #[.agg #[.int .i64 a0_0,.bool a0_1],.agg #[.int .i64 ((rd_T63 l1 ((rd_T70 l4 x13_2).f0)).f0),.int .i64 ((rd_T63 l1 ((rd_T70 l4 x13_2).f0)).f1),.int .i64 ((rd_T63 l1 ((rd_T70 l4 x13_2).f0)).f2)],.int .i64 x12_2,.int .i64 ((rd_T70 l4 x13_2).f1),.int .i64 ((rd_T70 l4 x13_2).f2)] (by rfl) rfl rfl gl ?_
 with_reducible refine(spec_l7Arrive.calls a0_0 a0_1 ((rd_T63 l1 ((rd_T70 l4 x13_2).f0)).f0) ((rd_T63 l1 ((rd_T70 l4 x13_2).f0)).f1) ((rd_T63 l1 ((rd_T70 l4 x13_2).f0)).f2) x12_2 ((rd_T70 l4 x13_2).f1) ((rd_T70 l4 x13_2).f2) t275 _ A22.out).mono ?_
 rintro e w24 ⟨rfl,hb⟩
 refine⟨_,rfl,?_⟩
 replace BK268:=kb BK268 hb
 replace HB:=ak (below_step (h1 HB.out GE268.out) hb)
 (try clear hb)
 (try clear hb2)
 (try clear hk)
 (try clear hi)
 refine hK.out _ _ ⟨bc BK268 0 rfl,bc BK268 1 rfl,((HB.out.cell (World.block_lt_of_cell? w _ hw271_0)).trans hw271_0),((HB.out.cell (World.block_lt_of_cell? w _ hw271_1)).trans hw271_1),((HB.out.cell (World.block_lt_of_cell? w _ hw271_2)).trans hw271_2),((HB.out.cell (World.block_lt_of_cell? w _ hw272_0)).trans hw272_0),((HB.out.cell (World.block_lt_of_cell? w _ hw272_1)).trans hw272_1),((HB.out.cell (World.block_lt_of_cell? w _ hw272_2)).trans hw272_2),((HB.out.cell (World.block_lt_of_cell? w _ hw273_0)).trans hw273_0),((HB.out.cell (World.block_lt_of_cell? w _ hw273_1)).trans hw273_1),((HB.out.cell (World.block_lt_of_cell? w _ hw273_2)).trans hw273_2),((HB.out.cell (World.block_lt_of_cell? w _ hw274_0)).trans hw274_0),((HB.out.cell (World.block_lt_of_cell? w _ hw274_1)).trans hw274_1),((HB.out.cell (World.block_lt_of_cell? w _ hw274_2)).trans hw274_2)⟩ (fun hHeld=>?_)
 clear hK K
 refine norm_ (a':=?_) ?_ ?_
 rotate_left
 ·show Act.put _ (some 55) _=_
  simp only[ap]
  rfl
 refine pq 21 (N:=some 12) (lb 22 4194303) HT_ ?_
 refine done_ (done_of HT_.out (by kernel_rfl)) ?_
 try go_wp2
 go_roundg k2
 case measure=>have:=HJ5.out;have:=HK2.out;omega
 case rel=>exact⟨(t275),(wrap64 (x13_2+1)),fd,fd,H',⟨by have:=HJ5.out;have:=HK2.out;omega⟩,⟨bm BK268.out⟩,⟨h1 HB.out GE268.out⟩⟩
def impl_Road_arrives.f (a0_0:Int) (a0_1:Bool) (a1_0:Int) (a1_1:Int) (a1_2:Int) (a2:Int) (a3:Int) (a4:Int):Option (Int):=(impl_Road_gap.f a0_0 a0_1 a1_0 a3).bind fun t278=>((impl_Road_gap.f a0_0 a0_1 a3 a4).bind fun t279=>(some (wrap64 ((mx a2 t278)+t279))))
def impl_Road_arrives.T1:Bool × List (List Nat × List Nat):=(true,[([],[]),([],[]),([],[]),([2],[2]),([],[]),([1,3,4],[1,3,4]),([0,5],[0,5]),([],[]),([],[]),([],[]),([7,8,9,5],[7,8,9]),([6,10],[6,10]),([11,10,0,1,2,3,4,5,6,7,8,9,10,11],[11])])
def impl_Road_arrives.B1:List Nat:=[0,0,0,4,0,30,63,0,0,0,958,2047,4095]
theorem impl_Road_arrives.tab1:rtab .any (opsOf Try.f70 1)=impl_Road_arrives.T1:=by kernel_rfl
theorem impl_Road_arrives.bits1:waitsOk impl_Road_arrives.T1.2 impl_Road_arrives.B1=true:=by kernel_rfl
set_option maxHeartbeats 8000000 in
set_option maxRecDepth 100000 in
theorem impl_Road_arrives.calls (a0_0:Int) (a0_1:Bool) (a1_0:Int) (a1_1:Int) (a1_2:Int) (a2:Int) (a3:Int) (a4:Int) (r:Int) (w:World) (h:impl_Road_arrives.f a0_0 a0_1 a1_0 a1_1 a1_2 a2 a3 a4=some r):
  Calls Try.prog 70 #[.agg #[.int .i64 a0_0,.bool a0_1],.agg #[.int .i64 a1_0,.int .i64 a1_1,.int .i64 a1_2],.int .i64 a2,.int .i64 a3,.int .i64 a4] w fun e w'=>e= .returned (.int .i64 r)∧Below w.heap.size w w':=by
 have hu28:=Try.underlying28
 have hu63:=Try.underlying63
 have HB:=Aside0.mk (Below.refl w.heap.size w)
 unfold impl_Road_arrives.f at h
 have H:=h
 clear h
 obtain⟨t278,A6,H⟩:=bd H;(try dsimp only at H)
 generalize hji7: (mx a2 t278)=ji7 at H
 (try rw[hji7]at A6)
 have hji7_: (if a2<t278 then t278 else a2)=ji7:=hji7
 obtain⟨t279,A8,H⟩:=bd H;(try dsimp only at H)
 obtain rfl:=Option.some.inj H
 go_enter Try.func70,Try.ntmps70
 try go_wp2_with (first|(refine bx 5 #[.int .i64 a0_0,.bool a0_1] 28 ?_;intro gb276 hg w9 hbox hb;have BK276:=ak hbox;have GW276:=gw HB hg;have GE276:=gw HB hg;replace HB:=bs HB hb;clear hb hbox hg)|(refine bx 6 #[.int .i64 a1_0,.int .i64 a1_1,.int .i64 a1_2] 63 ?_;intro gb277 hg w10 hbox hb;have BK277:=ak hbox;have GW277:=ak ((by rw[hg];exact(below_size (h1 HB.out GE276.out)):w.heap.size≤gb277));have GE277:=ak ((by rw[hg];exact(below_size (h1 HB.out GE276.out)):w.heap.size≤gb277));replace HB:=ak (below_step (h1 HB.out GE276.out) hb);have NB276_277:=nl BK276 hg;have NB277_276:=ng BK276 hg;replace BK276:=kb BK276 hb;clear hb hbox hg))
 replace BK276:=ak (blk_drew BK276.out)
 replace BK277:=ak (blk_drew BK277.out)
 replace HB:=ak (below_drew1 HB.out)
 refine start_ (n:=13) (S:=fun w'=>w'.cell? ⟨gb276,0,none⟩=some (.int .i64 a0_0)∧w'.cell? ⟨gb276,1,none⟩=some (.bool a0_1)∧w'.cell? ⟨gb277,0,none⟩=some (.int .i64 a1_0)∧w'.cell? ⟨gb277,1,none⟩=some (.int .i64 a1_1)∧w'.cell? ⟨gb277,2,none⟩=some (.int .i64 a1_2)) (ds:=[]) (lb 13 0) (by kernel_rfl) rfl rfl ⟨bc BK276 0 rfl,bc BK276 1 rfl,bc BK277 0 rfl,bc BK277 1 rfl,bc BK277 2 rfl⟩ (fun hHeld=>?_);refine with_tabW impl_Road_arrives.tab1 impl_Road_arrives.bits1 (fun HT_ HW_=>?_)
 generalize w10.drew=w11 at BK276 BK277 HB hHeld⊢
 refine pq 0 (N:=some 11) (lb 13 1) HT_ ?_
 refine pq 2 (N:=some 13) (lb 13 5) HT_ ?_
 refine pq 4 (N:=some 15) (lb 13 21) HT_ ?_
 refine pq 8 (N:=some 19) (lb 13 277) HT_ ?_
 refine pq 9 (N:=some 20) (lb 13 789) HT_ ?_
 refine tq 1 (N:=some 12) (lb 13 791) HT_ HW_ hHeld ?_
 refine tq 3 (N:=some 14) (lb 13 799) HT_ HW_ hHeld ?_
 refine tq 7 (N:=some 18) (lb 13 927) HT_ HW_ hHeld ?_
 refine one_ (i:=5) (N:=some 16) (lb 13 959) rfl rfl (one_of HT_.out (by kernel_rfl)) (by decide) (fun K hK=>?_)
 refine goes_ Try.func89 (by kernel_rfl) rfl #[.agg #[.int .i64 a0_0,.bool a0_1],.int .i64 a1_0,.int .i64 a3] (by rfl) rfl rfl gl ?_
 with_reducible refine(impl_Road_gap.calls a0_0 a0_1 a1_0 a3 t278 _ A6.out).mono ?_
 rintro e w12 ⟨rfl,hb⟩
 refine⟨_,rfl,?_⟩
 replace BK276:=kb BK276 hb
 replace BK277:=kb BK277 hb
 replace HB:=ak (below_step (h2 HB.out GE276.out GE277.out) hb)
 (try clear hb)
 (try clear hb2)
 (try clear hk)
 (try clear hi)
 refine hK.out _ _ ⟨bc BK276 0 rfl,bc BK276 1 rfl,bc BK277 0 rfl,bc BK277 1 rfl,bc BK277 2 rfl⟩ (fun hHeld=>?_)
 clear hK K
 refine norm_ (a':=?_) ?_ ?_
 rotate_left
 ·show Act.put _ (some 16) _=_
  simp only[ap]
  rfl
 refine pq 6 (N:=some 17) (lb 13 1023) HT_ ?_
 refine one_ (i:=10) (N:=some 21) (lb 13 2047) rfl rfl (one_of HT_.out (by kernel_rfl)) (by decide) (fun K hK=>?_)
 refine goes_ Try.func89 (by kernel_rfl) rfl #[.agg #[.int .i64 a0_0,.bool a0_1],.int .i64 a3,.int .i64 a4] (by rfl) rfl rfl gl ?_
 with_reducible refine(impl_Road_gap.calls a0_0 a0_1 a3 a4 t279 _ A8.out).mono ?_
 rintro e w13 ⟨rfl,hb⟩
 refine⟨_,rfl,?_⟩
 replace BK276:=kb BK276 hb
 replace BK277:=kb BK277 hb
 replace HB:=ak (below_step (h2 HB.out GE276.out GE277.out) hb)
 (try clear hb)
 (try clear hb2)
 (try clear hk)
 (try clear hi)
 refine hK.out _ _ ⟨bc BK276 0 rfl,bc BK276 1 rfl,bc BK277 0 rfl,bc BK277 1 rfl,bc BK277 2 rfl⟩ (fun hHeld=>?_)
 clear hK K
 refine norm_ (a':=?_) ?_ ?_
 rotate_left
 ·show Act.put _ (some 21) _=_
  simp only[ap]
  rfl
 refine pq 11 (N:=some 22) (lb 13 4095) HT_ ?_
 refine pq 12 (N:=some 10) (lb 13 8191) HT_ ?_
 refine done_ (done_of HT_.out (by kernel_rfl)) ?_
 try go_wp2
 go_ret
 exact⟨by first|rfl|(simp[errW_none,errW_some]<;>rfl)|(simp only[←hji7];first|rfl|(simp[errW_none,errW_some]<;>rfl))|(simp[*,errW_none,errW_some]<;>rfl),h2 HB.out GE276.out GE277.out⟩
end
end Go.Proofs.Ythagkpoinjpmfaa.QFnRelays
