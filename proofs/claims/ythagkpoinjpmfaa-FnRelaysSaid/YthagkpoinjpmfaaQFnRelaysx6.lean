/- Functions that the law FnRelays comes to, and their walks: no condition but those named. -/
import Derived.Test.YthagkpoinjpmfaaQFnRelaysx0
import Derived.Test.YthagkpoinjpmfaaQFnRelaysx2
import Derived.Test.YthagkpoinjpmfaaQFnRelaysx4
import Derived.Test.YthagkpoinjpmfaaQFnRelaysx5
namespace Go.Proofs.Ythagkpoinjpmfaa.QFnRelays
open Go.RowKit Go.Proofs.YthagkpoinjpmfaaW.PrintWords Go.Proofs.YthagkpoinjpmfaaW.PrintLast Go.Proofs.YthagkpoinjpmfaaW.PrintMore Go.Proofs.Ythagkpoinjpmfaa.Short
attribute [local go_sem] max2_int min2_int max_two min_two max_three min_three max_four min_four
set_option linter.unusedVariables false
set_option linter.unusedSimpArgs false
section
open Kd
mutual
def spec_RelayPrice.j0:Nat→List (S63)→List (S70)→Bool→Int→Bool→Option (Int × Bool)
 | 0,_,_,_,_,_=>none
 | k+1,x1,x4,x29,x230000,x230001=>if x29=true then(some (0,false))else(spec_RelayPrice.l0 k x1 x4 0 0 x230000 x230001)
def spec_RelayPrice.l0:Nat→List (S63)→List (S70)→Int→Int→Int→Bool→Option (Int × Bool)
 | 0,_,_,_,_,_,_=>none
 | k+1,x1,x4,x12,x13,x230000,x230001=>if x13<(x4.length:Int)then(if 0≤x13 then(if 0≤((rd_T70 x4 x13).f0)then(if((rd_T70 x4 x13).f0)<(x1.length:Int)then((spec_l7Steps.f x230000 x230001 ((rd_T63 x1 ((rd_T70 x4 x13).f0)).f0) ((rd_T63 x1 ((rd_T70 x4 x13).f0)).f1) ((rd_T63 x1 ((rd_T70 x4 x13).f0)).f2) ((rd_T70 x4 x13).f1) ((rd_T70 x4 x13).f2)).bind fun t237=>(spec_RelayPrice.l0 k x1 x4 (wrap64 (x12+(wrap64 (((rd_T63 x1 ((rd_T70 x4 x13).f0)).f2)*t237)))) (wrap64 (x13+1)) x230000 x230001))else(none))else(none))else(none))else(some (x12,true))
end
def spec_RelayPrice.f (k:Nat) (a0_0:Int) (a0_1:Bool) (l1:List (S63)) (a2:Int) (a3:Int) (l4:List (S70)):Option (Int × Bool):=(spec_l7Asks.f k a0_0 a0_1 l1 a2 a3).bind fun t230=>(if t230=true then((spec_l7Relay.f k a0_0 a0_1 l1 a2 a3 l4).bind fun t231=>(spec_RelayPrice.j0 k l1 l4 (!t231) a0_0 a0_1))else(spec_RelayPrice.j0 k l1 l4 true a0_0 a0_1))
theorem spec_RelayPrice.mono_l:∀ k,(∀ y0 y1 y2 y3 y4,LeO (spec_RelayPrice.j0 k y0 y1 y2 y3 y4) (spec_RelayPrice.j0 (k+1) y0 y1 y2 y3 y4))∧(∀ y0 y1 y2 y3 y4 y5,LeO (spec_RelayPrice.l0 k y0 y1 y2 y3 y4 y5) (spec_RelayPrice.l0 (k+1) y0 y1 y2 y3 y4 y5))
 | 0=>by
  refine⟨?_,?_⟩<;>(intros;intro r h;simp[spec_RelayPrice.j0,spec_RelayPrice.l0]at h)
 | k+1=>by
  obtain⟨ih0,ih1⟩:=spec_RelayPrice.mono_l k
  refine⟨?_,?_⟩<;>intros<;>(first|unfold spec_RelayPrice.j0|unfold spec_RelayPrice.l0)<;>(repeat' (with_reducible first|exact ih0 ..|exact ih1 ..|exact spec_l7Asks.mono ..|exact spec_l7Relay.mono ..|exact LeO.refl _|exact LeO.none _|refine LeO.ite ?_ ?_|refine LeO.bind ?_ (fun _=>?_)))
theorem spec_RelayPrice.mono:∀ a0 a1 a2 a3 a4 a5 k,LeO (spec_RelayPrice.f k a0 a1 a2 a3 a4 a5) (spec_RelayPrice.f (k+1) a0 a1 a2 a3 a4 a5):=by
 intro a0 a1 a2 a3 a4 a5 k
 obtain⟨ih0,ih1⟩:=spec_RelayPrice.mono_l k
 unfold spec_RelayPrice.f
 repeat' (with_reducible first|exact ih0 ..|exact ih1 ..|exact spec_l7Asks.mono ..|exact spec_l7Relay.mono ..|exact LeO.refl _|exact LeO.none _|refine LeO.ite ?_ ?_|refine LeO.bind ?_ (fun _=>?_))
def spec_RelayPrice.T8:Bool × List (List Nat × List Nat):=(true,[([],[]),([],[]),([1],[1]),([],[]),([],[]),([],[]),([],[]),([5,6],[5,6]),([7],[7]),([8],[8]),([],[]),([],[]),([10,11],[10,11]),([12],[12]),([13],[13]),([3,4,9,14],[3,4,9,14]),([2,15],[2,15]),([0,16],[0,16]),([17,15,0,1,2,3,4,5,6,7,8,9,10,11,12,13,14,15,16,17],[0,17])])
def spec_RelayPrice.B8:List Nat:=[0,0,2,0,0,0,0,96,224,480,0,0,3072,7168,15360,32760,65534,131071,262143]
theorem spec_RelayPrice.tab8:rtab .any (opsOf Try.f17 8)=spec_RelayPrice.T8:=by kernel_rfl
theorem spec_RelayPrice.bits8:waitsOk spec_RelayPrice.T8.2 spec_RelayPrice.B8=true:=by kernel_rfl
set_option maxHeartbeats 8000000 in
set_option maxRecDepth 100000 in
theorem spec_RelayPrice.calls (k:Nat) (a0_0:Int) (a0_1:Bool) (A1:Option Addr) (c1:Nat) (l1:List (S63)) (a2:Int) (a3:Int) (A4:Option Addr) (c4:Nat) (l4:List (S70)) (r1:Int) (r2:Bool) (w:World) (hr1:Kd.C k63 w A1 l1.length l1) (hc1:l1.length≤c1) (hr4:Kd.C k70 w A4 l4.length l4) (hc4:l4.length≤c4) (h:spec_RelayPrice.f k a0_0 a0_1 l1 a2 a3 l4=some (r1,r2)):
  Calls Try.prog 17 #[.agg #[.int .i64 a0_0,.bool a0_1],.slice A1 l1.length c1,.int .i64 a2,.int .i64 a3,.slice A4 l4.length c4] w fun e w'=>e= .returned (.tuple #[.int .i64 r1,.bool r2])∧Below w.heap.size w w':=by
 have hu28:=Try.underlying28
 have hu63:=Try.underlying63
 have HR1:=Aside0.mk hr1
 have HC1:=Aside0.mk hc1
 clear hr1 hc1
 have HR4:=Aside0.mk hr4
 have HC4:=Aside0.mk hc4
 clear hr4 hc4
 have HB:=Aside0.mk (Below.refl w.heap.size w)
 unfold spec_RelayPrice.f at h
 have H:=h
 clear h
 have HC6:=Aside0.mk H
 clear H
 go_enter Try.func17,Try.ntmps17
 go_upto_region 1 with(first|(refine bx 5 #[.int .i64 a0_0,.bool a0_1] 28 ?_;intro gb229 hg w7 hbox hb;have BK229:=ak hbox;have GW229:=gw HB hg;have GE229:=gw HB hg;replace HB:=bs HB hb;clear hb hbox hg))
 (try simp only[ap])
 go_cut [29] (fun v29 wc=>∃ (kq:Nat) (x29_5:Bool),v29= .bool x29_5∧Aside0 (spec_RelayPrice.j0 kq l1 l4 x29_5 a0_0 a0_1=some (r1,r2))∧Aside0 (kq≤k)∧Aside0 (wc.heap[gb229]? =some (.cells #[.int .i64 a0_0,.bool a0_1] 28 (0,0)))∧Aside0 (Below w.heap.size w wc))
 case first=>
  have H:=HC6.out
  clear HC6
  obtain⟨t230,A8,H⟩:=bd H;(try dsimp only at H)
  by_cases c9:t230=true
  rotate_left
  ·replace c9:=Bool.eq_false_iff.mpr c9
   subst c9
   rw[if_neg (show ¬(false=true)by decide)]at H
   have H':=Aside0.mk H
   clear H
   have hcz15_0:=bc BK229 0 rfl
   have hcz15_1:=bc BK229 1 rfl
   have hfz15_0:=bf BK229 0
   have hfz15_1:=bf BK229 1
   go_wp2_with (first|(refine gs 19 Try.func55 #[.agg #[.int .i64 a0_0,.bool a0_1],.slice A1 l1.length c1,.int .i64 a2,.int .i64 a3] ?_;(with_reducible refine(spec_l7Asks.calls k a0_0 a0_1 _ _ l1 a2 a3 false _ ?side1 ?side2 A8.out).mono ?_);(case side1=>exact cm (C_below HR1.out HB.out));(case side2=>exact HC1.out);rintro e w16 ⟨rfl,hb⟩;refine⟨_,rfl,?_⟩;replace BK229:=kb BK229 hb;replace HB:=ak (below_step (h1 HB.out GE229.out) hb);(try clear hb);(try clear hk);(try clear hi)))
   go_meet
   case rel=>exact⟨_,(true),fd,H',⟨by first|exact Nat.le_refl _|omega⟩,⟨bm BK229.out⟩,⟨h1 HB.out GE229.out⟩⟩
  subst c9
  rw[if_pos rfl]at H
  obtain⟨t231,A10,H⟩:=bd H;(try dsimp only at H)
  have H':=Aside0.mk H
  clear H
  have hcz11_0:=bc BK229 0 rfl
  have hcz11_1:=bc BK229 1 rfl
  have hfz11_0:=bf BK229 0
  have hfz11_1:=bf BK229 1
  go_wp2_with (first|(refine gs 19 Try.func55 #[.agg #[.int .i64 a0_0,.bool a0_1],.slice A1 l1.length c1,.int .i64 a2,.int .i64 a3] ?_;(with_reducible refine(spec_l7Asks.calls k a0_0 a0_1 _ _ l1 a2 a3 true _ ?side1 ?side2 A8.out).mono ?_);(case side1=>exact cm (C_below HR1.out HB.out));(case side2=>exact HC1.out);rintro e w12 ⟨rfl,hb⟩;refine⟨_,rfl,?_⟩;replace BK229:=kb BK229 hb;replace HB:=ak (below_step (h1 HB.out GE229.out) hb);(try clear hb);(try clear hk);(try clear hi);have hcz13_0:=bc BK229 0 rfl;have hcz13_1:=bc BK229 1 rfl;have hfz13_0:=bf BK229 0;have hfz13_1:=bf BK229 1)|(go_at_call 60;(with_reducible refine(spec_l7Relay.calls k a0_0 a0_1 _ _ l1 a2 a3 _ _ l4 t231 _ ?side1 ?side2 ?side3 ?side4 A10.out).mono ?_);(case side1=>exact cm (C_below HR1.out HB.out));(case side2=>exact HC1.out);(case side3=>exact cm (C_below HR4.out HB.out));(case side4=>exact HC4.out);rintro e w14 ⟨rfl,hb⟩;replace BK229:=kb BK229 hb;replace HB:=ak (below_step (h1 HB.out GE229.out) hb);(try clear hb);(try clear hk);(try clear hi)))
  go_meet
  case rel=>exact⟨_,(!t231),fd,H',⟨by first|exact Nat.le_refl _|omega⟩,⟨bm BK229.out⟩,⟨h1 HB.out GE229.out⟩⟩
 clear HC6
 try clear c1
 try clear p2
 try clear c4
 try clear c5
 try clear c9
 try clear hcz11_0
 try clear hcz11_1
 try clear hcz13_0
 try clear hcz13_1
 try clear hcz15_0
 try clear hcz15_1
 try clear hfz11_0
 try clear hfz11_1
 try clear hfz13_0
 try clear hfz13_1
 try clear hfz15_0
 try clear hfz15_1
 obtain⟨kq,x29_5,rfl,HA,HJ5,BK229,HB⟩:=hcut
 obtain _|kj5:=kq;·cases HA.out
 obtain⟨H⟩:=HA
 simp only[spec_RelayPrice.j0]at H
 by_cases c17:x29_5=true
 ·subst c17
  rw[if_pos rfl]at H
  simp only[Option.some.injEq,Prod.mk.injEq]at H
  obtain⟨rfl,rfl⟩:=H
  go_wp2
  go_ret2
  exact⟨fe,h1 HB.out GE229.out⟩
 replace c17:=Bool.eq_false_iff.mpr c17
 subst c17
 rw[if_neg (show ¬(false=true)by decide)]at H
 have H':=Aside0.mk H
 clear H
 go_wp2
 go_loopg [12,13] kj5 (fun kq v12 v13 w'=>∃ (x12_2:Int) (x13_2:Int),v12= .int .i64 x12_2∧v13= .int .i64 x13_2∧Aside0 (spec_RelayPrice.l0 kq l1 l4 x12_2 x13_2 a0_0 a0_1=some (r1,r2))∧Aside0 (kq≤kj5)∧Aside0 (w'.heap[gb229]? =some (.cells #[.int .i64 a0_0,.bool a0_1] 28 (0,0)))∧Aside0 (Below w.heap.size w w'))
 case atStart=>exact⟨(0),(0),fd,fd,H',⟨Nat.le_refl _⟩,⟨bm BK229.out⟩,⟨h1 HB.out GE229.out⟩⟩
 clear H'
 try clear c1
 try clear p2
 try clear c4
 try clear c5
 try clear c9
 try clear c17
 try clear hcz11_0
 try clear hcz11_1
 try clear hcz13_0
 try clear hcz13_1
 try clear hcz15_0
 try clear hcz15_1
 try clear hfz11_0
 try clear hfz11_1
 try clear hfz13_0
 try clear hfz13_1
 try clear hfz15_0
 try clear hfz15_1
 try clear p2
 obtain⟨x12_2,x13_2,rfl,rfl,HA,HK2,BK229,HB⟩:=hrel
 obtain _|k2:=gk;·cases HA.out
 obtain⟨H⟩:=HA
 simp only[spec_RelayPrice.l0]at H
 by_cases c18:x13_2<(l4.length:Int)
 rotate_left
 ·rw[if_neg c18]at H
  have c18b0:decide (x13_2<(l4.length:Int))=false:=decide_eq_false c18
  clear c18
  simp only[Option.some.injEq,Prod.mk.injEq]at H
  obtain⟨rfl,rfl⟩:=H
  go_wp2
  go_ret2
  exact⟨fe,h1 HB.out GE229.out⟩
 rw[if_pos c18]at H
 have c18b0:decide (x13_2<(l4.length:Int))=true:=decide_eq_true c18
 clear c18
 obtain⟨c19,H⟩:=gi H
 have c19b0:decide (0≤x13_2)=true:=decide_eq_true c19
 clear c19
 obtain⟨c20,H⟩:=gi H
 have c20b0:decide (0≤((rd_T70 l4 x13_2).f0))=true:=decide_eq_true c20
 clear c20
 obtain⟨c21,H⟩:=gi H
 have c21b0:decide (((rd_T70 l4 x13_2).f0)<(l1.length:Int))=true:=decide_eq_true c21
 clear c21
 obtain⟨t237,A22,H⟩:=bd H;(try dsimp only at H)
 have H':=Aside0.mk H
 clear H
 have p232:0≤(x13_2:Int):=od
 have q232:x13_2<(l4.length:Int):=od
 obtain⟨ad232,e232,hx232_0,hx232_1,hx232_2⟩:=at_T70 HR4.out x13_2 p232 q232
 cases e232
 replace hx232_0:=hc HB hx232_0
 replace hx232_1:=hc HB hx232_1
 replace hx232_2:=hc HB hx232_2
 replace p232:=eq_true p232
 replace q232:=eq_true q232
 have p233:0≤(((rd_T70 l4 x13_2).f0):Int):=od
 have q233: ((rd_T70 l4 x13_2).f0)<(l1.length:Int):=od
 obtain⟨ad233,e233,hx233_0,hx233_1,hx233_2⟩:=at_T63 HR1.out ((rd_T70 l4 x13_2).f0) p233 q233
 cases e233
 replace hx233_0:=hc HB hx233_0
 replace hx233_1:=hc HB hx233_1
 replace hx233_2:=hc HB hx233_2
 replace p233:=eq_true p233
 replace q233:=eq_true q233
 try go_wp2_with (first|(refine bx 14 #[.int .i64 0,.int .i64 0,.int .i64 0] 63 ?_;intro gb234 hg w23 hbox hb;have BK234:=ak hbox;have GW234:=ak ((by rw[hg];exact(below_size (h1 HB.out GE229.out)):w.heap.size≤gb234));have GE234:=ak ((by rw[hg];exact(below_size (h1 HB.out GE229.out)):w.heap.size≤gb234));replace HB:=ak (below_step (h1 HB.out GE229.out) hb);have NB229_234:=nl BK229 hg;have NB234_229:=ng BK229 hg;replace BK229:=kb BK229 hb;clear hb hbox hg;have hnb24:=NB234_229.out;have hnc24:=NB229_234.out;have hcz25_0:=bc BK234 0 rfl;have hcz25_1:=bc BK234 1 rfl;have hcz25_2:=bc BK234 2 rfl;have hfz25_0:=bf BK234 0;have hfz25_1:=bf BK234 1;have hfz25_2:=bf BK234 2))
 have n0_:Aside0 ((((w23.setCell ⟨gb234,0,none⟩ (.int .i64 ((rd_T63 l1 ((rd_T70 l4 x13_2).f0)).f0))).setCell ⟨gb234,1,none⟩ (.int .i64 ((rd_T63 l1 ((rd_T70 l4 x13_2).f0)).f1))).setCell ⟨gb234,2,none⟩ (.int .i64 ((rd_T63 l1 ((rd_T70 l4 x13_2).f0)).f2))).heap[gb229]? =some (.cells #[.int .i64 a0_0,.bool a0_1] 28 (0,0))):=⟨by(with_reducible repeat(first|apply blk_drewN|apply blk_drew|apply blk_alloc));refine blk_far ?_ NB229_234.out _;(with_reducible repeat(first|apply blk_drewN|apply blk_drew|apply blk_alloc));refine blk_far ?_ NB229_234.out _;(with_reducible repeat(first|apply blk_drewN|apply blk_drew|apply blk_alloc));refine blk_far ?_ NB229_234.out _;exact bm BK229.out⟩
 have n1_:Aside0 ((((w23.setCell ⟨gb234,0,none⟩ (.int .i64 ((rd_T63 l1 ((rd_T70 l4 x13_2).f0)).f0))).setCell ⟨gb234,1,none⟩ (.int .i64 ((rd_T63 l1 ((rd_T70 l4 x13_2).f0)).f1))).setCell ⟨gb234,2,none⟩ (.int .i64 ((rd_T63 l1 ((rd_T70 l4 x13_2).f0)).f2))).heap[gb234]? =some (.cells #[.int .i64 ((rd_T63 l1 ((rd_T70 l4 x13_2).f0)).f0),.int .i64 ((rd_T63 l1 ((rd_T70 l4 x13_2).f0)).f1),.int .i64 ((rd_T63 l1 ((rd_T70 l4 x13_2).f0)).f2)] 63 (0,0))):=⟨by(with_reducible repeat(first|apply blk_drewN|apply blk_drew|apply blk_alloc));refine blk_put (cs:=#[.int .i64 ((rd_T63 l1 ((rd_T70 l4 x13_2).f0)).f0),.int .i64 ((rd_T63 l1 ((rd_T70 l4 x13_2).f0)).f1),.int .i64 0]) ?_ 2 _ rfl;(with_reducible repeat(first|apply blk_drewN|apply blk_drew|apply blk_alloc));refine blk_put (cs:=#[.int .i64 ((rd_T63 l1 ((rd_T70 l4 x13_2).f0)).f0),.int .i64 0,.int .i64 0]) ?_ 1 _ rfl;(with_reducible repeat(first|apply blk_drewN|apply blk_drew|apply blk_alloc));refine blk_put (cs:=#[.int .i64 0,.int .i64 0,.int .i64 0]) ?_ 0 _ rfl;exact bm BK234.out⟩
 have n2_:Aside0 (Below w.heap.size w (((w23.setCell ⟨gb234,0,none⟩ (.int .i64 ((rd_T63 l1 ((rd_T70 l4 x13_2).f0)).f0))).setCell ⟨gb234,1,none⟩ (.int .i64 ((rd_T63 l1 ((rd_T70 l4 x13_2).f0)).f1))).setCell ⟨gb234,2,none⟩ (.int .i64 ((rd_T63 l1 ((rd_T70 l4 x13_2).f0)).f2)))):=⟨h2 HB.out GE229.out GE234.out⟩
 (try clear BK229)
 (try clear BK234)
 (try clear HB)
 generalize (((w23.setCell ⟨gb234,0,none⟩ (.int .i64 ((rd_T63 l1 ((rd_T70 l4 x13_2).f0)).f0))).setCell ⟨gb234,1,none⟩ (.int .i64 ((rd_T63 l1 ((rd_T70 l4 x13_2).f0)).f1))).setCell ⟨gb234,2,none⟩ (.int .i64 ((rd_T63 l1 ((rd_T70 l4 x13_2).f0)).f2)))=w26 at n0_ n1_ n2_⊢
 have BK229:=n0_
 have BK234:=n1_
 have HB:=n2_
 clear n0_ n1_ n2_
 replace BK229:=ak (blk_drew BK229.out)
 replace BK234:=ak (blk_drew BK234.out)
 replace HB:=ak (below_drew1 HB.out)
 have p235:0≤(x13_2:Int):=od
 have q235:x13_2<(l4.length:Int):=od
 obtain⟨ad235,e235,hx235_0,hx235_1,hx235_2⟩:=at_T70 HR4.out x13_2 p235 q235
 have hw235_2:=hx235_2
 have hw235_1:=hx235_1
 have hw235_0:=hx235_0
 obtain rfl:ad232=ad235:=(by injection e235)
 replace hx235_0:=hc HB hx235_0
 replace hx235_1:=hc HB hx235_1
 replace hx235_2:=hc HB hx235_2
 replace p235:=eq_true p235
 replace q235:=eq_true q235
 have p236:0≤(x13_2:Int):=od
 have q236:x13_2<(l4.length:Int):=od
 obtain⟨ad236,e236,hx236_0,hx236_1,hx236_2⟩:=at_T70 HR4.out x13_2 p236 q236
 have hw236_2:=hx236_2
 have hw236_1:=hx236_1
 have hw236_0:=hx236_0
 obtain rfl:ad232=ad236:=(by injection e236)
 replace hx236_0:=hc HB hx236_0
 replace hx236_1:=hc HB hx236_1
 replace hx236_2:=hc HB hx236_2
 replace p236:=eq_true p236
 replace q236:=eq_true q236
 refine start_ (n:=19) (S:=fun w'=>w'.cell? ⟨gb234,0,none⟩=some (.int .i64 ((rd_T63 l1 ((rd_T70 l4 x13_2).f0)).f0))∧w'.cell? ⟨gb234,1,none⟩=some (.int .i64 ((rd_T63 l1 ((rd_T70 l4 x13_2).f0)).f1))∧w'.cell? ⟨gb234,2,none⟩=some (.int .i64 ((rd_T63 l1 ((rd_T70 l4 x13_2).f0)).f2))∧w'.cell? ⟨gb229,0,none⟩=some (.int .i64 a0_0)∧w'.cell? ⟨gb229,1,none⟩=some (.bool a0_1)∧w'.cell? (ad232.add ((x13_2).toNat*3))=some (.int .i64 ((rd_T70 l4 x13_2).f0))∧w'.cell? ⟨(ad232.add ((x13_2).toNat*3)).block,(ad232.add ((x13_2).toNat*3)).off+1,none⟩=some (.int .i64 ((rd_T70 l4 x13_2).f1))∧w'.cell? ⟨(ad232.add ((x13_2).toNat*3)).block,(ad232.add ((x13_2).toNat*3)).off+2,none⟩=some (.int .i64 ((rd_T70 l4 x13_2).f2))∧w'.cell? (ad232.add ((x13_2).toNat*3))=some (.int .i64 ((rd_T70 l4 x13_2).f0))∧w'.cell? ⟨(ad232.add ((x13_2).toNat*3)).block,(ad232.add ((x13_2).toNat*3)).off+1,none⟩=some (.int .i64 ((rd_T70 l4 x13_2).f1))∧w'.cell? ⟨(ad232.add ((x13_2).toNat*3)).block,(ad232.add ((x13_2).toNat*3)).off+2,none⟩=some (.int .i64 ((rd_T70 l4 x13_2).f2))) (ds:=[]) (lb 19 0) (by kernel_rfl) rfl rfl ⟨bc BK234 0 rfl,bc BK234 1 rfl,bc BK234 2 rfl,bc BK229 0 rfl,bc BK229 1 rfl,((HB.out.cell (World.block_lt_of_cell? w _ hw235_0)).trans hw235_0),((HB.out.cell (World.block_lt_of_cell? w _ hw235_1)).trans hw235_1),((HB.out.cell (World.block_lt_of_cell? w _ hw235_2)).trans hw235_2),((HB.out.cell (World.block_lt_of_cell? w _ hw236_0)).trans hw236_0),((HB.out.cell (World.block_lt_of_cell? w _ hw236_1)).trans hw236_1),((HB.out.cell (World.block_lt_of_cell? w _ hw236_2)).trans hw236_2)⟩ (fun hHeld=>?_);refine with_tabW spec_RelayPrice.tab8 spec_RelayPrice.bits8 (fun HT_ HW_=>?_)
 generalize w26.drew=w27 at BK229 BK234 HB hx235_0 hx235_1 hx235_2 hx236_0 hx236_1 hx236_2 hHeld⊢
 refine pq 0 (N:=some 44) (lb 19 1) HT_ ?_
 refine pq 1 (N:=some 45) (lb 19 3) HT_ ?_
 refine pq 5 (N:=some 49) (lb 19 35) HT_ ?_
 refine pq 6 (N:=some 50) (lb 19 99) HT_ ?_
 refine pq 7 (N:=some 51) (lb 19 227) HT_ ?_
 refine pq 8 (N:=some 52) (lb 19 483) HT_ ?_
 refine pq 10 (N:=some 54) (lb 19 1507) HT_ ?_
 refine pq 11 (N:=some 55) (lb 19 3555) HT_ ?_
 refine pq 12 (N:=some 56) (lb 19 7651) HT_ ?_
 refine pq 13 (N:=some 57) (lb 19 15843) HT_ ?_
 refine take_ (i:=2) (N:=some 46) (v:=?_) (a':=?_) (lb 19 15847) rfl rfl (take_ofW HT_.out HW_.out (by kernel_rfl)) (fun _ _ _ h=>h) (Or.inl ⟨by rfl,?_⟩) hHeld ?_ ?_
 rotate_left
 ·rintro w' ⟨s0,s1,s2,s3,s4,s5,s6,s7,s8,s9,s10⟩
  go_simp
  with_reducible rfl
 rotate_left
 ·simp only[ap]
  rfl
 refine take_ (i:=3) (N:=some 47) (v:=?_) (a':=?_) (lb 19 15855) rfl rfl (take_ofW HT_.out HW_.out (by kernel_rfl)) (fun _ _ _ h=>h) (Or.inl ⟨by rfl,?_⟩) hHeld ?_ ?_
 rotate_left
 ·rintro w' ⟨s0,s1,s2,s3,s4,s5,s6,s7,s8,s9,s10⟩
  go_simp
  with_reducible rfl
 rotate_left
 ·simp only[ap]
  rfl
 refine take_ (i:=4) (N:=some 48) (v:=?_) (a':=?_) (lb 19 15871) rfl rfl (take_ofW HT_.out HW_.out (by kernel_rfl)) (fun _ _ _ h=>h) (Or.inl ⟨by rfl,?_⟩) hHeld ?_ ?_
 rotate_left
 ·rintro w' ⟨s0,s1,s2,s3,s4,s5,s6,s7,s8,s9,s10⟩
  go_simp
  with_reducible rfl
 rotate_left
 ·simp only[ap]
  rfl
 refine take_ (i:=9) (N:=some 53) (v:=?_) (a':=?_) (lb 19 16383) rfl rfl (take_ofW HT_.out HW_.out (by kernel_rfl)) (fun _ _ _ h=>h) (Or.inl ⟨by rfl,?_⟩) hHeld ?_ ?_
 rotate_left
 ·rintro w' ⟨s0,s1,s2,s3,s4,s5,s6,s7,s8,s9,s10⟩
  go_simp
  with_reducible rfl
 rotate_left
 ·simp only[ap]
  rfl
 refine take_ (i:=14) (N:=some 58) (v:=?_) (a':=?_) (lb 19 32767) rfl rfl (take_ofW HT_.out HW_.out (by kernel_rfl)) (fun _ _ _ h=>h) (Or.inl ⟨by rfl,?_⟩) hHeld ?_ ?_
 rotate_left
 ·rintro w' ⟨s0,s1,s2,s3,s4,s5,s6,s7,s8,s9,s10⟩
  go_simp
  with_reducible rfl
 rotate_left
 ·simp only[ap]
  rfl
 refine one_ (i:=15) (N:=some 59) (lb 19 65535) rfl rfl (one_of HT_.out (by kernel_rfl)) (by decide) (fun K hK=>?_)
 refine goes_ Try.func61 (by kernel_rfl) rfl #[.agg #[.int .i64 a0_0,.bool a0_1],.agg #[.int .i64 ((rd_T63 l1 ((rd_T70 l4 x13_2).f0)).f0),.int .i64 ((rd_T63 l1 ((rd_T70 l4 x13_2).f0)).f1),.int .i64 ((rd_T63 l1 ((rd_T70 l4 x13_2).f0)).f2)],.int .i64 ((rd_T70 l4 x13_2).f1),.int .i64 ((rd_T70 l4 x13_2).f2)] (by rfl) rfl rfl gl ?_
 with_reducible refine(spec_l7Steps.calls a0_0 a0_1 ((rd_T63 l1 ((rd_T70 l4 x13_2).f0)).f0) ((rd_T63 l1 ((rd_T70 l4 x13_2).f0)).f1) ((rd_T63 l1 ((rd_T70 l4 x13_2).f0)).f2) ((rd_T70 l4 x13_2).f1) ((rd_T70 l4 x13_2).f2) t237 _ A22.out).mono ?_
 rintro e w28 ⟨rfl,hb⟩
 refine⟨_,rfl,?_⟩
 replace BK229:=kb BK229 hb
 replace BK234:=kb BK234 hb
 replace HB:=ak (below_step (h2 HB.out GE229.out GE234.out) hb)
 (try clear hb)
 (try clear hb2)
 (try clear hk)
 (try clear hi)
 refine hK.out _ _ ⟨bc BK234 0 rfl,bc BK234 1 rfl,bc BK234 2 rfl,bc BK229 0 rfl,bc BK229 1 rfl,((HB.out.cell (World.block_lt_of_cell? w _ hw235_0)).trans hw235_0),((HB.out.cell (World.block_lt_of_cell? w _ hw235_1)).trans hw235_1),((HB.out.cell (World.block_lt_of_cell? w _ hw235_2)).trans hw235_2),((HB.out.cell (World.block_lt_of_cell? w _ hw236_0)).trans hw236_0),((HB.out.cell (World.block_lt_of_cell? w _ hw236_1)).trans hw236_1),((HB.out.cell (World.block_lt_of_cell? w _ hw236_2)).trans hw236_2)⟩ (fun hHeld=>?_)
 clear hK K
 refine norm_ (a':=?_) ?_ ?_
 rotate_left
 ·show Act.put _ (some 59) _=_
  simp only[ap]
  rfl
 refine pq 16 (N:=some 60) (lb 19 131071) HT_ ?_
 refine pq 17 (N:=some 61) (lb 19 262143) HT_ ?_
 refine pq 18 (N:=some 12) (lb 19 524287) HT_ ?_
 refine done_ (done_of HT_.out (by kernel_rfl)) ?_
 try go_wp2
 go_roundg k2
 case measure=>have:=HJ5.out;have:=HK2.out;omega
 case rel=>exact⟨(wrap64 (x12_2+(wrap64 (((rd_T63 l1 ((rd_T70 l4 x13_2).f0)).f2)*t237)))),(wrap64 (x13_2+1)),fd,fd,H',⟨by have:=HJ5.out;have:=HK2.out;omega⟩,⟨bm BK229.out⟩,⟨h2 HB.out GE229.out GE234.out⟩⟩
def impl_Road_steps.f (a0_0:Int) (a0_1:Bool) (a1_0:Int) (a1_1:Int) (a1_2:Int) (a2:Int) (a3:Int):Option (Int):=(impl_Road_gap.f a0_0 a0_1 a1_0 a2).bind fun t240=>((impl_Road_gap.f a0_0 a0_1 a2 a3).bind fun t241=>(some (wrap64 (t240+t241))))
def impl_Road_steps.T1:Bool × List (List Nat × List Nat):=(true,[([],[]),([],[]),([1],[1]),([],[]),([0,2,3],[0,2,3]),([],[]),([],[]),([],[]),([5,6,7,4],[5,6,7]),([4,8],[4,8]),([9,8,0,1,2,3,4,5,6,7,8,9],[9])])
def impl_Road_steps.B1:List Nat:=[0,0,2,0,15,0,0,0,255,511,1023]
theorem impl_Road_steps.tab1:rtab .any (opsOf Try.f65 1)=impl_Road_steps.T1:=by kernel_rfl
theorem impl_Road_steps.bits1:waitsOk impl_Road_steps.T1.2 impl_Road_steps.B1=true:=by kernel_rfl
set_option maxHeartbeats 8000000 in
set_option maxRecDepth 100000 in
theorem impl_Road_steps.calls (a0_0:Int) (a0_1:Bool) (a1_0:Int) (a1_1:Int) (a1_2:Int) (a2:Int) (a3:Int) (r:Int) (w:World) (h:impl_Road_steps.f a0_0 a0_1 a1_0 a1_1 a1_2 a2 a3=some r):
  Calls Try.prog 65 #[.agg #[.int .i64 a0_0,.bool a0_1],.agg #[.int .i64 a1_0,.int .i64 a1_1,.int .i64 a1_2],.int .i64 a2,.int .i64 a3] w fun e w'=>e= .returned (.int .i64 r)∧Below w.heap.size w w':=by
 have hu28:=Try.underlying28
 have hu63:=Try.underlying63
 have HB:=Aside0.mk (Below.refl w.heap.size w)
 unfold impl_Road_steps.f at h
 have H:=h
 clear h
 obtain⟨t240,A5,H⟩:=bd H;(try dsimp only at H)
 obtain⟨t241,A6,H⟩:=bd H;(try dsimp only at H)
 obtain rfl:=Option.some.inj H
 go_enter Try.func65,Try.ntmps65
 try go_wp2_with (first|(refine bx 4 #[.int .i64 a0_0,.bool a0_1] 28 ?_;intro gb238 hg w7 hbox hb;have BK238:=ak hbox;have GW238:=gw HB hg;have GE238:=gw HB hg;replace HB:=bs HB hb;clear hb hbox hg)|(refine bx 5 #[.int .i64 a1_0,.int .i64 a1_1,.int .i64 a1_2] 63 ?_;intro gb239 hg w8 hbox hb;have BK239:=ak hbox;have GW239:=ak ((by rw[hg];exact(below_size (h1 HB.out GE238.out)):w.heap.size≤gb239));have GE239:=ak ((by rw[hg];exact(below_size (h1 HB.out GE238.out)):w.heap.size≤gb239));replace HB:=ak (below_step (h1 HB.out GE238.out) hb);have NB238_239:=nl BK238 hg;have NB239_238:=ng BK238 hg;replace BK238:=kb BK238 hb;clear hb hbox hg))
 replace BK238:=ak (blk_drew BK238.out)
 replace BK239:=ak (blk_drew BK239.out)
 replace HB:=ak (below_drew1 HB.out)
 refine start_ (n:=11) (S:=fun w'=>w'.cell? ⟨gb238,0,none⟩=some (.int .i64 a0_0)∧w'.cell? ⟨gb238,1,none⟩=some (.bool a0_1)∧w'.cell? ⟨gb239,0,none⟩=some (.int .i64 a1_0)∧w'.cell? ⟨gb239,1,none⟩=some (.int .i64 a1_1)∧w'.cell? ⟨gb239,2,none⟩=some (.int .i64 a1_2)) (ds:=[]) (lb 11 0) (by kernel_rfl) rfl rfl ⟨bc BK238 0 rfl,bc BK238 1 rfl,bc BK239 0 rfl,bc BK239 1 rfl,bc BK239 2 rfl⟩ (fun hHeld=>?_);refine with_tabW impl_Road_steps.tab1 impl_Road_steps.bits1 (fun HT_ HW_=>?_)
 generalize w8.drew=w9 at BK238 BK239 HB hHeld⊢
 refine pq 1 (N:=some 10) (lb 11 2) HT_ ?_
 refine pq 3 (N:=some 12) (lb 11 10) HT_ ?_
 refine pq 6 (N:=some 15) (lb 11 74) HT_ ?_
 refine pq 7 (N:=some 16) (lb 11 202) HT_ ?_
 refine tq 0 (N:=some 9) (lb 11 203) HT_ HW_ hHeld ?_
 refine tq 2 (N:=some 11) (lb 11 207) HT_ HW_ hHeld ?_
 refine tq 5 (N:=some 14) (lb 11 239) HT_ HW_ hHeld ?_
 refine one_ (i:=4) (N:=some 13) (lb 11 255) rfl rfl (one_of HT_.out (by kernel_rfl)) (by decide) (fun K hK=>?_)
 refine goes_ Try.func89 (by kernel_rfl) rfl #[.agg #[.int .i64 a0_0,.bool a0_1],.int .i64 a1_0,.int .i64 a2] (by rfl) rfl rfl gl ?_
 with_reducible refine(impl_Road_gap.calls a0_0 a0_1 a1_0 a2 t240 _ A5.out).mono ?_
 rintro e w10 ⟨rfl,hb⟩
 refine⟨_,rfl,?_⟩
 replace BK238:=kb BK238 hb
 replace BK239:=kb BK239 hb
 replace HB:=ak (below_step (h2 HB.out GE238.out GE239.out) hb)
 (try clear hb)
 (try clear hb2)
 (try clear hk)
 (try clear hi)
 refine hK.out _ _ ⟨bc BK238 0 rfl,bc BK238 1 rfl,bc BK239 0 rfl,bc BK239 1 rfl,bc BK239 2 rfl⟩ (fun hHeld=>?_)
 clear hK K
 refine norm_ (a':=?_) ?_ ?_
 rotate_left
 ·show Act.put _ (some 13) _=_
  simp only[ap]
  rfl
 refine one_ (i:=8) (N:=some 17) (lb 11 511) rfl rfl (one_of HT_.out (by kernel_rfl)) (by decide) (fun K hK=>?_)
 refine goes_ Try.func89 (by kernel_rfl) rfl #[.agg #[.int .i64 a0_0,.bool a0_1],.int .i64 a2,.int .i64 a3] (by rfl) rfl rfl gl ?_
 with_reducible refine(impl_Road_gap.calls a0_0 a0_1 a2 a3 t241 _ A6.out).mono ?_
 rintro e w11 ⟨rfl,hb⟩
 refine⟨_,rfl,?_⟩
 replace BK238:=kb BK238 hb
 replace BK239:=kb BK239 hb
 replace HB:=ak (below_step (h2 HB.out GE238.out GE239.out) hb)
 (try clear hb)
 (try clear hb2)
 (try clear hk)
 (try clear hi)
 refine hK.out _ _ ⟨bc BK238 0 rfl,bc BK238 1 rfl,bc BK239 0 rfl,bc BK239 1 rfl,bc BK239 2 rfl⟩ (fun hHeld=>?_)
 clear hK K
 refine norm_ (a':=?_) ?_ ?_
 rotate_left
 ·show Act.put _ (some 17) _=_
  simp only[ap]
  rfl
 refine pq 9 (N:=some 18) (lb 11 1023) HT_ ?_
 refine pq 10 (N:=some 8) (lb 11 2047) HT_ ?_
 refine done_ (done_of HT_.out (by kernel_rfl)) ?_
 try go_wp2
 go_ret
 exact⟨fe,h2 HB.out GE238.out GE239.out⟩
end
end Go.Proofs.Ythagkpoinjpmfaa.QFnRelays
