/- Functions that the law FnMoves comes to, and their walks: no condition but those named. -/
import Derived.Test.YtanfamfgdgcjpaaQFnMovesx0
import Derived.Test.YtanfamfgdgcjpaaQFnMovesx2
import Derived.Test.YtanfamfgdgcjpaaQFnMovesx3
namespace Go.Proofs.Ytanfamfgdgcjpaa.QFnMoves
open Go.RowKit Go.Proofs.YtanfamfgdgcjpaaW.PrintWords Go.Proofs.YtanfamfgdgcjpaaW.PrintLast Go.Proofs.YtanfamfgdgcjpaaW.PrintMore Go.Proofs.Ytanfamfgdgcjpaa.Short
attribute [local go_sem] max2_int min2_int max_two min_two max_three min_three max_four min_four
set_option linter.unusedVariables false
set_option linter.unusedSimpArgs false
section
open Kd
def spec_l9InOrder.l0:Nat→List (S58)→List Int→Int→Int→Int→Int→Int→Bool→Option (Bool)
 | 0,_,_,_,_,_,_,_,_=>none
 | k+1,x1,x2,x3,x9,x10,x11,x298000,x298001=>if x11<(x2.length:Int)then(if 0≤x11 then(if 0≤(rd x2 x11)then(if(rd x2 x11)<(x1.length:Int)then((spec_l1Most.f x10 (wrap64 (((rd_T58 x1 (rd x2 x11)).f0)-x3))).bind fun t301=>((spec_l9Place.f x298000 x298001 ((rd_T58 x1 (rd x2 x11)).f0) ((rd_T58 x1 (rd x2 x11)).f1) x9 x3).bind fun t302=>(if x9<x298000 then(if t302≥t301 then(spec_l9InOrder.l0 k x1 x2 x3 (wrap64 ((wrap64 (t302+((rd_T58 x1 (rd x2 x11)).f1)))+1)) t302 (wrap64 (x11+1)) x298000 x298001)else(spec_l9InOrder.l0 k x1 x2 x3 x9 t301 (wrap64 (x11+1)) x298000 x298001))else(spec_l9InOrder.l0 k x1 x2 x3 x9 t301 (wrap64 (x11+1)) x298000 x298001))))else(none))else(none))else(none))else(some (decide (x9≥x298000)))
def spec_l9InOrder.f (k:Nat) (a0_0:Int) (a0_1:Bool) (l1:List (S58)) (l2:List Int) (a3:Int):Option (Bool):=spec_l9InOrder.l0 k l1 l2 a3 0 0 0 a0_0 a0_1
theorem spec_l9InOrder.mono_l:∀ k,(∀ y0 y1 y2 y3 y4 y5 y6 y7,LeO (spec_l9InOrder.l0 k y0 y1 y2 y3 y4 y5 y6 y7) (spec_l9InOrder.l0 (k+1) y0 y1 y2 y3 y4 y5 y6 y7))
 | 0=>by
  refine ?_<;>(intros;intro r h;simp[spec_l9InOrder.l0]at h)
 | k+1=>by
  have ih0:=spec_l9InOrder.mono_l k
  refine ?_<;>intros<;>unfold spec_l9InOrder.l0<;>(repeat' (with_reducible first|exact ih0 ..|exact LeO.refl _|exact LeO.none _|refine LeO.ite ?_ ?_|refine LeO.bind ?_ (fun _=>?_)))
theorem spec_l9InOrder.mono:∀ a0 a1 a2 a3 a4 k,LeO (spec_l9InOrder.f k a0 a1 a2 a3 a4) (spec_l9InOrder.f (k+1) a0 a1 a2 a3 a4):=by
 intro a0 a1 a2 a3 a4 k
 have ih0:=spec_l9InOrder.mono_l k
 unfold spec_l9InOrder.f
 repeat' (with_reducible first|exact ih0 ..|exact LeO.refl _|exact LeO.none _|refine LeO.ite ?_ ?_|refine LeO.bind ?_ (fun _=>?_))
set_option maxHeartbeats 8000000 in
set_option maxRecDepth 100000 in
theorem spec_l9InOrder.calls (k:Nat) (a0_0:Int) (a0_1:Bool) (A1:Option Addr) (c1:Nat) (l1:List (S58)) (A2:Option Addr) (c2:Nat) (l2:List Int) (a3:Int) (r:Bool) (w:World) (hr1:Kd.C k58 w A1 l1.length l1) (hc1:l1.length≤c1) (hr2:Kd.C (Kd.int .i64) w A2 l2.length l2) (hc2:l2.length≤c2) (h:spec_l9InOrder.f k a0_0 a0_1 l1 l2 a3=some r):
  Calls Try.prog 61 #[.agg #[.int .i64 a0_0,.bool a0_1],.slice A1 l1.length c1,.slice A2 l2.length c2,.int .i64 a3] w fun e w'=>e= .returned (.bool r)∧Below w.heap.size w w':=by
 have HR1:=Aside0.mk hr1
 clear hr1 hc1
 have HR2:=Aside0.mk hr2
 clear hr2 hc2
 have HB:=Aside0.mk (Below.refl w.heap.size w)
 unfold spec_l9InOrder.f at h
 have H:=h
 clear h
 have H':=Aside0.mk H
 clear H
 go_enter Try.func61,Try.ntmps61
 go_wp2_with (first|(refine bx 4 #[.int .i64 a0_0,.bool a0_1] 27 ?_;intro gb297 hg w5 hbox hb;have BK297:=ak hbox;have GE297:=gw HB hg;replace HB:=bs HB hb;clear hb hbox hg))
 go_loopg [9,10,11] k (fun kq v9 v10 v11 w'=>∃ (x9_1:Int) (x10_1:Int) (x11_1:Int),v9= .int .i64 x9_1∧v10= .int .i64 x10_1∧v11= .int .i64 x11_1∧Aside0 (spec_l9InOrder.l0 kq l1 l2 a3 x9_1 x10_1 x11_1 a0_0 a0_1=some r)∧Aside0 (kq≤k)∧Aside0 (w'.heap[gb297]? =some (.cells #[.int .i64 a0_0,.bool a0_1] 27 (0,0)))∧Aside0 (Below w.heap.size w w'))
 case atStart=>exact⟨(0),(0),(0),fd,fd,fd,H',⟨Nat.le_refl _⟩,⟨bm BK297.out⟩,⟨h1 HB.out GE297.out⟩⟩
 clear H'
 obtain⟨x9_1,x10_1,x11_1,rfl,rfl,rfl,HA,HK1,BK297,HB⟩:=hrel
 obtain _|k1:=gk;·cases HA.out
 obtain⟨H⟩:=HA
 simp only[spec_l9InOrder.l0]at H
 by_cases c6:x11_1<(l2.length:Int)
 rotate_left
 ·rw[if_neg c6]at H
  have c6b0:decide (x11_1<(l2.length:Int))=false:=decide_eq_false c6
  clear c6
  obtain rfl:=Option.some.inj H
  have hcz33_0:=bc BK297 0 rfl
  go_wp2
  go_ret
  exact⟨fe,h1 HB.out GE297.out⟩
 rw[if_pos c6]at H
 have c6b0:decide (x11_1<(l2.length:Int))=true:=decide_eq_true c6
 clear c6
 obtain⟨c7,H⟩:=gi H
 have c7b0:decide (0≤x11_1)=true:=decide_eq_true c7
 clear c7
 obtain⟨c8,H⟩:=gi H
 have c8b0:decide (0≤(rd l2 x11_1))=true:=decide_eq_true c8
 clear c8
 obtain⟨c9,H⟩:=gi H
 have c9b0:decide ((rd l2 x11_1)<(l1.length:Int))=true:=decide_eq_true c9
 clear c9
 obtain⟨t301,A10,H⟩:=bd H;(try dsimp only at H)
 obtain⟨t302,A11,H⟩:=bd H;(try dsimp only at H)
 by_cases c12:x9_1<a0_0
 rotate_left
 ·rw[if_neg c12]at H
  have c12b0:decide (x9_1<a0_0)=false:=decide_eq_false c12
  clear c12
  have H':=Aside0.mk H
  clear H
  have p298:0≤(x11_1:Int):=od
  have q298:x11_1<(l2.length:Int):=od
  obtain⟨ad298,e298,hx298_0⟩:=Kd.at_int HR2.out x11_1 p298 q298
  cases e298
  replace hx298_0:=hc HB hx298_0
  replace p298:=eq_true p298
  replace q298:=eq_true q298
  have p299:0≤((rd l2 x11_1):Int):=od
  have q299: (rd l2 x11_1)<(l1.length:Int):=od
  obtain⟨ad299,e299,hx299_0,hx299_1⟩:=at_T58 HR1.out (rd l2 x11_1) p299 q299
  cases e299
  replace hx299_0:=hc HB hx299_0
  replace hx299_1:=hc HB hx299_1
  replace p299:=eq_true p299
  replace q299:=eq_true q299
  go_wp2_with (first|(refine bx 12 #[.int .i64 0,.int .i64 0] 58 ?_;intro gb300 hg w27 hbox hb;have BK300:=ak hbox;have GE300:=ak ((by rw[hg];exact(below_size (h1 HB.out GE297.out)):w.heap.size≤gb300));replace HB:=ak (below_step (h1 HB.out GE297.out) hb);have NB297_300:=nl BK297 hg;have NB300_297:=ng BK297 hg;replace BK297:=kb BK297 hb;clear hb hbox hg;have hnc28:=NB297_300.out;have hcz29_0:=bc BK300 0 rfl;have hcz29_1:=bc BK300 1 rfl;have hfz29_0:=bf BK300 0;have hfz29_1:=bf BK300 1)|(refine gs 33 Try.func43 #[.int .i64 x10_1,.int .i64 (wrap64 (((rd_T58 l1 (rd l2 x11_1)).f0)-a3))] ?_;(with_reducible refine(spec_l1Most.calls x10_1 (wrap64 (((rd_T58 l1 (rd l2 x11_1)).f0)-a3)) t301 _ A10.out).mono ?_);rintro e w' ⟨rfl,⟨nd,rfl⟩⟩;refine⟨_,rfl,?_⟩;have hcz30_0:=bc BK297 0 rfl;have hcz30_1:=bc BK297 1 rfl)|(refine gs 38 Try.func78 #[.agg #[.int .i64 a0_0,.bool a0_1],.agg #[.int .i64 ((rd_T58 l1 (rd l2 x11_1)).f0),.int .i64 ((rd_T58 l1 (rd l2 x11_1)).f1)],.int .i64 x9_1,.int .i64 a3] ?_;(with_reducible refine(spec_l9Place.calls a0_0 a0_1 ((rd_T58 l1 (rd l2 x11_1)).f0) ((rd_T58 l1 (rd l2 x11_1)).f1) x9_1 a3 t302 _ A11.out).mono ?_);rintro e w31 ⟨rfl,hb⟩;refine⟨_,rfl,?_⟩;replace BK297:=ak (blk_below (g:=gb297) (o:=.cells #[.int .i64 a0_0,.bool a0_1] 27 (0,0)) (by(with_reducible repeat(first|apply blk_drewN|apply blk_drew|apply blk_alloc));refine blk_far ?_ NB297_300.out _;(with_reducible repeat(first|apply blk_drewN|apply blk_drew|apply blk_alloc));refine blk_far ?_ NB297_300.out _;exact bm BK297.out) hb);replace BK300:=ak (blk_below (g:=gb300) (o:=.cells #[.int .i64 ((rd_T58 l1 (rd l2 x11_1)).f0),.int .i64 ((rd_T58 l1 (rd l2 x11_1)).f1)] 58 (0,0)) (by(with_reducible repeat(first|apply blk_drewN|apply blk_drew|apply blk_alloc));refine blk_put (cs:=#[.int .i64 ((rd_T58 l1 (rd l2 x11_1)).f0),.int .i64 0]) ?_ 1 _ rfl;(with_reducible repeat(first|apply blk_drewN|apply blk_drew|apply blk_alloc));refine blk_put (cs:=#[.int .i64 0,.int .i64 0]) ?_ 0 _ rfl;exact bm BK300.out) hb);replace HB:=ak (below_step (h2 HB.out GE297.out GE300.out) hb);(try clear hb);(try clear hk);(try clear hi);have hcz32_0:=bc BK297 0 rfl))
  go_roundg k1
  case measure=>have:=HK1.out;omega
  case rel=>exact⟨(x9_1),(t301),(wrap64 (x11_1+1)),fd,fd,fd,H',⟨by have:=HK1.out;omega⟩,⟨bm BK297.out⟩,⟨h2 HB.out GE297.out GE300.out⟩⟩
 rw[if_pos c12]at H
 have c12b0:decide (x9_1<a0_0)=true:=decide_eq_true c12
 clear c12
 by_cases c13:t302≥t301
 rotate_left
 ·rw[if_neg c13]at H
  have c13b0:decide (t301≤t302)=false:=decide_eq_false c13
  clear c13
  have H':=Aside0.mk H
  clear H
  have p298:0≤(x11_1:Int):=od
  have q298:x11_1<(l2.length:Int):=od
  obtain⟨ad298,e298,hx298_0⟩:=Kd.at_int HR2.out x11_1 p298 q298
  cases e298
  replace hx298_0:=hc HB hx298_0
  replace p298:=eq_true p298
  replace q298:=eq_true q298
  have p299:0≤((rd l2 x11_1):Int):=od
  have q299: (rd l2 x11_1)<(l1.length:Int):=od
  obtain⟨ad299,e299,hx299_0,hx299_1⟩:=at_T58 HR1.out (rd l2 x11_1) p299 q299
  cases e299
  replace hx299_0:=hc HB hx299_0
  replace hx299_1:=hc HB hx299_1
  replace p299:=eq_true p299
  replace q299:=eq_true q299
  go_wp2_with (first|(refine bx 12 #[.int .i64 0,.int .i64 0] 58 ?_;intro gb300 hg w21 hbox hb;have BK300:=ak hbox;have GE300:=ak ((by rw[hg];exact(below_size (h1 HB.out GE297.out)):w.heap.size≤gb300));replace HB:=ak (below_step (h1 HB.out GE297.out) hb);have NB297_300:=nl BK297 hg;have NB300_297:=ng BK297 hg;replace BK297:=kb BK297 hb;clear hb hbox hg;have hnc22:=NB297_300.out;have hcz23_0:=bc BK300 0 rfl;have hcz23_1:=bc BK300 1 rfl;have hfz23_0:=bf BK300 0;have hfz23_1:=bf BK300 1)|(refine gs 33 Try.func43 #[.int .i64 x10_1,.int .i64 (wrap64 (((rd_T58 l1 (rd l2 x11_1)).f0)-a3))] ?_;(with_reducible refine(spec_l1Most.calls x10_1 (wrap64 (((rd_T58 l1 (rd l2 x11_1)).f0)-a3)) t301 _ A10.out).mono ?_);rintro e w' ⟨rfl,⟨nd,rfl⟩⟩;refine⟨_,rfl,?_⟩;have hcz24_0:=bc BK297 0 rfl;have hcz24_1:=bc BK297 1 rfl)|(refine gs 38 Try.func78 #[.agg #[.int .i64 a0_0,.bool a0_1],.agg #[.int .i64 ((rd_T58 l1 (rd l2 x11_1)).f0),.int .i64 ((rd_T58 l1 (rd l2 x11_1)).f1)],.int .i64 x9_1,.int .i64 a3] ?_;(with_reducible refine(spec_l9Place.calls a0_0 a0_1 ((rd_T58 l1 (rd l2 x11_1)).f0) ((rd_T58 l1 (rd l2 x11_1)).f1) x9_1 a3 t302 _ A11.out).mono ?_);rintro e w25 ⟨rfl,hb⟩;refine⟨_,rfl,?_⟩;replace BK297:=ak (blk_below (g:=gb297) (o:=.cells #[.int .i64 a0_0,.bool a0_1] 27 (0,0)) (by(with_reducible repeat(first|apply blk_drewN|apply blk_drew|apply blk_alloc));refine blk_far ?_ NB297_300.out _;(with_reducible repeat(first|apply blk_drewN|apply blk_drew|apply blk_alloc));refine blk_far ?_ NB297_300.out _;exact bm BK297.out) hb);replace BK300:=ak (blk_below (g:=gb300) (o:=.cells #[.int .i64 ((rd_T58 l1 (rd l2 x11_1)).f0),.int .i64 ((rd_T58 l1 (rd l2 x11_1)).f1)] 58 (0,0)) (by(with_reducible repeat(first|apply blk_drewN|apply blk_drew|apply blk_alloc));refine blk_put (cs:=#[.int .i64 ((rd_T58 l1 (rd l2 x11_1)).f0),.int .i64 0]) ?_ 1 _ rfl;(with_reducible repeat(first|apply blk_drewN|apply blk_drew|apply blk_alloc));refine blk_put (cs:=#[.int .i64 0,.int .i64 0]) ?_ 0 _ rfl;exact bm BK300.out) hb);replace HB:=ak (below_step (h2 HB.out GE297.out GE300.out) hb);(try clear hb);(try clear hk);(try clear hi);have hcz26_0:=bc BK297 0 rfl))
  go_roundg k1
  case measure=>have:=HK1.out;omega
  case rel=>exact⟨(x9_1),(t301),(wrap64 (x11_1+1)),fd,fd,fd,H',⟨by have:=HK1.out;omega⟩,⟨bm BK297.out⟩,⟨h2 HB.out GE297.out GE300.out⟩⟩
 rw[if_pos c13]at H
 have c13b0:decide (t301≤t302)=true:=decide_eq_true c13
 clear c13
 have H':=Aside0.mk H
 clear H
 have p298:0≤(x11_1:Int):=od
 have q298:x11_1<(l2.length:Int):=od
 obtain⟨ad298,e298,hx298_0⟩:=Kd.at_int HR2.out x11_1 p298 q298
 cases e298
 replace hx298_0:=hc HB hx298_0
 replace p298:=eq_true p298
 replace q298:=eq_true q298
 have p299:0≤((rd l2 x11_1):Int):=od
 have q299: (rd l2 x11_1)<(l1.length:Int):=od
 obtain⟨ad299,e299,hx299_0,hx299_1⟩:=at_T58 HR1.out (rd l2 x11_1) p299 q299
 cases e299
 replace hx299_0:=hc HB hx299_0
 replace hx299_1:=hc HB hx299_1
 replace p299:=eq_true p299
 replace q299:=eq_true q299
 go_wp2_with (first|(refine bx 12 #[.int .i64 0,.int .i64 0] 58 ?_;intro gb300 hg w14 hbox hb;have BK300:=ak hbox;have GE300:=ak ((by rw[hg];exact(below_size (h1 HB.out GE297.out)):w.heap.size≤gb300));replace HB:=ak (below_step (h1 HB.out GE297.out) hb);have NB297_300:=nl BK297 hg;have NB300_297:=ng BK297 hg;replace BK297:=kb BK297 hb;clear hb hbox hg;have hnc15:=NB297_300.out;have hcz16_0:=bc BK300 0 rfl;have hcz16_1:=bc BK300 1 rfl;have hfz16_0:=bf BK300 0;have hfz16_1:=bf BK300 1)|(refine gs 33 Try.func43 #[.int .i64 x10_1,.int .i64 (wrap64 (((rd_T58 l1 (rd l2 x11_1)).f0)-a3))] ?_;(with_reducible refine(spec_l1Most.calls x10_1 (wrap64 (((rd_T58 l1 (rd l2 x11_1)).f0)-a3)) t301 _ A10.out).mono ?_);rintro e w' ⟨rfl,⟨nd,rfl⟩⟩;refine⟨_,rfl,?_⟩;have hcz17_0:=bc BK297 0 rfl;have hcz17_1:=bc BK297 1 rfl)|(refine gs 38 Try.func78 #[.agg #[.int .i64 a0_0,.bool a0_1],.agg #[.int .i64 ((rd_T58 l1 (rd l2 x11_1)).f0),.int .i64 ((rd_T58 l1 (rd l2 x11_1)).f1)],.int .i64 x9_1,.int .i64 a3] ?_;(with_reducible refine(spec_l9Place.calls a0_0 a0_1 ((rd_T58 l1 (rd l2 x11_1)).f0) ((rd_T58 l1 (rd l2 x11_1)).f1) x9_1 a3 t302 _ A11.out).mono ?_);rintro e w18 ⟨rfl,hb⟩;refine⟨_,rfl,?_⟩;replace BK297:=ak (blk_below (g:=gb297) (o:=.cells #[.int .i64 a0_0,.bool a0_1] 27 (0,0)) (by(with_reducible repeat(first|apply blk_drewN|apply blk_drew|apply blk_alloc));refine blk_far ?_ NB297_300.out _;(with_reducible repeat(first|apply blk_drewN|apply blk_drew|apply blk_alloc));refine blk_far ?_ NB297_300.out _;exact bm BK297.out) hb);replace BK300:=ak (blk_below (g:=gb300) (o:=.cells #[.int .i64 ((rd_T58 l1 (rd l2 x11_1)).f0),.int .i64 ((rd_T58 l1 (rd l2 x11_1)).f1)] 58 (0,0)) (by(with_reducible repeat(first|apply blk_drewN|apply blk_drew|apply blk_alloc));refine blk_put (cs:=#[.int .i64 ((rd_T58 l1 (rd l2 x11_1)).f0),.int .i64 0]) ?_ 1 _ rfl;(with_reducible repeat(first|apply blk_drewN|apply blk_drew|apply blk_alloc));refine blk_put (cs:=#[.int .i64 0,.int .i64 0]) ?_ 0 _ rfl;exact bm BK300.out) hb);replace HB:=ak (below_step (h2 HB.out GE297.out GE300.out) hb);(try clear hb);(try clear hk);(try clear hi);have hcz19_0:=bc BK297 0 rfl;have hcz20_1:=bc BK300 1 rfl))
 go_roundg k1
 case measure=>have:=HK1.out;omega
 case rel=>exact⟨(wrap64 ((wrap64 (t302+((rd_T58 l1 (rd l2 x11_1)).f1)))+1)),(t302),(wrap64 (x11_1+1)),fd,fd,fd,H',⟨by have:=HK1.out;omega⟩,⟨bm BK297.out⟩,⟨h2 HB.out GE297.out GE300.out⟩⟩
def spec_l1Own.f (l0:List Int):Option (List Int):=(some (([]:List Int):List Int)).bind fun y303=>(if y303.length+l0.length<17592186044416 then(some (y303++l0))else(none))
set_option maxHeartbeats 8000000 in
set_option maxRecDepth 100000 in
theorem spec_l1Own.calls (A0:Option Addr) (c0:Nat) (l0:List Int) (r:List Int) (w:World) (hr0:Kd.C (Kd.int .i64) w A0 l0.length l0) (hc0:l0.length≤c0) (h:spec_l1Own.f l0=some r):
  Calls Try.prog 82 #[.slice A0 l0.length c0] w fun e w'=>∃ v0_:Value,e= .returned (v0_)∧Kd.R (Kd.int .i64) 3 w' w.heap.size (fun _=>True) v0_ r∧Below w.heap.size w w':=by
 have HR0:=Aside0.mk hr0
 clear hr0 hc0
 have HB:=Aside0.mk (Below.refl w.heap.size w)
 unfold spec_l1Own.f at h
 have H:=h
 clear h
 obtain⟨y303,hy303⟩:∃ y_:List Int,y_=(([]:List Int)):=⟨_,rfl⟩
 replace H: (if y303.length+l0.length<17592186044416 then(some (y303++l0))else(none))=some r:=by subst hy303;first|(with_reducible exact H)|exact H
 have Ny303:=Aside0.mk hy303
 clear hy303
 obtain⟨c2,H⟩:=gi H
 have LMc2:=Aside0.mk c2
 clear c2
 generalize hy306: (y303++l0:List Int)=y306 at H
 have Ny306:=ak hy306.symm
 clear hy306
 obtain rfl:=Option.some.inj H
 go_enter Try.func82,Try.ntmps82
 go_wp2_with (first|((with_reducible refine gate_dst (N:=3) rfl ?_);refine R_lit (Kd.int .i64) _ 3 ?hg (N:=3) ?hd (xs:=([]:List Int)) (inner:=[]) (ok:=fun _=>True) (okp:=fun _=>True) ?hr ?hp (fun _ hk=>hk) trivial (Below.refl _ _) (Nat.le_refl _) (by simp) ?_;(case hd=>rfl);(case hg=>rfl);(case hr=>first|(go_simp;done)|(go_simp;rfl));(case hp=>exact(Reps.none _ _));intro v304 w3 ho4 hb hg_ hnew_;clear hg_ hnew_;(first|rw[←Ny303.out]at ho4|(simp only[Int.reduceToNat]at ho4;rw[←Ny303.out]at ho4));have HO305:=ak (R_lower ho4 (below_size (hm HB.out)));replace HB:=bs HB hb;clear hb ho4)|((with_reducible refine gate_builtin (b:=.append) (xs:=#[.tmp 3,.tmp 4]) rfl ?_);at_builtin;refine R_append_rows (Kd.int .i64) (w0:=w) w.heap.size rfl (.tmp 3) (.tmp 4) 24 3 (.int .i64 0) 8 rfl Try.underlying24 info3 rfl (by decide) (by omega) v304 y303 l0 _ _ _ (fun _=>True) (fun _=>False) rfl rfl ?aO ?aR (fun _ _ h=>h) (fun _ h=>h.elim) ?aF ?aB ?aS ?aL ?_;(case aR=>exact cm (C_below HR0.out HB.out));(case aB=>exact(hm HB.out));(case aF=>exact(fun _ _=>trivial));(case aO=>exact(rm HO305.out));(case aS=>exact(below_size (hm HB.out)));(case aL=>have:=LMc2.out;omega);intro v307 w5 ho hb hg hat;rw[←Ny306.out]at ho;replace HB:=ak hb;have HO308:=ak ho;clear HO305;clear ho hb hg hat))
 go_ret
 exact⟨_,fe,rm HO308.out,hm HB.out⟩
end
section
open Kd
mutual
def spec_l9Sorted.l0:Nat→List (S58)→List Int→Int→Option (List Int)
 | 0,_,_,_=>none
 | k+1,x0,x3,x4=>if x4<(x0.length:Int)then(spec_l9Sorted.l1 k x0 x3 x4 (x3.length:Int))else(some x3)
def spec_l9Sorted.l1:Nat→List (S58)→List Int→Int→Int→Option (List Int)
 | 0,_,_,_,_=>none
 | k+1,x0,x3,x4,x5=>if x5>0 then(if 0≤x4 then(if x4<(x0.length:Int)then(if 0≤(wrap64 (x5-1))then(if(wrap64 (x5-1))<(x3.length:Int)then(if 0≤(rd x3 (wrap64 (x5-1)))then(if(rd x3 (wrap64 (x5-1)))<(x0.length:Int)then(if((rd_T58 x0 x4).f0)<((rd_T58 x0 (rd x3 (wrap64 (x5-1)))).f0)then(spec_l9Sorted.l1 k x0 x3 x4 (wrap64 (x5-1)))else(if 0≤x5 then(if x5≤(x3.length:Int)then((spec_l1Own.f (x3.take (x5:Int).toNat)).bind fun t319=>((some (([x4]:List Int):List Int)).bind fun y322=>(if t319.length+y322.length<17592186044416 then((some (t319++y322:List Int)).bind fun y325=>((some (x3.drop (x5:Int).toNat:List Int)).bind fun y328=>(if y325.length+y328.length<17592186044416 then(spec_l9Sorted.l0 k x0 (y325++y328) (wrap64 (x4+1)))else(none))))else(none))))else(none))else(none)))else(none))else(none))else(none))else(none))else(none))else(none))else(if 0≤x5 then(if x5≤(x3.length:Int)then((spec_l1Own.f (x3.take (x5:Int).toNat)).bind fun t339=>((some (([x4]:List Int):List Int)).bind fun y342=>(if t339.length+y342.length<17592186044416 then((some (t339++y342:List Int)).bind fun y345=>((some (x3.drop (x5:Int).toNat:List Int)).bind fun y348=>(if y345.length+y348.length<17592186044416 then(spec_l9Sorted.l0 k x0 (y345++y348) (wrap64 (x4+1)))else(none))))else(none))))else(none))else(none))
end
def spec_l9Sorted.f (k:Nat) (l0:List (S58)):Option (List Int):=spec_l9Sorted.l0 k l0 (([]:List Int)) 0
theorem spec_l9Sorted.mono_l:∀ k,(∀ y0 y1 y2,LeO (spec_l9Sorted.l0 k y0 y1 y2) (spec_l9Sorted.l0 (k+1) y0 y1 y2))∧(∀ y0 y1 y2 y3,LeO (spec_l9Sorted.l1 k y0 y1 y2 y3) (spec_l9Sorted.l1 (k+1) y0 y1 y2 y3))
 | 0=>by
  refine⟨?_,?_⟩<;>(intros;intro r h;simp[spec_l9Sorted.l0,spec_l9Sorted.l1]at h)
 | k+1=>by
  obtain⟨ih0,ih1⟩:=spec_l9Sorted.mono_l k
  refine⟨?_,?_⟩<;>intros<;>(first|unfold spec_l9Sorted.l0|unfold spec_l9Sorted.l1)<;>(repeat' (with_reducible first|exact ih0 ..|exact ih1 ..|exact LeO.refl _|exact LeO.none _|refine LeO.ite ?_ ?_|refine LeO.bind ?_ (fun _=>?_)))
theorem spec_l9Sorted.mono:∀ a0 k,LeO (spec_l9Sorted.f k a0) (spec_l9Sorted.f (k+1) a0):=by
 intro a0 k
 obtain⟨ih0,ih1⟩:=spec_l9Sorted.mono_l k
 unfold spec_l9Sorted.f
 repeat' (with_reducible first|exact ih0 ..|exact ih1 ..|exact LeO.refl _|exact LeO.none _|refine LeO.ite ?_ ?_|refine LeO.bind ?_ (fun _=>?_))
def spec_l9Sorted.T6:Bool × List (List Nat × List Nat):=(true,[([],[]),([0],[0]),([1],[1]),([2],[2]),([2],[2]),([3,4,2],[2,3,4]),([5,2],[2,5]),([6,2],[2,6]),([2],[2]),([2],[2]),([2],[2]),([10,2],[2,10]),([9,11,2],[2,9,11]),([12,2],[2,12]),([8,13,2],[2,8,13]),([14,2],[2,14]),([15,2],[2,15]),([7,16,2],[2,7,16]),([2,17],[2,17])])
def spec_l9Sorted.B6:List Nat:=[0,1,3,7,7,31,63,127,7,7,7,1031,3591,7687,16135,32519,65287,131071,262143]
theorem spec_l9Sorted.tab6:rtab .any (opsOf Try.f62 6)=spec_l9Sorted.T6:=by kernel_rfl
theorem spec_l9Sorted.bits6:waitsOk spec_l9Sorted.T6.2 spec_l9Sorted.B6=true:=by kernel_rfl
def spec_l9Sorted.T8:Bool × List (List Nat × List Nat):=(true,[([],[]),([],[]),([0,1],[0,1]),([2],[2]),([],[]),([4],[4]),([3,5,3],[3,5]),([],[]),([],[]),([7,8],[7,8]),([6,9,6],[6,9]),([10,10,0,1,2,3,4,5,6,7,8,9,10],[0,7,10])])
def spec_l9Sorted.B8:List Nat:=[0,0,3,7,0,16,63,0,0,384,1023,2047]
theorem spec_l9Sorted.tab8:rtab .any (opsOf Try.f62 8)=spec_l9Sorted.T8:=by kernel_rfl
theorem spec_l9Sorted.bits8:waitsOk spec_l9Sorted.T8.2 spec_l9Sorted.B8=true:=by kernel_rfl
set_option maxHeartbeats 8000000 in
set_option maxRecDepth 100000 in
theorem spec_l9Sorted.calls (k:Nat) (A0:Option Addr) (c0:Nat) (l0:List (S58)) (r:List Int) (w:World) (hr0:Kd.C k58 w A0 l0.length l0) (hc0:l0.length≤c0) (h:spec_l9Sorted.f k l0=some r):
  Calls Try.prog 62 #[.slice A0 l0.length c0] w fun e w'=>∃ v0_:Value,e= .returned (v0_)∧Kd.R (Kd.int .i64) 3 w' w.heap.size (fun _=>True) v0_ r∧Below w.heap.size w w':=by
 have HR0:=Aside0.mk hr0
 clear hr0 hc0
 have HB:=Aside0.mk (Below.refl w.heap.size w)
 unfold spec_l9Sorted.f at h
 have H:=h
 clear h
 generalize hy309: ([]:List Int)=y309 at H
 have Ny309:=ak hy309.symm
 clear hy309
 have H':=Aside0.mk H
 clear H
 go_enter Try.func62,Try.ntmps62
 go_wp2_with (first|((with_reducible refine gate_dst (N:=6) rfl ?_);refine R_lit (Kd.int .i64) _ 3 ?hg (N:=6) ?hd (xs:=([]:List Int)) (inner:=[]) (ok:=fun _=>True) (okp:=fun _=>True) ?hr ?hp (fun _ hk=>hk) trivial (Below.refl _ _) (Nat.le_refl _) (by simp) ?_;(case hd=>rfl);(case hg=>rfl);(case hr=>first|(go_simp;done)|(go_simp;rfl));(case hp=>exact(Reps.none _ _));intro v310 w2 ho3 hb hg_ hnew_;clear hg_ hnew_;(first|rw[←Ny309.out]at ho3|(simp only[Int.reduceToNat]at ho3;rw[←Ny309.out]at ho3));have HO311:=ak (R_lower ho3 (below_size (hm HB.out)));replace HB:=bs HB hb;clear hb ho3))
 go_loopg [3,4] k (fun kq v3 v4 w'=>∃ (x3_1:List Int) (x4_1:Int),v4= .int .i64 x4_1∧Aside0 (spec_l9Sorted.l0 kq l0 x3_1 x4_1=some r)∧Aside0 (kq≤k)∧Aside0 (Kd.R (Kd.int .i64) 3 w' w.heap.size (fun _=>True) v3 x3_1)∧Aside0 (Below w.heap.size w w'))
 case atStart=>exact⟨(y309),(0),fd,H',⟨Nat.le_refl _⟩,⟨rm HO311.out⟩,⟨hm HB.out⟩⟩
 clear H'
 obtain⟨x3_1,x4_1,rfl,HA,HK1,HO_3,HB⟩:=hrel
 obtain _|k1:=gk;·cases HA.out
 obtain⟨H⟩:=HA
 simp only[spec_l9Sorted.l0]at H
 by_cases c4:x4_1<(l0.length:Int)
 rotate_left
 ·rw[if_neg c4]at H
  have c4b0:decide (x4_1<(l0.length:Int))=false:=decide_eq_false c4
  clear c4
  obtain rfl:=Option.some.inj H
  go_wp2
  go_ret
  exact⟨_,fe,rm HO_3.out,hm HB.out⟩
 rw[if_pos c4]at H
 have c4b0:decide (x4_1<(l0.length:Int))=true:=decide_eq_true c4
 clear c4
 have H':=Aside0.mk H
 clear H
 obtain⟨Ao5,co5,eo5⟩:=R_slice HO_3.out
 subst eo5
 go_wp2
 go_loopg [5] k1 (fun kq v5 w'=>∃ (x5_2:Int),v5= .int .i64 x5_2∧Aside0 (spec_l9Sorted.l1 kq l0 x3_1 x4_1 x5_2=some r)∧Aside0 (kq≤k1)∧Aside0 (Kd.R (Kd.int .i64) 3 w' w.heap.size (fun _=>True) (.slice Ao5 x3_1.length co5) x3_1)∧Aside0 (Below w.heap.size w w'))
 case atStart=>exact⟨((x3_1.length:Int)),fd,H',⟨Nat.le_refl _⟩,⟨rm HO_3.out⟩,⟨hm HB.out⟩⟩
 clear H'
 obtain⟨x5_2,rfl,HA,HK2,HO_3,HB⟩:=hrel
 obtain _|k2:=gk;·cases HA.out
 obtain⟨H⟩:=HA
 simp only[spec_l9Sorted.l1]at H
 by_cases c6:x5_2>0
 rotate_left
 ·rw[if_neg c6]at H
  have c6b0:decide (0<x5_2)=false:=decide_eq_false c6
  clear c6
  obtain⟨c34,H⟩:=gi H
  have c34b1:decide (0≤x5_2)=true:=decide_eq_true c34
  clear c34
  obtain⟨c35,H⟩:=gi H
  have c35b1:decide (x5_2≤(x3_1.length:Int))=true:=decide_eq_true c35
  clear c35
  generalize hy335: (x3_1.take (x5_2:Int).toNat:List Int)=y335 at H
  have Ny335:=ak hy335.symm
  clear hy335
  obtain⟨t339,A36,H⟩:=bd H;(try dsimp only at H)
  obtain⟨y342,hy342⟩:∃ y_:List Int,y_=(([x4_1]:List Int)):=⟨_,rfl⟩
  replace H: (if t339.length+y342.length<17592186044416 then((some (t339++y342:List Int)).bind fun y345=>((some (x3_1.drop (x5_2:Int).toNat:List Int)).bind fun y348=>(if y345.length+y348.length<17592186044416 then(spec_l9Sorted.l0 k2 l0 (y345++y348) (wrap64 (x4_1+1)))else(none))))else(none))=some r:=by subst hy342;first|(with_reducible exact H)|exact H
  have Ny342:=Aside0.mk hy342
  clear hy342
  obtain⟨c37,H⟩:=gi H
  have LMc37:=Aside0.mk c37
  clear c37
  obtain⟨y345,hy345⟩:∃ y_:List Int,y_=(t339++y342):=⟨_,rfl⟩
  replace H: ((some (x3_1.drop (x5_2:Int).toNat:List Int)).bind fun y348=>(if y345.length+y348.length<17592186044416 then(spec_l9Sorted.l0 k2 l0 (y345++y348) (wrap64 (x4_1+1)))else(none)))=some r:=by subst hy345;first|(with_reducible exact H)|exact H
  have Ny345:=Aside0.mk hy345
  clear hy345
  obtain⟨y348,hy348⟩:∃ y_:List Int,y_=(x3_1.drop (x5_2:Int).toNat):=⟨_,rfl⟩
  replace H: (if y345.length+y348.length<17592186044416 then(spec_l9Sorted.l0 k2 l0 (y345++y348) (wrap64 (x4_1+1)))else(none))=some r:=by subst hy348;first|(with_reducible exact H)|exact H
  have Ny348:=Aside0.mk hy348
  clear hy348
  obtain⟨c40,H⟩:=gi H
  have LMc40:=Aside0.mk c40
  clear c40
  generalize hy352: (y345++y348:List Int)=y352 at H
  have Ny352:=ak hy352.symm
  clear hy352
  have H':=Aside0.mk H
  clear H
  try go_wp2
  replace HO_3:=ak (R_drew HO_3.out)
  replace HB:=ak (below_drew1 HB.out)
  refine start_ (n:=19) (S:=fun w'=>True) (ds:=[]) (lb 19 0) (by kernel_rfl) rfl rfl trivial (fun hHeld=>?_);refine with_tabW spec_l9Sorted.tab6 spec_l9Sorted.bits6 (fun HT_ HW_=>?_)
  generalize wr.drew=w41 at HO_3 HB hHeld⊢
  refine pq 0 (N:=some 15) (lb 19 1) HT_ ?_
  refine pq 1 (N:=some 16) (lb 19 3) HT_ ?_
  refine pq 2 (N:=some 17) (lb 19 7) HT_ ?_
  refine pz 3 (N:=some 18) (lb 19 15) HT_ ?_
  refine pz 4 (N:=some 19) (lb 19 31) HT_ ?_
  refine pz 5 (N:=some 20) (lb 19 63) HT_ ?_
  refine pz 6 (N:=some 21) (lb 19 127) HT_ ?_
  refine pz 7 (N:=some 22) (lb 19 255) HT_ ?_
  refine pz 8 (N:=some 23) (lb 19 511) HT_ ?_
  refine pz 9 (N:=some 24) (lb 19 1023) HT_ ?_
  refine pz 10 (N:=some 25) (lb 19 2047) HT_ ?_
  refine pz 11 (N:=some 26) (lb 19 4095) HT_ ?_
  refine pz 12 (N:=some 27) (lb 19 8191) HT_ ?_
  refine pz 13 (N:=some 28) (lb 19 16383) HT_ ?_
  refine pz 14 (N:=some 29) (lb 19 32767) HT_ ?_
  refine pz 15 (N:=some 30) (lb 19 65535) HT_ ?_
  refine pz 16 (N:=some 31) (lb 19 131071) HT_ ?_
  refine pz 17 (N:=some 32) (lb 19 262143) HT_ ?_
  refine pq 18 (N:=some 33) (lb 19 524287) HT_ ?_
  refine done_ (done_of HT_.out (by kernel_rfl)) ?_
  try go_wp2
  replace HO_3:=ak (R_drew HO_3.out)
  replace HB:=ak (below_drew1 HB.out)
  have q43: (x5_2:Int)≤((x3_1.length:Int):Int):=od
  obtain⟨i043,hi043,_,hsz43,_⟩:=info_parts info3
  have hroom43:x3_1.length≤co5:=(R_reads' HO_3.out).2.1
  have hC43:Kd.C (Kd.int .i64) _ Ao5 x3_1.length x3_1:=(R_reads' HO_3.out).2.2
  have hcut43:=cut_to (P:=Try.prog) 24 3 .i64 Try.underlying24 hi043 Ao5 x3_1.length co5 x5_2 (od) q43 hroom43
  have hr43:=C_take (m:=(x5_2:Int).toNat) hC43 (by omega)
  have hy43:y335.length=(x5_2:Int).toNat:=(by rw[Ny335.out,List.length_take];omega)
  rw[←Ny335.out]at hr43
  rw[←hy43]at hcut43
  have HR338:=Aside0.mk hr43
  have HC338:=Aside0.mk (show y335.length≤co5 from by omega)
  clear hr43 hC43 hroom43 hi043 hsz43
  clear hy43
  replace q43:=eq_true q43
  have q44: (x5_2:Int)≤((x3_1.length:Int):Int):=od
  obtain⟨i044,hi044,_,hsz44,_⟩:=info_parts info3
  have hroom44:x3_1.length≤co5:=(R_reads' HO_3.out).2.1
  have hC44:Kd.C (Kd.int .i64) _ Ao5 x3_1.length x3_1:=(R_reads' HO_3.out).2.2
  have q044: (0:Int)≤(x5_2:Int):=od
  have hcut44:=cut_from (P:=Try.prog) 24 3 .i64 Try.underlying24 hi044 1 hsz44 Ao5 x3_1.length co5 x5_2 q044 q44
  have hr44:=C_drop (m:=(x5_2:Int).toNat) (c:=co5) hC44 (by omega) hroom44
  obtain⟨A44,hA44⟩:∃ A_,A_=(if co5=(x5_2:Int).toNat then Ao5 else(Ao5:Option Addr).map (·.add ((x5_2:Int).toNat*1))):=⟨_,rfl⟩
  obtain⟨c44,hc44⟩:∃ c1,c1=co5-(x5_2:Int).toNat:=⟨_,rfl⟩
  have hy44:y348.length=x3_1.length-(x5_2:Int).toNat:=(by rw[Ny348.out,List.length_drop]<;>omega)
  rw[show(x3_1).drop (x5_2:Int).toNat=y348 from Ny348.out.symm]at hr44
  replace hr44:Kd.C (Kd.int .i64) _ A44 y348.length y348:=(by rw[hA44];exact hr44)
  rw[←hy44,←hA44,←hc44]at hcut44
  have HR351:=Aside0.mk hr44
  have HC351:=Aside0.mk (show y348.length≤c44 from by rw[hy44,hc44];exact Nat.sub_le_sub_right hroom44 _)
  clear hr44 hC44 hroom44 hi044 hsz44 hc44
  have KA44:=Aside0.mk hA44
  clear hy44 hA44
  have KL44:=Aside0.mk (show(x5_2:Int).toNat≤x3_1.length from by omega)
  replace q44:=eq_true q44
  refine start_ (n:=12) (S:=fun w'=>True) (ds:=[]) (lb 12 0) (by kernel_rfl) rfl rfl trivial (fun hHeld=>?_);refine with_tabW spec_l9Sorted.tab8 spec_l9Sorted.bits8 (fun HT_ HW_=>?_)
  generalize w41.drew=w42 at HO_3 HB HR338 HR351 hHeld⊢
  refine pq 0 (N:=some 36) (lb 12 1) HT_ ?_
  refine pq 1 (N:=some 37) (lb 12 3) HT_ ?_
  refine pq 2 (N:=some 38) (lb 12 7) HT_ ?_
  refine pq 4 (N:=some 40) (lb 12 23) HT_ ?_
  refine pq 7 (N:=some 43) (lb 12 151) HT_ ?_
  refine pq 8 (N:=some 44) (lb 12 407) HT_ ?_
  refine pq 9 (N:=some 45) (lb 12 919) HT_ ?_
  refine join_ (σ:=Value × Value) 3 (lb 12 959) (fun s_=>[(39,s_.1),(41,s_.2)]) (fun s_ w'=>(Kd.R (Kd.int .i64) 3 w' w.heap.size (fun k_=>some k_≠(s_.2:Value).ownBlock∧ob k_ (.slice Ao5 x3_1.length co5)) s_.1 t339)∧(Kd.R (Kd.int .i64) 3 w' w.heap.size (fun k_=>some k_≠(s_.1:Value).ownBlock∧ob k_ (.slice Ao5 x3_1.length co5)) s_.2 y342)∧(Kd.R (Kd.int .i64) 3 w' w.heap.size (fun k_=>some k_≠(s_.1:Value).ownBlock∧some k_≠(s_.2:Value).ownBlock) (.slice Ao5 x3_1.length co5) x3_1)∧(Below w.heap.size w w')) ?_ ?_
  rotate_left
  ·intro hCont
   refine two_ (i:=3) (j:=5) (Ni:=some 39) (Nj:=some 41) (lb 12 927) (lb 12 951) rfl rfl rfl rfl (two_of HT_.out (by kernel_rfl)) (by decide) (by decide) (fun K hK=>?_) (fun K hK=>?_)
   rotate_left
   ·skip
    refine R_lit_step (Kd.int .i64) _ 3 ?hg (N:=41) ?hd (xs:=([x4_1]:List Int)) (inner:=[.int .i64 x4_1]) (ok:=fun _=>True) (okp:=fun _=>True) ?hr ?hp (fun _ hk=>hk) trivial (Below.refl _ _) (Nat.le_refl _) (by simp) ?_;(case hd=>rfl);(case hg=>rfl);(case hr=>first|(go_simp;done)|(go_simp;rfl));(case hp=>exact(Reps.one (show Kd.M (Kd.int .i64) _ _ _ x4_1 [.int .i64 x4_1]from rfl) (Reps.none _ _)))
    intro v343 w45 ho46 hb hg_ hnew_
    clear hg_ hnew_
    (first|rw[←Ny342.out]at ho46|(simp only[Int.reduceToNat]at ho46;rw[←Ny342.out]at ho46))
    have HO344:=ak (R_lower (R_new' ho46 (R_lt (rm HO_3.out))) (below_size (hm HB.out)))
    replace HO_3:=ak (R_elder' (rm HO_3.out) (R_base ho46) hb)
    replace HR338:=ak (C_below (by repeat(first|(with_reducible exact HR338.out)|(with_reducible refine C_alloc ?_ _)|(with_reducible refine C_drewN ?_ _)|(with_reducible refine C_drew ?_)|exact HR338.out)) hb)
    replace HR351:=ak (C_below (by repeat(first|(with_reducible exact HR351.out)|(with_reducible refine C_alloc ?_ _)|(with_reducible refine C_drewN ?_ _)|(with_reducible refine C_drew ?_)|exact HR351.out)) hb)
    replace HB:=bs HB hb
    clear hb ho46
    refine hK.out _ _ trivial (fun hHeld=>?_)
    clear hK K
    refine norm_ (a':=?_) ?_ ?_
    rotate_left
    ·show Act.put _ (some 41) _=_
     simp only[ap]
     rfl
    refine one_ (i:=3) (N:=some 39) (lb 12 959) rfl rfl (one_of HT_.out (by kernel_rfl)) (by decide) (fun K hK=>?_)
    refine goes_ Try.func82 (by kernel_rfl) rfl #[.slice Ao5 y335.length co5] (by rfl) rfl rfl gl ?_
    with_reducible refine(spec_l1Own.calls _ _ y335 t339 _ ?side1 ?side2 A36.out).mono ?_
    (case side1=>repeat(first|exact(by repeat(first|(with_reducible exact HR338.out)|(with_reducible refine C_alloc ?_ _)|(with_reducible refine C_drewN ?_ _)|(with_reducible refine C_drew ?_)|exact HR338.out))|(with_reducible refine C_alloc ?_ _)|(with_reducible refine C_drewN ?_ _)|(with_reducible refine C_drew ?_)))
    (case side2=>exact HC338.out)
    rintro e w47 ⟨v340,rfl,ho0,hb⟩
    refine⟨_,rfl,?_⟩
    have HO341:=ak (R_lower (R_new' (R_new' ho0 (R_lt (rm HO_3.out))) (R_lt (rm HO344.out))) (below_size (hm HB.out)))
    replace HO_3:=ak (R_elder' (rm HO_3.out) (R_base ho0) hb)
    replace HO344:=ak (R_elder' (rm HO344.out) (R_base ho0) hb)
    replace HR338:=ak (C_below (by repeat(first|(with_reducible exact HR338.out)|(with_reducible refine C_alloc ?_ _)|(with_reducible refine C_drewN ?_ _)|(with_reducible refine C_drew ?_)|exact HR338.out)) hb)
    replace HR351:=ak (C_below (by repeat(first|(with_reducible exact HR351.out)|(with_reducible refine C_alloc ?_ _)|(with_reducible refine C_drewN ?_ _)|(with_reducible refine C_drew ?_)|exact HR351.out)) hb)
    replace HB:=bs HB hb
    (try clear hb)
    (try clear hb2)
    (try clear hk)
    (try clear hi)
    (try clear ho0)
    refine hK.out _ _ trivial (fun hHeld=>?_)
    clear hK K
    refine norm_ (a':=?_) ?_ ?_
    rotate_left
    ·show Act.put _ (some 39) _=_
     simp only[ap]
     rfl
    exact norm_ (by simp only[putAll,Act.put,List.setIfInBounds_toArray,List.set_cons_zero,List.set_cons_succ]) (hCont (v340,v343) _ ⟨(rm (R_mono HO341.out (fun _ hk=>⟨hk.2,hk.1.2⟩))),(rm (R_mono HO344.out (fun _ hk=>⟨hk.2,hk.1.2⟩))),(rm (R_mono HO_3.out (fun _ hk=>⟨hk.2,hk.1.2⟩))),(hm HB.out)⟩)
   skip
   refine goes_ Try.func82 (by kernel_rfl) rfl #[.slice Ao5 y335.length co5] (by rfl) rfl rfl gl ?_
   with_reducible refine(spec_l1Own.calls _ _ y335 t339 _ ?side1 ?side2 A36.out).mono ?_
   (case side1=>repeat(first|exact(by repeat(first|(with_reducible exact HR338.out)|(with_reducible refine C_alloc ?_ _)|(with_reducible refine C_drewN ?_ _)|(with_reducible refine C_drew ?_)|exact HR338.out))|(with_reducible refine C_alloc ?_ _)|(with_reducible refine C_drewN ?_ _)|(with_reducible refine C_drew ?_)))
   (case side2=>exact HC338.out)
   rintro e w45 ⟨v340,rfl,ho0,hb⟩
   refine⟨_,rfl,?_⟩
   have HO341:=ak (R_lower (R_new' ho0 (R_lt (rm HO_3.out))) (below_size (hm HB.out)))
   replace HO_3:=ak (R_elder' (rm HO_3.out) (R_base ho0) hb)
   replace HR338:=ak (C_below (by repeat(first|(with_reducible exact HR338.out)|(with_reducible refine C_alloc ?_ _)|(with_reducible refine C_drewN ?_ _)|(with_reducible refine C_drew ?_)|exact HR338.out)) hb)
   replace HR351:=ak (C_below (by repeat(first|(with_reducible exact HR351.out)|(with_reducible refine C_alloc ?_ _)|(with_reducible refine C_drewN ?_ _)|(with_reducible refine C_drew ?_)|exact HR351.out)) hb)
   replace HB:=bs HB hb
   (try clear hb)
   (try clear hb2)
   (try clear hk)
   (try clear hi)
   (try clear ho0)
   refine hK.out _ _ trivial (fun hHeld=>?_)
   clear hK K
   refine norm_ (a':=?_) ?_ ?_
   rotate_left
   ·show Act.put _ (some 39) _=_
    simp only[ap]
    rfl
   refine one_ (i:=5) (N:=some 41) (lb 12 959) rfl rfl (one_of HT_.out (by kernel_rfl)) (by decide) (fun K hK=>?_)
   refine R_lit_step (Kd.int .i64) _ 3 ?hg (N:=41) ?hd (xs:=([x4_1]:List Int)) (inner:=[.int .i64 x4_1]) (ok:=fun _=>True) (okp:=fun _=>True) ?hr ?hp (fun _ hk=>hk) trivial (Below.refl _ _) (Nat.le_refl _) (by simp) ?_;(case hd=>rfl);(case hg=>rfl);(case hr=>first|(go_simp;done)|(go_simp;rfl));(case hp=>exact(Reps.one (show Kd.M (Kd.int .i64) _ _ _ x4_1 [.int .i64 x4_1]from rfl) (Reps.none _ _)))
   intro v343 w46 ho47 hb hg_ hnew_
   clear hg_ hnew_
   (first|rw[←Ny342.out]at ho47|(simp only[Int.reduceToNat]at ho47;rw[←Ny342.out]at ho47))
   have HO344:=ak (R_lower (R_new' (R_new' ho47 (R_lt (rm HO_3.out))) (R_lt (rm HO341.out))) (below_size (hm HB.out)))
   replace HO_3:=ak (R_elder' (rm HO_3.out) (R_base ho47) hb)
   replace HO341:=ak (R_elder' (rm HO341.out) (R_base ho47) hb)
   replace HR338:=ak (C_below (by repeat(first|(with_reducible exact HR338.out)|(with_reducible refine C_alloc ?_ _)|(with_reducible refine C_drewN ?_ _)|(with_reducible refine C_drew ?_)|exact HR338.out)) hb)
   replace HR351:=ak (C_below (by repeat(first|(with_reducible exact HR351.out)|(with_reducible refine C_alloc ?_ _)|(with_reducible refine C_drewN ?_ _)|(with_reducible refine C_drew ?_)|exact HR351.out)) hb)
   replace HB:=bs HB hb
   clear hb ho47
   refine hK.out _ _ trivial (fun hHeld=>?_)
   clear hK K
   refine norm_ (a':=?_) ?_ ?_
   rotate_left
   ·show Act.put _ (some 41) _=_
    simp only[ap]
    rfl
   exact norm_ (by simp only[putAll,Act.put,List.setIfInBounds_toArray,List.set_cons_zero,List.set_cons_succ]) (hCont (v340,v343) _ ⟨(rm (R_mono HO341.out (fun _ hk=>⟨hk.2,hk.1.2⟩))),(rm (R_mono HO344.out (fun _ hk=>⟨hk.2,hk.1.2⟩))),(rm (R_mono HO_3.out (fun _ hk=>⟨hk.1.2,hk.2⟩))),(hm HB.out)⟩)
  rintro⟨v340,v343⟩ w48 ⟨h0_,h1_,h2_,h3_⟩
  have n0_:Aside0 (Kd.R (Kd.int .i64) 3 w48 w.heap.size (fun k_=>ob k_ v343∧ob k_ (.slice Ao5 x3_1.length co5)) v340 t339):=⟨h0_⟩
  have n1_:Aside0 (Kd.R (Kd.int .i64) 3 w48 w.heap.size (fun k_=>ob k_ v340∧ob k_ (.slice Ao5 x3_1.length co5)) v343 y342):=⟨h1_⟩
  have n2_:Aside0 (Kd.R (Kd.int .i64) 3 w48 w.heap.size (fun k_=>ob k_ v340∧ob k_ v343) (.slice Ao5 x3_1.length co5) x3_1):=⟨h2_⟩
  have n3_:Aside0 (Below w.heap.size w w48):=⟨h3_⟩
  clear HO_3
  clear HB
  clear h0_ h1_ h2_ h3_
  have HO341:=n0_
  have HO344:=n1_
  have HO_3:=n2_
  have HB:=n3_
  clear n0_ n1_ n2_ n3_
  obtain⟨Ao50,co50,eo50⟩:=R_slice HO344.out
  (first|subst eo50|(injection eo50 with f1_ f2_ f3_;have f4_:=f1_.symm;have f5_:=f3_.symm;clear f1_ f2_ f3_;subst f4_;subst f5_))
  refine norm_ (a':=?_) ?_ ?_
  rotate_left
  ·simp only[putAll,Act.put,List.setIfInBounds_toArray,List.set_cons_zero,List.set_cons_succ]
   rfl
  refine one_ (i:=6) (N:=some 42) (lb 12 1023) rfl rfl (one_of HT_.out (by kernel_rfl)) (by decide) (fun K hK=>?_)
  refine R_append_rows_step (Kd.int .i64) (w0:=w) w.heap.size (by rfl) (.tmp 39) (.tmp 41) 24 3 (.int .i64 0) 8 rfl Try.underlying24 info3 rfl (by decide) (by omega) v340 t339 y342 _ _ _ (fun k_=>ob k_ (.slice Ao5 x3_1.length co5)∧ob k_ (.slice Ao50 y342.length co50)) (fun _=>False) rfl rfl ?aO ?aR (fun _ _ h=>h) (fun _ h=>h.elim) ?aF ?aB ?aS ?aL ?_
  (case aR=>exact cm (R_reads' HO344.out).2.2)
  (case aB=>exact(hm HB.out))
  (case aF=>exact(fun k_ hk=>⟨Kd.fresh' (R_lt (rm HO_3.out)) k_ hk,Kd.fresh' (R_lt (rm HO344.out)) k_ hk⟩))
  (case aO=>exact(rm (R_mono HO341.out (fun _ hk=>⟨hk.2,hk.1⟩))))
  (case aS=>exact(below_size (hm HB.out)))
  (case aL=>have:=LMc37.out;omega)
  intro v346 w49 ho hb hg hat
  rw[←Ny345.out]at ho
  replace HO_3:=ak (R_after (ok:=(fun k_=>ob k_ (.slice Ao50 y342.length co50))) (rm (R_mono HO_3.out (fun _ hk=>⟨hk.2,hk.1⟩))) hg hat)
  replace HO344:=ak (R_after (ok:=(fun k_=>ob k_ (.slice Ao5 x3_1.length co5))) (rm (R_mono HO344.out (fun _ hk=>⟨hk.2,hk.1⟩))) hg hat)
  replace HB:=ak hb
  have HO347:=ak ho
  clear HO341
  clear ho hb hg hat
  refine hK.out _ _ trivial (fun hHeld=>?_)
  clear hK K
  refine norm_ (a':=?_) ?_ ?_
  rotate_left
  ·show Act.put _ (some 42) _=_
   simp only[ap]
   rfl
  refine one_ (i:=10) (N:=some 46) (lb 12 2047) rfl rfl (one_of HT_.out (by kernel_rfl)) (by decide) (fun K hK=>?_)
  refine R_append_rows_step (Kd.int .i64) (w0:=w) w.heap.size (by rfl) (.tmp 42) (.tmp 45) 24 3 (.int .i64 0) 8 rfl Try.underlying24 info3 rfl (by decide) (by omega) v346 y345 y348 _ _ _ (fun k_=>ob k_ (.slice Ao5 x3_1.length co5)∧ob k_ (.slice Ao50 y342.length co50)) (fun _=>False) rfl rfl ?aO ?aR (fun _ _ h=>h) (fun _ h=>h.elim) ?aF ?aB ?aS ?aL ?_
  (case aR=>repeat(first|exact((show Kd.C (Kd.int .i64) _ A44 y348.length y348 from by rw[Ny348.out,KA44.out];refine C_drop (m:=(x5_2:Int).toNat) (c:=co5) ?cA KL44.out ((R_reads' HO_3.out).2.1);(case cA=>exact((R_reads' (rm HO_3.out)).2.2))))|(with_reducible refine C_alloc ?_ _)|(with_reducible refine C_drewN ?_ _)|(with_reducible refine C_drew ?_)))
  (case aB=>exact(hm HB.out))
  (case aF=>exact(fun k_ hk=>⟨Kd.fresh' (R_lt (rm HO_3.out)) k_ hk,Kd.fresh' (R_lt (rm HO344.out)) k_ hk⟩))
  (case aO=>exact(rm HO347.out))
  (case aS=>exact(below_size (hm HB.out)))
  (case aL=>have:=LMc40.out;omega)
  intro v353 w51 ho hb hg hat
  rw[←Ny352.out]at ho
  replace HO_3:=ak (R_after (ok:=(fun k_=>ob k_ (.slice Ao50 y342.length co50))) (rm HO_3.out) hg hat)
  replace HO344:=ak (R_after (ok:=(fun k_=>ob k_ (.slice Ao5 x3_1.length co5))) (rm HO344.out) hg hat)
  replace HB:=ak hb
  have HO354:=ak ho
  clear HO347
  clear ho hb hg hat
  refine hK.out _ _ trivial (fun hHeld=>?_)
  clear hK K
  refine norm_ (a':=?_) ?_ ?_
  rotate_left
  ·show Act.put _ (some 46) _=_
   simp only[ap]
   rfl
  refine pq 11 (N:=some 3) (lb 12 4095) HT_ ?_
  refine done_ (done_of HT_.out (by kernel_rfl)) ?_
  try go_wp2
  go_roundg k2
  case measure=>have:=HK1.out;have:=HK2.out;omega
  case rel=>exact⟨(y352),(wrap64 (x4_1+1)),fd,H',⟨by have:=HK1.out;have:=HK2.out;omega⟩,⟨rm (R_mono HO354.out (fun _ hk=>trivial))⟩,⟨hm HB.out⟩⟩
 rw[if_pos c6]at H
 have c6b0:decide (0<x5_2)=true:=decide_eq_true c6
 clear c6
 obtain⟨c7,H⟩:=gi H
 have c7b0:decide (0≤x4_1)=true:=decide_eq_true c7
 clear c7
 obtain⟨c8,H⟩:=gi H
 have c8b0:decide (x4_1<(l0.length:Int))=true:=decide_eq_true c8
 clear c8
 generalize hji9: (wrap64 (x5_2-1))=ji9 at H
 have hji9w: (IntKind.i64.wrap (x5_2-1))=ji9:=(i64_w _).trans hji9
 obtain⟨c10,H⟩:=gi H
 have c10b0:decide (0≤(ji9))=true:=decide_eq_true c10
 clear c10
 obtain⟨c11,H⟩:=gi H
 have c11b0:decide ((ji9)<(x3_1.length:Int))=true:=decide_eq_true c11
 clear c11
 obtain⟨c12,H⟩:=gi H
 have c12b0:decide (0≤(rd x3_1 (ji9)))=true:=decide_eq_true c12
 clear c12
 obtain⟨c13,H⟩:=gi H
 have c13b0:decide ((rd x3_1 (ji9))<(l0.length:Int))=true:=decide_eq_true c13
 clear c13
 by_cases c14: ((rd_T58 l0 x4_1).f0)<((rd_T58 l0 (rd x3_1 (ji9))).f0)
 ·rw[if_pos c14]at H
  have c14b0:decide (((rd_T58 l0 x4_1).f0)<((rd_T58 l0 (rd x3_1 (ji9))).f0))=true:=decide_eq_true c14
  clear c14
  have H':=Aside0.mk H
  clear H
  try go_wp2
  replace HO_3:=ak (R_drew HO_3.out)
  replace HB:=ak (below_drew1 HB.out)
  have p312:0≤(x4_1:Int):=od
  have q312:x4_1<(l0.length:Int):=od
  obtain⟨ad312,e312,hx312_0,hx312_1⟩:=at_T58 HR0.out x4_1 p312 q312
  have hw312_1:=hx312_1
  have hw312_0:=hx312_0
  cases e312
  replace hx312_0:=hc HB hx312_0
  replace hx312_1:=hc HB hx312_1
  replace p312:=eq_true p312
  replace q312:=eq_true q312
  have p313:0≤((ji9):Int):=od
  have q313: (ji9)<(x3_1.length:Int):=od
  obtain⟨ad313,e313,hx313_0⟩:=Kd.at_int (R_reads' HO_3.out).2.2 (ji9) p313 q313
  cases e313
  replace p313:=eq_true p313
  replace q313:=eq_true q313
  have p314:0≤((rd x3_1 (ji9)):Int):=od
  have q314: (rd x3_1 (ji9))<(l0.length:Int):=od
  obtain⟨ad314,e314,hx314_0,hx314_1⟩:=at_T58 HR0.out (rd x3_1 (ji9)) p314 q314
  have hw314_1:=hx314_1
  have hw314_0:=hx314_0
  obtain rfl:ad312=ad314:=(by injection e314)
  replace hx314_0:=hc HB hx314_0
  replace hx314_1:=hc HB hx314_1
  replace p314:=eq_true p314
  replace q314:=eq_true q314
  refine start_ (n:=19) (S:=fun w'=>w'.cell? (ad312.add ((x4_1).toNat*2))=some (.int .i64 ((rd_T58 l0 x4_1).f0))∧w'.cell? ⟨(ad312.add ((x4_1).toNat*2)).block,(ad312.add ((x4_1).toNat*2)).off+1,none⟩=some (.int .i64 ((rd_T58 l0 x4_1).f1))∧w'.cell? (ad313.add ((ji9)).toNat)=some (.int .i64 (rd x3_1 (ji9)))∧w'.cell? (ad312.add (((rd x3_1 (ji9))).toNat*2))=some (.int .i64 ((rd_T58 l0 (rd x3_1 (ji9))).f0))∧w'.cell? ⟨(ad312.add (((rd x3_1 (ji9))).toNat*2)).block,(ad312.add (((rd x3_1 (ji9))).toNat*2)).off+1,none⟩=some (.int .i64 ((rd_T58 l0 (rd x3_1 (ji9))).f1))) (ds:=[]) (lb 19 0) (by kernel_rfl) rfl rfl ⟨((HB.out.cell (World.block_lt_of_cell? w _ hw312_0)).trans hw312_0),((HB.out.cell (World.block_lt_of_cell? w _ hw312_1)).trans hw312_1),hx313_0,((HB.out.cell (World.block_lt_of_cell? w _ hw314_0)).trans hw314_0),((HB.out.cell (World.block_lt_of_cell? w _ hw314_1)).trans hw314_1)⟩ (fun hHeld=>?_);refine with_tabW spec_l9Sorted.tab6 spec_l9Sorted.bits6 (fun HT_ HW_=>?_)
  generalize wr.drew=w15 at HO_3 HB hx312_0 hx312_1 hx313_0 hx314_0 hx314_1 hHeld⊢
  refine pq 0 (N:=some 15) (lb 19 1) HT_ ?_
  refine pq 1 (N:=some 16) (lb 19 3) HT_ ?_
  refine pq 2 (N:=some 17) (lb 19 7) HT_ ?_
  refine pq 3 (N:=some 18) (lb 19 15) HT_ ?_
  refine pq 4 (N:=some 19) (lb 19 31) HT_ ?_
  refine pq 5 (N:=some 20) (lb 19 63) HT_ ?_
  refine pq 6 (N:=some 21) (lb 19 127) HT_ ?_
  refine pq 8 (N:=some 23) (lb 19 383) HT_ ?_
  refine pq 9 (N:=some 24) (lb 19 895) HT_ ?_
  refine pq 10 (N:=some 25) (lb 19 1919) HT_ ?_
  refine pq 11 (N:=some 26) (lb 19 3967) HT_ ?_
  refine pq 12 (N:=some 27) (lb 19 8063) HT_ ?_
  refine tq 7 (N:=some 22) (lb 19 8191) HT_ HW_ hHeld ?_
  refine tq 13 (N:=some 28) (lb 19 16383) HT_ HW_ hHeld ?_
  refine pq 14 (N:=some 29) (lb 19 32767) HT_ ?_
  refine pq 15 (N:=some 30) (lb 19 65535) HT_ ?_
  refine tq 16 (N:=some 31) (lb 19 131071) HT_ HW_ hHeld ?_
  refine pq 17 (N:=some 32) (lb 19 262143) HT_ ?_
  refine pq 18 (N:=some 33) (lb 19 524287) HT_ ?_
  refine done_ (done_of HT_.out (by kernel_rfl)) ?_
  try go_wp2
  go_roundg k2
  case measure=>have:=HK1.out;have:=HK2.out;omega
  case rel=>exact⟨(ji9),(by first|rfl|(simp;done)|(simp only[←hji9]<;>(first|rfl|simp))|(simp[*];done)),H',⟨by have:=HK1.out;have:=HK2.out;omega⟩,⟨rm HO_3.out⟩,⟨hm HB.out⟩⟩
 rw[if_neg c14]at H
 have c14b0:decide (((rd_T58 l0 x4_1).f0)<((rd_T58 l0 (rd x3_1 (ji9))).f0))=false:=decide_eq_false c14
 clear c14
 obtain⟨c16,H⟩:=gi H
 have c16b1:decide (0≤x5_2)=true:=decide_eq_true c16
 clear c16
 obtain⟨c17,H⟩:=gi H
 have c17b1:decide (x5_2≤(x3_1.length:Int))=true:=decide_eq_true c17
 clear c17
 generalize hy315: (x3_1.take (x5_2:Int).toNat:List Int)=y315 at H
 have Ny315:=ak hy315.symm
 clear hy315
 obtain⟨t319,A18,H⟩:=bd H;(try dsimp only at H)
 obtain⟨y322,hy322⟩:∃ y_:List Int,y_=(([x4_1]:List Int)):=⟨_,rfl⟩
 replace H: (if t319.length+y322.length<17592186044416 then((some (t319++y322:List Int)).bind fun y325=>((some (x3_1.drop (x5_2:Int).toNat:List Int)).bind fun y328=>(if y325.length+y328.length<17592186044416 then(spec_l9Sorted.l0 k2 l0 (y325++y328) (wrap64 (x4_1+1)))else(none))))else(none))=some r:=by subst hy322;first|(with_reducible exact H)|exact H
 have Ny322:=Aside0.mk hy322
 clear hy322
 obtain⟨c19,H⟩:=gi H
 have LMc19:=Aside0.mk c19
 clear c19
 obtain⟨y325,hy325⟩:∃ y_:List Int,y_=(t319++y322):=⟨_,rfl⟩
 replace H: ((some (x3_1.drop (x5_2:Int).toNat:List Int)).bind fun y328=>(if y325.length+y328.length<17592186044416 then(spec_l9Sorted.l0 k2 l0 (y325++y328) (wrap64 (x4_1+1)))else(none)))=some r:=by subst hy325;first|(with_reducible exact H)|exact H
 have Ny325:=Aside0.mk hy325
 clear hy325
 obtain⟨y328,hy328⟩:∃ y_:List Int,y_=(x3_1.drop (x5_2:Int).toNat):=⟨_,rfl⟩
 replace H: (if y325.length+y328.length<17592186044416 then(spec_l9Sorted.l0 k2 l0 (y325++y328) (wrap64 (x4_1+1)))else(none))=some r:=by subst hy328;first|(with_reducible exact H)|exact H
 have Ny328:=Aside0.mk hy328
 clear hy328
 obtain⟨c22,H⟩:=gi H
 have LMc22:=Aside0.mk c22
 clear c22
 generalize hy332: (y325++y328:List Int)=y332 at H
 have Ny332:=ak hy332.symm
 clear hy332
 have H':=Aside0.mk H
 clear H
 try go_wp2
 replace HO_3:=ak (R_drew HO_3.out)
 replace HB:=ak (below_drew1 HB.out)
 have p312:0≤(x4_1:Int):=od
 have q312:x4_1<(l0.length:Int):=od
 obtain⟨ad312,e312,hx312_0,hx312_1⟩:=at_T58 HR0.out x4_1 p312 q312
 have hw312_1:=hx312_1
 have hw312_0:=hx312_0
 cases e312
 replace hx312_0:=hc HB hx312_0
 replace hx312_1:=hc HB hx312_1
 replace p312:=eq_true p312
 replace q312:=eq_true q312
 have p313:0≤((ji9):Int):=od
 have q313: (ji9)<(x3_1.length:Int):=od
 obtain⟨ad313,e313,hx313_0⟩:=Kd.at_int (R_reads' HO_3.out).2.2 (ji9) p313 q313
 cases e313
 replace p313:=eq_true p313
 replace q313:=eq_true q313
 have p314:0≤((rd x3_1 (ji9)):Int):=od
 have q314: (rd x3_1 (ji9))<(l0.length:Int):=od
 obtain⟨ad314,e314,hx314_0,hx314_1⟩:=at_T58 HR0.out (rd x3_1 (ji9)) p314 q314
 have hw314_1:=hx314_1
 have hw314_0:=hx314_0
 obtain rfl:ad312=ad314:=(by injection e314)
 replace hx314_0:=hc HB hx314_0
 replace hx314_1:=hc HB hx314_1
 replace p314:=eq_true p314
 replace q314:=eq_true q314
 refine start_ (n:=19) (S:=fun w'=>w'.cell? (ad312.add ((x4_1).toNat*2))=some (.int .i64 ((rd_T58 l0 x4_1).f0))∧w'.cell? ⟨(ad312.add ((x4_1).toNat*2)).block,(ad312.add ((x4_1).toNat*2)).off+1,none⟩=some (.int .i64 ((rd_T58 l0 x4_1).f1))∧w'.cell? (ad313.add ((ji9)).toNat)=some (.int .i64 (rd x3_1 (ji9)))∧w'.cell? (ad312.add (((rd x3_1 (ji9))).toNat*2))=some (.int .i64 ((rd_T58 l0 (rd x3_1 (ji9))).f0))∧w'.cell? ⟨(ad312.add (((rd x3_1 (ji9))).toNat*2)).block,(ad312.add (((rd x3_1 (ji9))).toNat*2)).off+1,none⟩=some (.int .i64 ((rd_T58 l0 (rd x3_1 (ji9))).f1))) (ds:=[]) (lb 19 0) (by kernel_rfl) rfl rfl ⟨((HB.out.cell (World.block_lt_of_cell? w _ hw312_0)).trans hw312_0),((HB.out.cell (World.block_lt_of_cell? w _ hw312_1)).trans hw312_1),hx313_0,((HB.out.cell (World.block_lt_of_cell? w _ hw314_0)).trans hw314_0),((HB.out.cell (World.block_lt_of_cell? w _ hw314_1)).trans hw314_1)⟩ (fun hHeld=>?_);refine with_tabW spec_l9Sorted.tab6 spec_l9Sorted.bits6 (fun HT_ HW_=>?_)
 generalize wr.drew=w23 at HO_3 HB hx312_0 hx312_1 hx313_0 hx314_0 hx314_1 hHeld⊢
 refine pq 0 (N:=some 15) (lb 19 1) HT_ ?_
 refine pq 1 (N:=some 16) (lb 19 3) HT_ ?_
 refine pq 2 (N:=some 17) (lb 19 7) HT_ ?_
 refine pq 3 (N:=some 18) (lb 19 15) HT_ ?_
 refine pq 4 (N:=some 19) (lb 19 31) HT_ ?_
 refine pq 5 (N:=some 20) (lb 19 63) HT_ ?_
 refine pq 6 (N:=some 21) (lb 19 127) HT_ ?_
 refine pq 8 (N:=some 23) (lb 19 383) HT_ ?_
 refine pq 9 (N:=some 24) (lb 19 895) HT_ ?_
 refine pq 10 (N:=some 25) (lb 19 1919) HT_ ?_
 refine pq 11 (N:=some 26) (lb 19 3967) HT_ ?_
 refine pq 12 (N:=some 27) (lb 19 8063) HT_ ?_
 refine tq 7 (N:=some 22) (lb 19 8191) HT_ HW_ hHeld ?_
 refine tq 13 (N:=some 28) (lb 19 16383) HT_ HW_ hHeld ?_
 refine pq 14 (N:=some 29) (lb 19 32767) HT_ ?_
 refine pq 15 (N:=some 30) (lb 19 65535) HT_ ?_
 refine tq 16 (N:=some 31) (lb 19 131071) HT_ HW_ hHeld ?_
 refine pq 17 (N:=some 32) (lb 19 262143) HT_ ?_
 refine pq 18 (N:=some 33) (lb 19 524287) HT_ ?_
 refine done_ (done_of HT_.out (by kernel_rfl)) ?_
 try go_wp2
 replace HO_3:=ak (R_drew HO_3.out)
 replace HB:=ak (below_drew1 HB.out)
 have q25: (x5_2:Int)≤((x3_1.length:Int):Int):=od
 obtain⟨i025,hi025,_,hsz25,_⟩:=info_parts info3
 have hroom25:x3_1.length≤co5:=(R_reads' HO_3.out).2.1
 have hC25:Kd.C (Kd.int .i64) _ (some ad313) x3_1.length x3_1:=(R_reads' HO_3.out).2.2
 have hcut25:=cut_to (P:=Try.prog) 24 3 .i64 Try.underlying24 hi025 (some ad313) x3_1.length co5 x5_2 (od) q25 hroom25
 have hr25:=C_take (m:=(x5_2:Int).toNat) hC25 (by omega)
 have hy25:y315.length=(x5_2:Int).toNat:=(by rw[Ny315.out,List.length_take];omega)
 rw[←Ny315.out]at hr25
 rw[←hy25]at hcut25
 have HR318:=Aside0.mk hr25
 have HC318:=Aside0.mk (show y315.length≤co5 from by omega)
 clear hr25 hC25 hroom25 hi025 hsz25
 clear hy25
 replace q25:=eq_true q25
 have q26: (x5_2:Int)≤((x3_1.length:Int):Int):=od
 obtain⟨i026,hi026,_,hsz26,_⟩:=info_parts info3
 have hroom26:x3_1.length≤co5:=(R_reads' HO_3.out).2.1
 have hC26:Kd.C (Kd.int .i64) _ (some ad313) x3_1.length x3_1:=(R_reads' HO_3.out).2.2
 have q026: (0:Int)≤(x5_2:Int):=od
 have hcut26:=cut_from (P:=Try.prog) 24 3 .i64 Try.underlying24 hi026 1 hsz26 (some ad313) x3_1.length co5 x5_2 q026 q26
 have hr26:=C_drop (m:=(x5_2:Int).toNat) (c:=co5) hC26 (by omega) hroom26
 obtain⟨A26,hA26⟩:∃ A_,A_=(if co5=(x5_2:Int).toNat then(some ad313)else((some ad313):Option Addr).map (·.add ((x5_2:Int).toNat*1))):=⟨_,rfl⟩
 obtain⟨c26,hc26⟩:∃ c1,c1=co5-(x5_2:Int).toNat:=⟨_,rfl⟩
 have hy26:y328.length=x3_1.length-(x5_2:Int).toNat:=(by rw[Ny328.out,List.length_drop]<;>omega)
 rw[show(x3_1).drop (x5_2:Int).toNat=y328 from Ny328.out.symm]at hr26
 replace hr26:Kd.C (Kd.int .i64) _ A26 y328.length y328:=(by rw[hA26];exact hr26)
 rw[←hy26,←hA26,←hc26]at hcut26
 have HR331:=Aside0.mk hr26
 have HC331:=Aside0.mk (show y328.length≤c26 from by rw[hy26,hc26];exact Nat.sub_le_sub_right hroom26 _)
 clear hr26 hC26 hroom26 hi026 hsz26 hc26
 have KA26:=Aside0.mk hA26
 clear hy26 hA26
 have KL26:=Aside0.mk (show(x5_2:Int).toNat≤x3_1.length from by omega)
 replace q26:=eq_true q26
 refine start_ (n:=12) (S:=fun w'=>True) (ds:=[]) (lb 12 0) (by kernel_rfl) rfl rfl trivial (fun hHeld=>?_);refine with_tabW spec_l9Sorted.tab8 spec_l9Sorted.bits8 (fun HT_ HW_=>?_)
 generalize w23.drew=w24 at HO_3 HB HR318 HR331 hHeld⊢
 refine pq 0 (N:=some 36) (lb 12 1) HT_ ?_
 refine pq 1 (N:=some 37) (lb 12 3) HT_ ?_
 refine pq 2 (N:=some 38) (lb 12 7) HT_ ?_
 refine pq 4 (N:=some 40) (lb 12 23) HT_ ?_
 refine pq 7 (N:=some 43) (lb 12 151) HT_ ?_
 refine pq 8 (N:=some 44) (lb 12 407) HT_ ?_
 refine pq 9 (N:=some 45) (lb 12 919) HT_ ?_
 refine join_ (σ:=Value × Value) 3 (lb 12 959) (fun s_=>[(39,s_.1),(41,s_.2)]) (fun s_ w'=>(Kd.R (Kd.int .i64) 3 w' w.heap.size (fun k_=>some k_≠(s_.2:Value).ownBlock∧some k_≠(.slice (some ad313) x3_1.length co5:Value).ownBlock) s_.1 t319)∧(Kd.R (Kd.int .i64) 3 w' w.heap.size (fun k_=>some k_≠(s_.1:Value).ownBlock∧some k_≠(.slice (some ad313) x3_1.length co5:Value).ownBlock) s_.2 y322)∧(Kd.R (Kd.int .i64) 3 w' w.heap.size (fun k_=>some k_≠(s_.1:Value).ownBlock∧some k_≠(s_.2:Value).ownBlock) (.slice (some ad313) x3_1.length co5) x3_1)∧(Below w.heap.size w w')) ?_ ?_
 rotate_left
 ·intro hCont
  refine two_ (i:=3) (j:=5) (Ni:=some 39) (Nj:=some 41) (lb 12 927) (lb 12 951) rfl rfl rfl rfl (two_of HT_.out (by kernel_rfl)) (by decide) (by decide) (fun K hK=>?_) (fun K hK=>?_)
  rotate_left
  ·skip
   refine R_lit_step (Kd.int .i64) _ 3 ?hg (N:=41) ?hd (xs:=([x4_1]:List Int)) (inner:=[.int .i64 x4_1]) (ok:=fun _=>True) (okp:=fun _=>True) ?hr ?hp (fun _ hk=>hk) trivial (Below.refl _ _) (Nat.le_refl _) (by simp) ?_;(case hd=>rfl);(case hg=>rfl);(case hr=>first|(go_simp;done)|(go_simp;rfl));(case hp=>exact(Reps.one (show Kd.M (Kd.int .i64) _ _ _ x4_1 [.int .i64 x4_1]from rfl) (Reps.none _ _)))
   intro v323 w27 ho28 hb hg_ hnew_
   clear hg_ hnew_
   (first|rw[←Ny322.out]at ho28|(simp only[Int.reduceToNat]at ho28;rw[←Ny322.out]at ho28))
   have HO324:=ak (R_lower (R_new' ho28 (R_lt (rm HO_3.out))) (below_size (hm HB.out)))
   replace HO_3:=ak (R_elder' (rm HO_3.out) (R_base ho28) hb)
   replace HR318:=ak (C_below (by repeat(first|(with_reducible exact HR318.out)|(with_reducible refine C_alloc ?_ _)|(with_reducible refine C_drewN ?_ _)|(with_reducible refine C_drew ?_)|exact HR318.out)) hb)
   replace HR331:=ak (C_below (by repeat(first|(with_reducible exact HR331.out)|(with_reducible refine C_alloc ?_ _)|(with_reducible refine C_drewN ?_ _)|(with_reducible refine C_drew ?_)|exact HR331.out)) hb)
   replace HB:=bs HB hb
   clear hb ho28
   refine hK.out _ _ trivial (fun hHeld=>?_)
   clear hK K
   refine norm_ (a':=?_) ?_ ?_
   rotate_left
   ·show Act.put _ (some 41) _=_
    simp only[ap]
    rfl
   refine one_ (i:=3) (N:=some 39) (lb 12 959) rfl rfl (one_of HT_.out (by kernel_rfl)) (by decide) (fun K hK=>?_)
   refine goes_ Try.func82 (by kernel_rfl) rfl #[.slice (some ad313) y315.length co5] (by rfl) rfl rfl gl ?_
   with_reducible refine(spec_l1Own.calls _ _ y315 t319 _ ?side1 ?side2 A18.out).mono ?_
   (case side1=>repeat(first|exact(by repeat(first|(with_reducible exact HR318.out)|(with_reducible refine C_alloc ?_ _)|(with_reducible refine C_drewN ?_ _)|(with_reducible refine C_drew ?_)|exact HR318.out))|(with_reducible refine C_alloc ?_ _)|(with_reducible refine C_drewN ?_ _)|(with_reducible refine C_drew ?_)))
   (case side2=>exact HC318.out)
   rintro e w29 ⟨v320,rfl,ho0,hb⟩
   refine⟨_,rfl,?_⟩
   have HO321:=ak (R_lower (R_new' (R_new' ho0 (R_lt (rm HO_3.out))) (R_lt (rm HO324.out))) (below_size (hm HB.out)))
   replace HO_3:=ak (R_elder' (rm HO_3.out) (R_base ho0) hb)
   replace HO324:=ak (R_elder' (rm HO324.out) (R_base ho0) hb)
   replace HR318:=ak (C_below (by repeat(first|(with_reducible exact HR318.out)|(with_reducible refine C_alloc ?_ _)|(with_reducible refine C_drewN ?_ _)|(with_reducible refine C_drew ?_)|exact HR318.out)) hb)
   replace HR331:=ak (C_below (by repeat(first|(with_reducible exact HR331.out)|(with_reducible refine C_alloc ?_ _)|(with_reducible refine C_drewN ?_ _)|(with_reducible refine C_drew ?_)|exact HR331.out)) hb)
   replace HB:=bs HB hb
   (try clear hb)
   (try clear hb2)
   (try clear hk)
   (try clear hi)
   (try clear ho0)
   refine hK.out _ _ trivial (fun hHeld=>?_)
   clear hK K
   refine norm_ (a':=?_) ?_ ?_
   rotate_left
   ·show Act.put _ (some 39) _=_
    simp only[ap]
    rfl
   exact norm_ (by simp only[putAll,Act.put,List.setIfInBounds_toArray,List.set_cons_zero,List.set_cons_succ]) (hCont (v320,v323) _ ⟨(rm (R_mono HO321.out (fun _ hk=>⟨hk.2,hk.1.2⟩))),(rm (R_mono HO324.out (fun _ hk=>⟨hk.2,hk.1.2⟩))),(rm (R_mono HO_3.out (fun _ hk=>⟨hk.2,hk.1.2⟩))),(hm HB.out)⟩)
  skip
  refine goes_ Try.func82 (by kernel_rfl) rfl #[.slice (some ad313) y315.length co5] (by rfl) rfl rfl gl ?_
  with_reducible refine(spec_l1Own.calls _ _ y315 t319 _ ?side1 ?side2 A18.out).mono ?_
  (case side1=>repeat(first|exact(by repeat(first|(with_reducible exact HR318.out)|(with_reducible refine C_alloc ?_ _)|(with_reducible refine C_drewN ?_ _)|(with_reducible refine C_drew ?_)|exact HR318.out))|(with_reducible refine C_alloc ?_ _)|(with_reducible refine C_drewN ?_ _)|(with_reducible refine C_drew ?_)))
  (case side2=>exact HC318.out)
  rintro e w27 ⟨v320,rfl,ho0,hb⟩
  refine⟨_,rfl,?_⟩
  have HO321:=ak (R_lower (R_new' ho0 (R_lt (rm HO_3.out))) (below_size (hm HB.out)))
  replace HO_3:=ak (R_elder' (rm HO_3.out) (R_base ho0) hb)
  replace HR318:=ak (C_below (by repeat(first|(with_reducible exact HR318.out)|(with_reducible refine C_alloc ?_ _)|(with_reducible refine C_drewN ?_ _)|(with_reducible refine C_drew ?_)|exact HR318.out)) hb)
  replace HR331:=ak (C_below (by repeat(first|(with_reducible exact HR331.out)|(with_reducible refine C_alloc ?_ _)|(with_reducible refine C_drewN ?_ _)|(with_reducible refine C_drew ?_)|exact HR331.out)) hb)
  replace HB:=bs HB hb
  (try clear hb)
  (try clear hb2)
  (try clear hk)
  (try clear hi)
  (try clear ho0)
  refine hK.out _ _ trivial (fun hHeld=>?_)
  clear hK K
  refine norm_ (a':=?_) ?_ ?_
  rotate_left
  ·show Act.put _ (some 39) _=_
   simp only[ap]
   rfl
  refine one_ (i:=5) (N:=some 41) (lb 12 959) rfl rfl (one_of HT_.out (by kernel_rfl)) (by decide) (fun K hK=>?_)
  refine R_lit_step (Kd.int .i64) _ 3 ?hg (N:=41) ?hd (xs:=([x4_1]:List Int)) (inner:=[.int .i64 x4_1]) (ok:=fun _=>True) (okp:=fun _=>True) ?hr ?hp (fun _ hk=>hk) trivial (Below.refl _ _) (Nat.le_refl _) (by simp) ?_;(case hd=>rfl);(case hg=>rfl);(case hr=>first|(go_simp;done)|(go_simp;rfl));(case hp=>exact(Reps.one (show Kd.M (Kd.int .i64) _ _ _ x4_1 [.int .i64 x4_1]from rfl) (Reps.none _ _)))
  intro v323 w28 ho29 hb hg_ hnew_
  clear hg_ hnew_
  (first|rw[←Ny322.out]at ho29|(simp only[Int.reduceToNat]at ho29;rw[←Ny322.out]at ho29))
  have HO324:=ak (R_lower (R_new' (R_new' ho29 (R_lt (rm HO_3.out))) (R_lt (rm HO321.out))) (below_size (hm HB.out)))
  replace HO_3:=ak (R_elder' (rm HO_3.out) (R_base ho29) hb)
  replace HO321:=ak (R_elder' (rm HO321.out) (R_base ho29) hb)
  replace HR318:=ak (C_below (by repeat(first|(with_reducible exact HR318.out)|(with_reducible refine C_alloc ?_ _)|(with_reducible refine C_drewN ?_ _)|(with_reducible refine C_drew ?_)|exact HR318.out)) hb)
  replace HR331:=ak (C_below (by repeat(first|(with_reducible exact HR331.out)|(with_reducible refine C_alloc ?_ _)|(with_reducible refine C_drewN ?_ _)|(with_reducible refine C_drew ?_)|exact HR331.out)) hb)
  replace HB:=bs HB hb
  clear hb ho29
  refine hK.out _ _ trivial (fun hHeld=>?_)
  clear hK K
  refine norm_ (a':=?_) ?_ ?_
  rotate_left
  ·show Act.put _ (some 41) _=_
   simp only[ap]
   rfl
  exact norm_ (by simp only[putAll,Act.put,List.setIfInBounds_toArray,List.set_cons_zero,List.set_cons_succ]) (hCont (v320,v323) _ ⟨(rm (R_mono HO321.out (fun _ hk=>⟨hk.2,hk.1.2⟩))),(rm (R_mono HO324.out (fun _ hk=>⟨hk.2,hk.1.2⟩))),(rm (R_mono HO_3.out (fun _ hk=>⟨hk.1.2,hk.2⟩))),(hm HB.out)⟩)
 rintro⟨v320,v323⟩ w30 ⟨h0_,h1_,h2_,h3_⟩
 have n0_:Aside0 (Kd.R (Kd.int .i64) 3 w30 w.heap.size (fun k_=>ob k_ v323∧some k_≠(.slice (some ad313) x3_1.length co5:Value).ownBlock) v320 t319):=⟨h0_⟩
 have n1_:Aside0 (Kd.R (Kd.int .i64) 3 w30 w.heap.size (fun k_=>ob k_ v320∧some k_≠(.slice (some ad313) x3_1.length co5:Value).ownBlock) v323 y322):=⟨h1_⟩
 have n2_:Aside0 (Kd.R (Kd.int .i64) 3 w30 w.heap.size (fun k_=>ob k_ v320∧ob k_ v323) (.slice (some ad313) x3_1.length co5) x3_1):=⟨h2_⟩
 have n3_:Aside0 (Below w.heap.size w w30):=⟨h3_⟩
 clear HO_3
 clear HB
 clear h0_ h1_ h2_ h3_
 have HO321:=n0_
 have HO324:=n1_
 have HO_3:=n2_
 have HB:=n3_
 clear n0_ n1_ n2_ n3_
 obtain⟨Ao32,co32,eo32⟩:=R_slice HO324.out
 (first|subst eo32|(injection eo32 with f1_ f2_ f3_;have f4_:=f1_.symm;have f5_:=f3_.symm;clear f1_ f2_ f3_;subst f4_;subst f5_))
 refine norm_ (a':=?_) ?_ ?_
 rotate_left
 ·simp only[putAll,Act.put,List.setIfInBounds_toArray,List.set_cons_zero,List.set_cons_succ]
  rfl
 refine one_ (i:=6) (N:=some 42) (lb 12 1023) rfl rfl (one_of HT_.out (by kernel_rfl)) (by decide) (fun K hK=>?_)
 refine R_append_rows_step (Kd.int .i64) (w0:=w) w.heap.size (by rfl) (.tmp 39) (.tmp 41) 24 3 (.int .i64 0) 8 rfl Try.underlying24 info3 rfl (by decide) (by omega) v320 t319 y322 _ _ _ (fun k_=>some k_≠(.slice (some ad313) x3_1.length co5:Value).ownBlock∧ob k_ (.slice Ao32 y322.length co32)) (fun _=>False) rfl rfl ?aO ?aR (fun _ _ h=>h) (fun _ h=>h.elim) ?aF ?aB ?aS ?aL ?_
 (case aR=>exact cm (R_reads' HO324.out).2.2)
 (case aB=>exact(hm HB.out))
 (case aF=>exact(fun k_ hk=>⟨Kd.fresh' (R_lt (rm HO_3.out)) k_ hk,Kd.fresh' (R_lt (rm HO324.out)) k_ hk⟩))
 (case aO=>exact(rm (R_mono HO321.out (fun _ hk=>⟨hk.2,hk.1⟩))))
 (case aS=>exact(below_size (hm HB.out)))
 (case aL=>have:=LMc19.out;omega)
 intro v326 w31 ho hb hg hat
 rw[←Ny325.out]at ho
 replace HO_3:=ak (R_after (ok:=(fun k_=>ob k_ (.slice Ao32 y322.length co32))) (rm (R_mono HO_3.out (fun _ hk=>⟨hk.2,hk.1⟩))) hg hat)
 replace HO324:=ak (R_after (ok:=(fun k_=>some k_≠(.slice (some ad313) x3_1.length co5:Value).ownBlock)) (rm (R_mono HO324.out (fun _ hk=>⟨hk.2,hk.1⟩))) hg hat)
 replace HB:=ak hb
 have HO327:=ak ho
 clear HO321
 clear ho hb hg hat
 refine hK.out _ _ trivial (fun hHeld=>?_)
 clear hK K
 refine norm_ (a':=?_) ?_ ?_
 rotate_left
 ·show Act.put _ (some 42) _=_
  simp only[ap]
  rfl
 refine one_ (i:=10) (N:=some 46) (lb 12 2047) rfl rfl (one_of HT_.out (by kernel_rfl)) (by decide) (fun K hK=>?_)
 refine R_append_rows_step (Kd.int .i64) (w0:=w) w.heap.size (by rfl) (.tmp 42) (.tmp 45) 24 3 (.int .i64 0) 8 rfl Try.underlying24 info3 rfl (by decide) (by omega) v326 y325 y328 _ _ _ (fun k_=>some k_≠(.slice (some ad313) x3_1.length co5:Value).ownBlock∧ob k_ (.slice Ao32 y322.length co32)) (fun _=>False) rfl rfl ?aO ?aR (fun _ _ h=>h) (fun _ h=>h.elim) ?aF ?aB ?aS ?aL ?_
 (case aR=>repeat(first|exact((show Kd.C (Kd.int .i64) _ A26 y328.length y328 from by rw[Ny328.out,KA26.out];refine C_drop (m:=(x5_2:Int).toNat) (c:=co5) ?cA KL26.out ((R_reads' HO_3.out).2.1);(case cA=>exact((R_reads' (rm HO_3.out)).2.2))))|(with_reducible refine C_alloc ?_ _)|(with_reducible refine C_drewN ?_ _)|(with_reducible refine C_drew ?_)))
 (case aB=>exact(hm HB.out))
 (case aF=>exact(fun k_ hk=>⟨Kd.fresh' (R_lt (rm HO_3.out)) k_ hk,Kd.fresh' (R_lt (rm HO324.out)) k_ hk⟩))
 (case aO=>exact(rm HO327.out))
 (case aS=>exact(below_size (hm HB.out)))
 (case aL=>have:=LMc22.out;omega)
 intro v333 w33 ho hb hg hat
 rw[←Ny332.out]at ho
 replace HO_3:=ak (R_after (ok:=(fun k_=>ob k_ (.slice Ao32 y322.length co32))) (rm HO_3.out) hg hat)
 replace HO324:=ak (R_after (ok:=(fun k_=>some k_≠(.slice (some ad313) x3_1.length co5:Value).ownBlock)) (rm HO324.out) hg hat)
 replace HB:=ak hb
 have HO334:=ak ho
 clear HO327
 clear ho hb hg hat
 refine hK.out _ _ trivial (fun hHeld=>?_)
 clear hK K
 refine norm_ (a':=?_) ?_ ?_
 rotate_left
 ·show Act.put _ (some 46) _=_
  simp only[ap]
  rfl
 refine pq 11 (N:=some 3) (lb 12 4095) HT_ ?_
 refine done_ (done_of HT_.out (by kernel_rfl)) ?_
 try go_wp2
 go_roundg k2
 case measure=>have:=HK1.out;have:=HK2.out;omega
 case rel=>exact⟨(y332),(wrap64 (x4_1+1)),fd,H',⟨by have:=HK1.out;have:=HK2.out;omega⟩,⟨rm (R_mono HO334.out (fun _ hk=>trivial))⟩,⟨hm HB.out⟩⟩
end
section
open Kd
def spec_CanInOrder.f (k:Nat) (a0_0:Int) (a0_1:Bool) (l1:List (S58)) (a2:Int):Option (Bool × Bool):=(spec_l9Asks.f k a0_0 a0_1 l1 a2).bind fun t356=>(if t356=true then((spec_l9Sorted.f k l1).bind fun t357=>((spec_l9InOrder.f k a0_0 a0_1 l1 t357 a2).bind fun t360=>(some (t360,true))))else(some (false,false)))
theorem spec_CanInOrder.mono:∀ a0 a1 a2 a3 k,LeO (spec_CanInOrder.f k a0 a1 a2 a3) (spec_CanInOrder.f (k+1) a0 a1 a2 a3):=by
 intro a0 a1 a2 a3 k
 unfold spec_CanInOrder.f
 repeat' (with_reducible first|exact spec_l9Asks.mono ..|exact spec_l9InOrder.mono ..|exact spec_l9Sorted.mono ..|exact LeO.refl _|exact LeO.none _|refine LeO.ite ?_ ?_|refine LeO.bind ?_ (fun _=>?_))
def spec_CanInOrder.T3:Bool × List (List Nat × List Nat):=(true,[([],[]),([],[]),([],[]),([2],[2]),([],[]),([0,1,3,4,3],[0,1,3,4]),([5,5,0,1,2,3,4,5],[5]),([6,0,1,2,3,4,5,6],[])])
def spec_CanInOrder.B3:List Nat:=[0,0,0,4,0,31,63,127]
theorem spec_CanInOrder.tab3:rtab .any (opsOf Try.f30 3)=spec_CanInOrder.T3:=by kernel_rfl
theorem spec_CanInOrder.bits3:waitsOk spec_CanInOrder.T3.2 spec_CanInOrder.B3=true:=by kernel_rfl
set_option maxHeartbeats 8000000 in
set_option maxRecDepth 100000 in
theorem spec_CanInOrder.calls (k:Nat) (a0_0:Int) (a0_1:Bool) (A1:Option Addr) (c1:Nat) (l1:List (S58)) (a2:Int) (r1:Bool) (r2:Bool) (w:World) (hr1:Kd.C k58 w A1 l1.length l1) (hc1:l1.length≤c1) (h:spec_CanInOrder.f k a0_0 a0_1 l1 a2=some (r1,r2)):
  Calls Try.prog 30 #[.agg #[.int .i64 a0_0,.bool a0_1],.slice A1 l1.length c1,.int .i64 a2] w fun e w'=>e= .returned (.tuple #[.bool r1,.bool r2])∧Below w.heap.size w w':=by
 have HR1:=Aside0.mk hr1
 have HC1:=Aside0.mk hc1
 clear hr1 hc1
 have HB:=Aside0.mk (Below.refl w.heap.size w)
 unfold spec_CanInOrder.f at h
 have H:=h
 clear h
 obtain⟨t356,A4,H⟩:=bd H;(try dsimp only at H)
 by_cases c5:t356=true
 rotate_left
 ·replace c5:=Bool.eq_false_iff.mpr c5
  subst c5
  rw[if_neg (show ¬(false=true)by decide)]at H
  simp only[Option.some.injEq,Prod.mk.injEq]at H
  obtain⟨rfl,rfl⟩:=H
  go_enter Try.func30,Try.ntmps30
  go_wp2_with (first|(refine bx 3 #[.int .i64 a0_0,.bool a0_1] 27 ?_;intro gb355 hg w15 hbox hb;have BK355:=ak hbox;have GE355:=gw HB hg;replace HB:=bs HB hb;clear hb hbox hg;have hcz16_0:=bc BK355 0 rfl;have hcz16_1:=bc BK355 1 rfl)|(refine gs 11 Try.func47 #[.agg #[.int .i64 a0_0,.bool a0_1],.slice A1 l1.length c1,.int .i64 a2] ?_;(with_reducible refine(spec_l9Asks.calls k a0_0 a0_1 _ _ l1 a2 false _ ?side1 ?side2 A4.out).mono ?_);(case side1=>exact cm (C_below HR1.out HB.out));(case side2=>exact HC1.out);rintro e w17 ⟨rfl,hb⟩;refine⟨_,rfl,?_⟩;replace BK355:=kb BK355 hb;replace HB:=ak (below_step (h1 HB.out GE355.out) hb);(try clear hb);(try clear hk);(try clear hi)))
  go_ret2
  exact⟨fe,h1 HB.out GE355.out⟩
 subst c5
 rw[if_pos rfl]at H
 obtain⟨t357,A6,H⟩:=bd H;(try dsimp only at H)
 obtain⟨t360,A7,H⟩:=bd H;(try dsimp only at H)
 simp only[Option.some.injEq,Prod.mk.injEq]at H
 obtain⟨rfl,rfl⟩:=H
 go_enter Try.func30,Try.ntmps30
 try go_wp2_with (first|(refine bx 3 #[.int .i64 a0_0,.bool a0_1] 27 ?_;intro gb355 hg w8 hbox hb;have BK355:=ak hbox;have GE355:=gw HB hg;replace HB:=bs HB hb;clear hb hbox hg;have hcz9_0:=bc BK355 0 rfl;have hcz9_1:=bc BK355 1 rfl)|(refine gs 11 Try.func47 #[.agg #[.int .i64 a0_0,.bool a0_1],.slice A1 l1.length c1,.int .i64 a2] ?_;(with_reducible refine(spec_l9Asks.calls k a0_0 a0_1 _ _ l1 a2 true _ ?side1 ?side2 A4.out).mono ?_);(case side1=>exact cm (C_below HR1.out HB.out));(case side2=>exact HC1.out);rintro e w10 ⟨rfl,hb⟩;refine⟨_,rfl,?_⟩;replace BK355:=kb BK355 hb;replace HB:=ak (below_step (h1 HB.out GE355.out) hb);(try clear hb);(try clear hk);(try clear hi)))
 replace BK355:=ak (blk_drew BK355.out)
 replace HB:=ak (below_drew1 HB.out)
 refine start_ (n:=8) (S:=fun w'=>w'.cell? ⟨gb355,0,none⟩=some (.int .i64 a0_0)∧w'.cell? ⟨gb355,1,none⟩=some (.bool a0_1)) (ds:=[]) (lb 8 0) (by kernel_rfl) rfl rfl ⟨bc BK355 0 rfl,bc BK355 1 rfl⟩ (fun hHeld=>?_);refine with_tabW spec_CanInOrder.tab3 spec_CanInOrder.bits3 (fun HT_ HW_=>?_)
 generalize w10.drew=w11 at BK355 HB hHeld⊢
 refine pq 1 (N:=some 14) (lb 8 2) HT_ ?_
 refine pq 2 (N:=some 15) (lb 8 6) HT_ ?_
 refine pq 4 (N:=some 17) (lb 8 22) HT_ ?_
 refine tq 0 (N:=some 13) (lb 8 23) HT_ HW_ hHeld ?_
 refine one_ (i:=3) (N:=some 16) (lb 8 31) rfl rfl (one_of HT_.out (by kernel_rfl)) (by decide) (fun K hK=>?_)
 refine goes_ Try.func62 (by kernel_rfl) rfl #[.slice A1 l1.length c1] (by rfl) rfl rfl gl ?_
 with_reducible refine(spec_l9Sorted.calls k _ _ l1 t357 _ ?side1 ?side2 A6.out).mono ?_
 (case side1=>exact cm (C_below HR1.out HB.out))
 (case side2=>exact HC1.out)
 rintro e w12 ⟨v358,rfl,ho0,hb⟩
 refine⟨_,rfl,?_⟩
 have HO359:=ak (R_lower ho0 (below_size (h1 HB.out GE355.out)))
 replace BK355:=kb BK355 hb
 replace HB:=ak (below_step (h1 HB.out GE355.out) hb)
 (try clear hb)
 (try clear hb2)
 (try clear hk)
 (try clear hi)
 (try clear ho0)
 obtain⟨Ao13,co13,eo13⟩:=R_slice HO359.out
 (first|subst eo13|(injection eo13 with f1_ f2_ f3_;have f4_:=f1_.symm;have f5_:=f3_.symm;clear f1_ f2_ f3_;subst f4_;subst f5_))
 refine hK.out _ _ ⟨bc BK355 0 rfl,bc BK355 1 rfl⟩ (fun hHeld=>?_)
 clear hK K
 refine norm_ (a':=?_) ?_ ?_
 rotate_left
 ·show Act.put _ (some 16) _=_
  simp only[ap]
  rfl
 refine one_ (i:=5) (N:=some 18) (lb 8 63) rfl rfl (one_of HT_.out (by kernel_rfl)) (by decide) (fun K hK=>?_)
 refine goes_ Try.func61 (by kernel_rfl) rfl #[.agg #[.int .i64 a0_0,.bool a0_1],.slice A1 l1.length c1,.slice Ao13 t357.length co13,.int .i64 a2] (by rfl) rfl rfl gl ?_
 with_reducible refine(spec_l9InOrder.calls k a0_0 a0_1 _ _ l1 _ _ t357 a2 t360 _ ?side1 ?side2 ?side3 ?side4 A7.out).mono ?_
 (case side1=>exact cm (C_below HR1.out HB.out))
 (case side2=>exact HC1.out)
 (case side3=>exact cm (R_reads' HO359.out).2.2)
 (case side4=>exact(R_reads' HO359.out).2.1)
 rintro e w14 ⟨rfl,hb⟩
 refine⟨_,rfl,?_⟩
 replace HO359:=rb HO359 hb
 replace BK355:=kb BK355 hb
 replace HB:=ak (below_step (h1 HB.out GE355.out) hb)
 (try clear hb)
 (try clear hb2)
 (try clear hk)
 (try clear hi)
 refine hK.out _ _ ⟨bc BK355 0 rfl,bc BK355 1 rfl⟩ (fun hHeld=>?_)
 clear hK K
 refine norm_ (a':=?_) ?_ ?_
 rotate_left
 ·show Act.put _ (some 18) _=_
  simp only[ap]
  rfl
 refine pq 6 (N:=some 6) (lb 8 127) HT_ ?_
 refine pq 7 (N:=some 7) (lb 8 255) HT_ ?_
 refine done_ (done_of HT_.out (by kernel_rfl)) ?_
 try go_wp2
 go_ret2
 exact⟨fe,h1 HB.out GE355.out⟩
def impl_Sensor_63.f (l0:List (S58)):Option ((List (S58))):=(some (([]:List (S58)):List (S58))).bind fun y361=>(if y361.length+l0.length<8796093022208 then(some (y361++l0))else(none))
attribute [local go_sem] Lib.run_eql_slice_nil
set_option maxHeartbeats 8000000 in
set_option maxRecDepth 100000 in
theorem impl_Sensor_63.calls_some (ad0:Addr) (c0:Nat) (l0:List (S58)) (r:List (S58)) (w:World) (hr0:Kd.C k58 w (some ad0) l0.length l0) (hc0:l0.length≤c0) (h:impl_Sensor_63.f l0=some r):
  Calls Try.prog 63 #[.slice (some ad0) l0.length c0] w fun e w'=>∃ v0_:Value,e= .returned (v0_)∧Kd.R k58 58 w' w.heap.size (fun _=>True) v0_ r∧Below w.heap.size w w':=by
 have hu36:=Try.underlying36
 have HR0:=Aside0.mk hr0
 clear hr0 hc0
 have HB:=Aside0.mk (Below.refl w.heap.size w)
 have H: ((some (([]:List (S58)):List (S58))).bind fun y361=>(if y361.length+l0.length<8796093022208 then(some (y361++l0))else(none)))=some r:=h
 clear h
 obtain⟨y361,hy361⟩:∃ y_:List (S58),y_=(([]:List (S58))):=⟨_,rfl⟩
 replace H: (if y361.length+l0.length<8796093022208 then(some (y361++l0))else(none))=some r:=by subst hy361;first|(with_reducible exact H)|exact H
 have Ny361:=Aside0.mk hy361
 clear hy361
 obtain⟨c2,H⟩:=gi H
 have LMc2:=Aside0.mk c2
 clear c2
 generalize hy364: (y361++l0:List (S58))=y364 at H
 have Ny364:=ak hy364.symm
 clear hy364
 obtain rfl:=Option.some.inj H
 go_enter Try.func63,Try.ntmps63
 go_wp2_with (first|((with_reducible refine gate_dst (N:=5) rfl ?_);refine R_lit k58 _ 58 ?hg (N:=5) ?hd (xs:=([]:List (S58))) (inner:=[]) (ok:=fun _=>True) (okp:=fun _=>True) ?hr ?hp (fun _ hk=>hk) trivial (Below.refl _ _) (Nat.le_refl _) (by simp) ?_;(case hd=>rfl);(case hg=>rfl);(case hr=>first|(go_simp;done)|(go_simp;rfl));(case hp=>exact(Reps.none _ _));intro v362 w3 ho4 hb hg_ hnew_;clear hg_ hnew_;(first|rw[←Ny361.out]at ho4|(simp only[Int.reduceToNat]at ho4;rw[←Ny361.out]at ho4));have HO363:=ak (R_lower ho4 (below_size (hm HB.out)));replace HB:=bs HB hb;clear hb ho4)|((with_reducible refine gate_builtin (b:=.append) (xs:=#[.tmp 5,.tmp 6]) rfl ?_);at_builtin;refine R_append_rows k58 (w0:=w) w.heap.size rfl (.tmp 5) (.tmp 6) 36 58 (.agg #[(.int .i64 0),(.int .i64 0)]) 16 rfl Try.underlying36 info58 rfl (by decide) (by omega) v362 y361 l0 _ _ _ (fun _=>True) (fun _=>False) rfl rfl ?aO ?aR (fun _ _ h=>h) (fun _ h=>h.elim) ?aF ?aB ?aS ?aL ?_;(case aR=>exact cm (C_below HR0.out HB.out));(case aB=>exact(hm HB.out));(case aF=>exact(fun _ _=>trivial));(case aO=>exact(rm HO363.out));(case aS=>exact(below_size (hm HB.out)));(case aL=>have:=LMc2.out;omega);intro v365 w5 ho hb hg hat;rw[←Ny364.out]at ho;replace HB:=ak hb;have HO366:=ak ho;clear HO363;clear ho hb hg hat))
 go_ret
 exact⟨_,fe,rm HO366.out,hm HB.out⟩
theorem impl_Sensor_63.calls (A0:Option Addr) (c0:Nat) (l0:List (S58)) (r:List (S58)) (w:World) (hr0:Kd.C k58 w A0 l0.length l0) (hc0:l0.length≤c0) (h:impl_Sensor_63.f l0=some r):
  Calls Try.prog 63 #[.slice A0 l0.length c0] w fun e w'=>∃ v0_:Value,e= .returned (v0_)∧Kd.R k58 58 w' w.heap.size (fun _=>True) v0_ r∧Below w.heap.size w w':=by
  cases A0 with
  | some ad0=>exact impl_Sensor_63.calls_some ad0 c0 l0 r w hr0 hc0 h
  | none=>
    have hl:l0=[]:=by
      rcases Nat.eq_zero_or_pos l0.length with h0|h0
      · exact List.eq_nil_of_length_eq_zero h0
      · obtain⟨ad,e,_⟩:=hr0.2.2 h0
        cases e
    subst hl
    have hr:r=[]:=by simpa [impl_Sensor_63.f]using h.symm
    subst hr
    clear hr0 hc0 h
    have hu36:=Try.underlying36
    go_enter Try.func63,Try.ntmps63
    go_wp2
    go_ret
    exact⟨_,by first|rfl|(simp;done),R_nil _ _ _ _ _,by repeat(first|exact Below.refl _ _|apply below_alloc|apply pw_below_drewN|apply below_drew1)⟩
def impl_placeCmp.f (a0_0:Int) (a0_1:Int) (a1_0:Int) (a1_1:Int):Option (Int):=some (wrap64 (a0_0-a1_0))
set_option maxHeartbeats 8000000 in
set_option maxRecDepth 100000 in
theorem impl_placeCmp.calls (a0_0:Int) (a0_1:Int) (a1_0:Int) (a1_1:Int) (r:Int) (w:World) (h:impl_placeCmp.f a0_0 a0_1 a1_0 a1_1=some r):
  Calls Try.prog 65 #[.agg #[.int .i64 a0_0,.int .i64 a0_1],.agg #[.int .i64 a1_0,.int .i64 a1_1]] w fun e w'=>e= .returned (.int .i64 r)∧Below w.heap.size w w':=by
 have HB:=Aside0.mk (Below.refl w.heap.size w)
 unfold impl_placeCmp.f at h
 have H:=h
 clear h
 obtain rfl:=Option.some.inj H
 go_enter Try.func65,Try.ntmps65
 go_wp2_with (first|(refine bx 2 #[.int .i64 a0_0,.int .i64 a0_1] 58 ?_;intro gb367 hg w3 hbox hb;have BK367:=ak hbox;have GE367:=gw HB hg;replace HB:=bs HB hb;clear hb hbox hg)|(refine bx 3 #[.int .i64 a1_0,.int .i64 a1_1] 58 ?_;intro gb368 hg w4 hbox hb;have BK368:=ak hbox;have GE368:=ak ((by rw[hg];exact(below_size (h1 HB.out GE367.out)):w.heap.size≤gb368));replace HB:=ak (below_step (h1 HB.out GE367.out) hb);have NB367_368:=nl BK367 hg;have NB368_367:=ng BK367 hg;replace BK367:=kb BK367 hb;clear hb hbox hg;have hcz6_0:=bc BK367 0 rfl;have hcz7_0:=bc BK368 0 rfl))
 go_ret
 exact⟨fe,h2 HB.out GE367.out GE368.out⟩
end
section
variable {P:Program} {ops:Array Oper} {Q:Exit→Act→World→Prop}
theorem goesV_ {oi:Oper} {N:Option Tmp} {a:Act} {w:World} {K:Act→World→Prop} {f:FuncId} {fn:Func} {xs_:Array Operand} {ts:Array TypeId} (hf:P.funcs[f]? =some fn) (hname: (fn.name== "runtime.NumGoroutine")=false) (hb:fn.body.isSome=true) (args:Array Value)
    (hw:Region.wanted oi (yielded ops a.tmps)=true) (hN:oi.dst=N) (fo:Operand) (hop:oi.op= .call {callee:= .value fo,args:=xs_,argTypes:=ts}) (hfo:a.eval fo= .func (.func f) #[] #[]) (hargs:xs_.map a.eval=args)
    (h:Calls P f args w fun e w'=>∃ v,e= .returned v∧K (a.put N v) w'):if Region.wanted oi (yielded ops a.tmps)=true then Oper.wp P oi a w K Q else K (a.put N undef) w:=by
  refine call_ f args hw hN ?_ h
  have he:=enters_ hf hname hb args w
  unfold execOp
  simp[hop,resolve,Deferred.ofValue,hfo,invoke,hargs,he]
end
mutual
def impl_Sensor_87.l0:Nat→List (S58)→Int→Int→Int→Option ((List (S58)))
 | 0,_,_,_,_=>none
 | k+1,x0,x1,x2,x8=>if x8<x2 then(impl_Sensor_87.l1 k x0 x1 x2 x8 x8)else(some x0)
def impl_Sensor_87.l1:Nat→List (S58)→Int→Int→Int→Int→Option ((List (S58)))
 | 0,_,_,_,_,_=>none
 | k+1,x0,x1,x2,x8,x9=>if x9>x1 then(if 0≤x9 then(if x9<(x0.length:Int)then(if 0≤(wrap64 (x9-1))then(if(wrap64 (x9-1))<(x0.length:Int)then((impl_placeCmp.f ((rd_T58 x0 x9).f0) ((rd_T58 x0 x9).f1) ((rd_T58 x0 (wrap64 (x9-1))).f0) ((rd_T58 x0 (wrap64 (x9-1))).f1)).bind fun t371=>(if t371<0 then(impl_Sensor_87.l1 k ((x0.set (x9:Int).toNat (⟨(rd_T58 x0 (wrap64 (x9-1))).f0,(rd_T58 x0 (wrap64 (x9-1))).f1⟩:S58)).set ((wrap64 (x9-1)):Int).toNat (⟨(rd_T58 x0 x9).f0,(rd_T58 x0 x9).f1⟩:S58)) x1 x2 x8 (wrap64 (x9-1)))else(impl_Sensor_87.l0 k x0 x1 x2 (wrap64 (x8+1)))))else(none))else(none))else(none))else(none))else(impl_Sensor_87.l0 k x0 x1 x2 (wrap64 (x8+1)))
end
def impl_Sensor_87.f (k:Nat) (l0:List (S58)) (a1:Int) (a2:Int) (a3:Int):Option ((List (S58))):=impl_Sensor_87.l0 k l0 a1 a2 (wrap64 (a1+1))
theorem impl_Sensor_87.mono_l:∀ k,(∀ y0 y1 y2 y3,LeO (impl_Sensor_87.l0 k y0 y1 y2 y3) (impl_Sensor_87.l0 (k+1) y0 y1 y2 y3))∧(∀ y0 y1 y2 y3 y4,LeO (impl_Sensor_87.l1 k y0 y1 y2 y3 y4) (impl_Sensor_87.l1 (k+1) y0 y1 y2 y3 y4))
 | 0=>by
  refine⟨?_,?_⟩<;>(intros;intro r h;simp[impl_Sensor_87.l0,impl_Sensor_87.l1]at h)
 | k+1=>by
  obtain⟨ih0,ih1⟩:=impl_Sensor_87.mono_l k
  refine⟨?_,?_⟩<;>intros<;>(first|unfold impl_Sensor_87.l0|unfold impl_Sensor_87.l1)<;>(repeat' (with_reducible first|exact ih0 ..|exact ih1 ..|exact LeO.refl _|exact LeO.none _|refine LeO.ite ?_ ?_|refine LeO.bind ?_ (fun _=>?_)))
theorem impl_Sensor_87.mono:∀ a0 a1 a2 a3 k,LeO (impl_Sensor_87.f k a0 a1 a2 a3) (impl_Sensor_87.f (k+1) a0 a1 a2 a3):=by
 intro a0 a1 a2 a3 k
 obtain⟨ih0,ih1⟩:=impl_Sensor_87.mono_l k
 unfold impl_Sensor_87.f
 repeat' (with_reducible first|exact ih0 ..|exact ih1 ..|exact LeO.refl _|exact LeO.none _|refine LeO.ite ?_ ?_|refine LeO.bind ?_ (fun _=>?_))
def impl_Sensor_87.T4:Bool × List (List Nat × List Nat):=(true,[([],[]),([],[]),([0,1],[0,1]),([2],[2]),([3],[3]),([3],[3]),([3],[3]),([5,6,3],[3,5,6]),([7,3],[3,7]),([3],[3]),([3],[3]),([10,3],[3,10]),([9,11,3],[3,9,11]),([12,3],[3,12]),([4,8,13,3,3],[3,4,8,13]),([14,3],[3,14]),([3,15],[3,15])])
def impl_Sensor_87.B4:List Nat:=[0,0,3,7,15,15,15,111,239,15,15,1039,3599,7695,16383,32767,65535]
theorem impl_Sensor_87.tab4:rtab .any (opsOf Try.f87 4)=impl_Sensor_87.T4:=by kernel_rfl
theorem impl_Sensor_87.bits4:waitsOk impl_Sensor_87.T4.2 impl_Sensor_87.B4=true:=by kernel_rfl
def impl_Sensor_87.T6:Bool × List (List Nat × List Nat):=(true,[([],[]),([],[]),([],[]),([],[]),([3],[3]),([],[]),([],[]),([6],[6]),([5,7],[5,7]),([8],[8]),([],[]),([],[]),([10,11],[10,11]),([12],[12]),([0,1,0,1,5,6,7,8,9,13],[0,1]),([14,9,0,1,5,6,7,8,9,13],[9,14]),([2,4,0,1,2,3,4,5,6,7,8,9,10,11,12,13,14,15],[2,4]),([16,13,15,0,1,2,3,4,5,6,7,8,9,10,11,12,13,14,15],[13,16])])
def impl_Sensor_87.B6:List Nat:=[0,0,0,0,8,0,0,64,224,480,0,0,3072,7168,16355,32739,65535,131071]
theorem impl_Sensor_87.tab6:rtab .any (opsOf Try.f87 6)=impl_Sensor_87.T6:=by kernel_rfl
theorem impl_Sensor_87.bits6:waitsOk impl_Sensor_87.T6.2 impl_Sensor_87.B6=true:=by kernel_rfl
set_option maxHeartbeats 8000000 in
set_option maxRecDepth 100000 in
theorem impl_Sensor_87.calls (k:Nat) (P0_:Nat→Prop) (u9000_:Value) (l0:List (S58)) (a1:Int) (a2:Int) (a3:Int) (r:List (S58)) (w0 w:World) (hB:Below w0.heap.size w0 w) (ho0:Kd.R k58 58 w w0.heap.size P0_ u9000_ l0) (h:impl_Sensor_87.f k l0 a1 a2 a3=some r):
  Calls Try.prog 87 #[u9000_, .int .i64 a1, .int .i64 a2, .func (.func 65) #[] #[]] w fun e w'=>e= .returned (.tuple #[])∧Kd.R k58 58 w' w0.heap.size (fun k_=>(P0_ k_∨w.heap.size≤k_)) u9000_ r∧Below w0.heap.size w0 w'∧Kept w w' (fun k_=>P0_ k_):=by
 have HO0:=Aside0.mk (show Kd.R k58 58 w w0.heap.size (fun k_=>(P0_ k_∨w.heap.size≤k_)) u9000_ l0 from Kd.R_mono ho0 (fun k_ hk=>(.inl hk)))
 have HK:=Aside0.mk (Kept.refl w (fun k_=>P0_ k_))
 have HB:=Aside0.mk hB
 clear hB
 have H: (impl_Sensor_87.l0 k l0 a1 a2 (wrap64 (a1+1)))=some r:=h
 clear h
 have H':=Aside0.mk H
 clear H
 go_enter Try.func87,Try.ntmps87
 go_wp2
 go_loopg [8] k (fun kq v8 w'=>∃ (x0_1:List (S58)) (x8_1:Int),v8= .int .i64 x8_1∧Aside0 (impl_Sensor_87.l0 kq x0_1 a1 a2 x8_1=some r)∧Aside0 (kq≤k)∧Aside0 (Kd.R k58 58 w' w0.heap.size (fun k_=>(P0_ k_∨w.heap.size≤k_)) u9000_ x0_1)∧Aside0 (Kept w w' (fun k_=>P0_ k_))∧Aside0 (Below w0.heap.size w0 w'))
 case atStart=>exact⟨(l0),(wrap64 (a1+1)),fd,H',⟨Nat.le_refl _⟩,⟨rm HO0.out⟩,⟨by repeat(first|(with_reducible first|exact HK.out|apply Kept.alloc|apply Kept.drewN|apply Kept.drew)|exact HK.out)⟩,⟨hm HB.out⟩⟩
 clear H'
 obtain⟨x0_1,x8_1,rfl,HA,HK1,HO_0,HK,HB⟩:=hrel
 obtain _|k1:=gk;·cases HA.out
 obtain⟨H⟩:=HA
 simp only[impl_Sensor_87.l0]at H
 by_cases c5:x8_1<a2
 rotate_left
 ·rw[if_neg c5]at H
  have c5b0:decide (x8_1<a2)=false:=decide_eq_false c5
  clear c5
  obtain rfl:=Option.some.inj H
  go_wp2
  first|go_end0|((try simp only[Exit.inBlock,Exit.then]);refine bodyPost_ret (results_none rfl _ _ _) rfl ?_)
  exact⟨fe,rm HO_0.out,hm HB.out,by repeat(first|(with_reducible first|exact HK.out|apply Kept.alloc|apply Kept.drewN|apply Kept.drew)|exact HK.out)⟩
 rw[if_pos c5]at H
 have c5b0:decide (x8_1<a2)=true:=decide_eq_true c5
 clear c5
 have H':=Aside0.mk H
 clear H
 go_wp2
 go_loopg [9] k1 (fun kq v9 w'=>∃ (x0_2:List (S58)) (x9_2:Int),v9= .int .i64 x9_2∧Aside0 (impl_Sensor_87.l1 kq x0_2 a1 a2 x8_1 x9_2=some r)∧Aside0 (kq≤k1)∧Aside0 (Kd.R k58 58 w' w0.heap.size (fun k_=>(P0_ k_∨w.heap.size≤k_)) u9000_ x0_2)∧Aside0 (Kept w w' (fun k_=>P0_ k_))∧Aside0 (Below w0.heap.size w0 w'))
 case atStart=>exact⟨(x0_1),(x8_1),fd,H',⟨Nat.le_refl _⟩,⟨rm HO_0.out⟩,⟨by repeat(first|(with_reducible first|exact HK.out|apply Kept.alloc|apply Kept.drewN|apply Kept.drew)|exact HK.out)⟩,⟨hm HB.out⟩⟩
 clear H'
 obtain⟨x0_2,x9_2,rfl,HA,HK2,HO_0,HK,HB⟩:=hrel
 obtain _|k2:=gk;·cases HA.out
 obtain⟨H⟩:=HA
 simp only[impl_Sensor_87.l1]at H
 by_cases c6:x9_2>a1
 rotate_left
 ·rw[if_neg c6]at H
  have c6b0:decide (a1<x9_2)=false:=decide_eq_false c6
  clear c6
  have H':=Aside0.mk H
  clear H
  try go_wp2
  replace HO_0:=ak (Kd.R_drew HO_0.out)
  replace HK:=ak (Kept.drew HK.out)
  replace HB:=ak (below_drew1 HB.out)
  refine start_ (n:=17) (S:=fun w'=>True) (ds:=[]) (lb 17 0) (by kernel_rfl) rfl rfl trivial (fun hHeld=>?_);refine with_tabW impl_Sensor_87.tab4 impl_Sensor_87.bits4 (fun HT_ HW_=>?_)
  generalize wr.drew=w25 at HO_0 HK HB hHeld⊢
  refine pq 0 (N:=some 18) (lb 17 1) HT_ ?_
  refine pq 1 (N:=some 19) (lb 17 3) HT_ ?_
  refine pq 2 (N:=some 20) (lb 17 7) HT_ ?_
  refine pq 3 (N:=some 21) (lb 17 15) HT_ ?_
  refine pz 4 (N:=some 22) (lb 17 31) HT_ ?_
  refine pz 5 (N:=some 23) (lb 17 63) HT_ ?_
  refine pz 6 (N:=some 24) (lb 17 127) HT_ ?_
  refine pz 7 (N:=some 25) (lb 17 255) HT_ ?_
  refine pz 8 (N:=some 26) (lb 17 511) HT_ ?_
  refine pz 9 (N:=some 27) (lb 17 1023) HT_ ?_
  refine pz 10 (N:=some 28) (lb 17 2047) HT_ ?_
  refine pz 11 (N:=some 29) (lb 17 4095) HT_ ?_
  refine pz 12 (N:=some 30) (lb 17 8191) HT_ ?_
  refine pz 13 (N:=some 31) (lb 17 16383) HT_ ?_
  refine pz 14 (N:=some 32) (lb 17 32767) HT_ ?_
  refine pz 15 (N:=some 33) (lb 17 65535) HT_ ?_
  refine pq 16 (N:=some 34) (lb 17 131071) HT_ ?_
  refine done_ (done_of HT_.out (by kernel_rfl)) ?_
  try go_wp2
  go_roundg k2
  case measure=>have:=HK1.out;have:=HK2.out;omega
  case rel=>exact⟨(x0_2),(wrap64 (x8_1+1)),fd,H',⟨by have:=HK1.out;have:=HK2.out;omega⟩,⟨rm HO_0.out⟩,⟨by repeat(first|(with_reducible first|exact HK.out|apply Kept.alloc|apply Kept.drewN|apply Kept.drew)|exact HK.out)⟩,⟨hm HB.out⟩⟩
 rw[if_pos c6]at H
 have c6b0:decide (a1<x9_2)=true:=decide_eq_true c6
 clear c6
 obtain⟨c7,H⟩:=gi H
 have c7b0:decide (0≤x9_2)=true:=decide_eq_true c7
 clear c7
 obtain⟨c8,H⟩:=gi H
 have c8b0:decide (x9_2<(x0_2.length:Int))=true:=decide_eq_true c8
 clear c8
 generalize hji9: (wrap64 (x9_2-1))=ji9 at H
 have hji9w: (IntKind.i64.wrap (x9_2-1))=ji9:=(i64_w _).trans hji9
 obtain⟨c10,H⟩:=gi H
 have c10b0:decide (0≤(ji9))=true:=decide_eq_true c10
 clear c10
 obtain⟨c11,H⟩:=gi H
 have c11b0:decide ((ji9)<(x0_2.length:Int))=true:=decide_eq_true c11
 clear c11
 replace H:=Option.bind_eq_some_iff.mp H
 obtain⟨t371,A120,H⟩:=H
 (try dsimp only at H)
 have A12:=Aside0.mk A120
 clear A120
 by_cases c13:t371<0
 rotate_left
 ·rw[if_neg c13]at H
  have c13b0:decide (t371<0)=false:=decide_eq_false c13
  clear c13
  have H':=Aside0.mk H
  clear H
  try go_wp2
  replace HO_0:=ak (Kd.R_drew HO_0.out)
  replace HK:=ak (Kept.drew HK.out)
  replace HB:=ak (below_drew1 HB.out)
  obtain⟨Ao23,co23,eo23⟩:=Kd.R_slice HO_0.out
  (first|subst eo23|(injection eo23 with f1_ f2_ f3_;have f4_:=f1_.symm;have f5_:=f3_.symm;clear f1_ f2_ f3_;subst f4_;subst f5_))
  have p369:0≤(x9_2:Int):=od
  have q369:x9_2<(x0_2.length:Int):=od
  obtain⟨ad369,e369,hx369_0,hx369_1⟩:=at_T58 (Kd.R_reads' HO_0.out).2.2 x9_2 p369 q369
  cases e369
  replace p369:=eq_true p369
  replace q369:=eq_true q369
  have p370:0≤((ji9):Int):=od
  have q370: (ji9)<(x0_2.length:Int):=od
  obtain⟨ad370,e370,hx370_0,hx370_1⟩:=at_T58 (Kd.R_reads' HO_0.out).2.2 (ji9) p370 q370
  obtain rfl:ad369=ad370:=(by injection e370)
  replace p370:=eq_true p370
  replace q370:=eq_true q370
  refine start_ (n:=17) (S:=fun w'=>w'.cell? (ad369.add ((x9_2).toNat*2))=some (.int .i64 ((rd_T58 x0_2 x9_2).f0))∧w'.cell? ⟨(ad369.add ((x9_2).toNat*2)).block,(ad369.add ((x9_2).toNat*2)).off+1,none⟩=some (.int .i64 ((rd_T58 x0_2 x9_2).f1))∧w'.cell? (ad369.add (((ji9)).toNat*2))=some (.int .i64 ((rd_T58 x0_2 (ji9)).f0))∧w'.cell? ⟨(ad369.add (((ji9)).toNat*2)).block,(ad369.add (((ji9)).toNat*2)).off+1,none⟩=some (.int .i64 ((rd_T58 x0_2 (ji9)).f1))) (ds:=[]) (lb 17 0) (by kernel_rfl) rfl rfl ⟨hx369_0,hx369_1,hx370_0,hx370_1⟩ (fun hHeld=>?_);refine with_tabW impl_Sensor_87.tab4 impl_Sensor_87.bits4 (fun HT_ HW_=>?_)
  generalize wr.drew=w22 at HO_0 HK HB hx369_0 hx369_1 hx370_0 hx370_1 hHeld⊢
  refine pq 0 (N:=some 18) (lb 17 1) HT_ ?_
  refine pq 1 (N:=some 19) (lb 17 3) HT_ ?_
  refine pq 2 (N:=some 20) (lb 17 7) HT_ ?_
  refine pq 3 (N:=some 21) (lb 17 15) HT_ ?_
  refine pq 4 (N:=some 22) (lb 17 31) HT_ ?_
  refine pq 5 (N:=some 23) (lb 17 63) HT_ ?_
  refine pq 6 (N:=some 24) (lb 17 127) HT_ ?_
  refine pq 7 (N:=some 25) (lb 17 255) HT_ ?_
  refine pq 9 (N:=some 27) (lb 17 767) HT_ ?_
  refine pq 10 (N:=some 28) (lb 17 1791) HT_ ?_
  refine pq 11 (N:=some 29) (lb 17 3839) HT_ ?_
  refine pq 12 (N:=some 30) (lb 17 7935) HT_ ?_
  refine tq 8 (N:=some 26) (lb 17 8191) HT_ HW_ hHeld ?_
  refine tq 13 (N:=some 31) (lb 17 16383) HT_ HW_ hHeld ?_
  refine one_ (i:=14) (N:=some 32) (lb 17 32767) rfl rfl (one_of HT_.out (by kernel_rfl)) (by decide) (fun K hK=>?_)
  refine goesV_ Try.func65 (by kernel_rfl) rfl #[.agg #[.int .i64 ((rd_T58 x0_2 x9_2).f0), .int .i64 ((rd_T58 x0_2 x9_2).f1)], .agg #[.int .i64 ((rd_T58 x0_2 (ji9)).f0), .int .i64 ((rd_T58 x0_2 (ji9)).f1)]] (by rfl) rfl (.tmp 22) rfl (by rfl) (by(try simp only[List.map_toArray,List.map_cons,List.map_nil]);first|done|(simp only[hji9];rfl)|rfl|(simp only[List.length_drop,List.length_take];rfl)) ?_
  with_reducible refine(impl_placeCmp.calls ((rd_T58 x0_2 x9_2).f0) ((rd_T58 x0_2 x9_2).f1) ((rd_T58 x0_2 (ji9)).f0) ((rd_T58 x0_2 (ji9)).f1) t371 _ A12.out).mono ?_
  rintro e w24 ⟨rfl,hb⟩
  have HS0_:=(hb.cell (World.block_lt_of_cell? _ _ (hHeld.1))).trans (hHeld.1)
  have HS1_:=(hb.cell (World.block_lt_of_cell? _ _ (hHeld.2.1))).trans (hHeld.2.1)
  have HS2_:=(hb.cell (World.block_lt_of_cell? _ _ (hHeld.2.2.1))).trans (hHeld.2.2.1)
  have HS3_:=(hb.cell (World.block_lt_of_cell? _ _ (hHeld.2.2.2))).trans (hHeld.2.2.2)
  refine⟨_,rfl,?_⟩
  replace HO_0:=ak (Kd.R_below (rm HO_0.out) hb)
  replace HK:=ak (Kept.below (S:=(fun k_=>P0_ k_)) (by repeat(first|(with_reducible first|exact HK.out|apply Kept.alloc|apply Kept.drewN|apply Kept.drew)|exact HK.out)) hb)
  replace HB:=bs HB hb
  (try clear hb)
  (try clear hb2)
  (try clear hk)
  (try clear hi)
  refine hK.out _ _ ⟨HS0_,HS1_,HS2_,HS3_⟩ (fun hHeld=>?_)
  clear hK K
  refine norm_ (a':= ?_) ?_ ?_
  rotate_left
  ·show Act.put _ (some 32) _=_
   simp only[ap]
   rfl
  refine pq 15 (N:=some 33) (lb 17 65535) HT_ ?_
  refine pq 16 (N:=some 34) (lb 17 131071) HT_ ?_
  refine done_ (done_of HT_.out (by kernel_rfl)) ?_
  try go_wp2
  go_roundg k2
  case measure=>have:=HK1.out;have:=HK2.out;omega
  case rel=>exact⟨(x0_2),(wrap64 (x8_1+1)),fd,H',⟨by have:=HK1.out;have:=HK2.out;omega⟩,⟨rm HO_0.out⟩,⟨by repeat(first|(with_reducible first|exact HK.out|apply Kept.alloc|apply Kept.drewN|apply Kept.drew)|exact HK.out)⟩,⟨hm HB.out⟩⟩
 rw[if_pos c13]at H
 have c13b0:decide (t371<0)=true:=decide_eq_true c13
 clear c13
 obtain⟨y374,hy374⟩:∃ y_:List (S58),y_=(x0_2.set (x9_2:Int).toNat (⟨(rd_T58 x0_2 (ji9)).f0,(rd_T58 x0_2 (ji9)).f1⟩:S58)):=⟨_,rfl⟩
 replace H: (impl_Sensor_87.l1 k2 (y374.set ((ji9):Int).toNat (⟨(rd_T58 x0_2 x9_2).f0,(rd_T58 x0_2 x9_2).f1⟩:S58)) a1 a2 x8_1 ji9)=some r:=by first|(rw[hy374];with_reducible exact H)|(have H2_:=(Option.bind_some _ _).symm.trans H;rw[hy374];with_reducible exact H2_)|(have H2_:=(Option.bind_some _ _).symm.trans H;with_reducible exact H2_)|with_reducible exact H|(rw[hy374];exact H)|exact H
 have Ny374:=Aside0.mk hy374
 clear hy374
 obtain⟨y375,hy375⟩:∃ y_:List (S58),y_=(y374.set ((ji9):Int).toNat (⟨(rd_T58 x0_2 x9_2).f0,(rd_T58 x0_2 x9_2).f1⟩:S58)):=⟨_,rfl⟩
 replace H: (impl_Sensor_87.l1 k2 y375 a1 a2 x8_1 ji9)=some r:=by first|(rw[hy375];with_reducible exact H)|(have H2_:=(Option.bind_some _ _).symm.trans H;rw[hy375];with_reducible exact H2_)|(have H2_:=(Option.bind_some _ _).symm.trans H;with_reducible exact H2_)|with_reducible exact H|(rw[hy375];exact H)|exact H
 have Ny375:=Aside0.mk hy375
 clear hy375
 have H':=Aside0.mk H
 clear H
 try go_wp2
 replace HO_0:=ak (Kd.R_drew HO_0.out)
 replace HK:=ak (Kept.drew HK.out)
 replace HB:=ak (below_drew1 HB.out)
 obtain⟨Ao17,co17,eo17⟩:=Kd.R_slice HO_0.out
 (first|subst eo17|(injection eo17 with f1_ f2_ f3_;have f4_:=f1_.symm;have f5_:=f3_.symm;clear f1_ f2_ f3_;subst f4_;subst f5_))
 have p369:0≤(x9_2:Int):=od
 have q369:x9_2<(x0_2.length:Int):=od
 obtain⟨ad369,e369,hx369_0,hx369_1⟩:=at_T58 (Kd.R_reads' HO_0.out).2.2 x9_2 p369 q369
 cases e369
 replace p369:=eq_true p369
 replace q369:=eq_true q369
 have p370:0≤((ji9):Int):=od
 have q370: (ji9)<(x0_2.length:Int):=od
 obtain⟨ad370,e370,hx370_0,hx370_1⟩:=at_T58 (Kd.R_reads' HO_0.out).2.2 (ji9) p370 q370
 obtain rfl:ad369=ad370:=(by injection e370)
 replace p370:=eq_true p370
 replace q370:=eq_true q370
 refine start_ (n:=17) (S:=fun w'=>w'.cell? (ad369.add ((x9_2).toNat*2))=some (.int .i64 ((rd_T58 x0_2 x9_2).f0))∧w'.cell? ⟨(ad369.add ((x9_2).toNat*2)).block,(ad369.add ((x9_2).toNat*2)).off+1,none⟩=some (.int .i64 ((rd_T58 x0_2 x9_2).f1))∧w'.cell? (ad369.add (((ji9)).toNat*2))=some (.int .i64 ((rd_T58 x0_2 (ji9)).f0))∧w'.cell? ⟨(ad369.add (((ji9)).toNat*2)).block,(ad369.add (((ji9)).toNat*2)).off+1,none⟩=some (.int .i64 ((rd_T58 x0_2 (ji9)).f1))) (ds:=[]) (lb 17 0) (by kernel_rfl) rfl rfl ⟨hx369_0,hx369_1,hx370_0,hx370_1⟩ (fun hHeld=>?_);refine with_tabW impl_Sensor_87.tab4 impl_Sensor_87.bits4 (fun HT_ HW_=>?_)
 generalize wr.drew=w16 at HO_0 HK HB hx369_0 hx369_1 hx370_0 hx370_1 hHeld⊢
 refine pq 0 (N:=some 18) (lb 17 1) HT_ ?_
 refine pq 1 (N:=some 19) (lb 17 3) HT_ ?_
 refine pq 2 (N:=some 20) (lb 17 7) HT_ ?_
 refine pq 3 (N:=some 21) (lb 17 15) HT_ ?_
 refine pq 4 (N:=some 22) (lb 17 31) HT_ ?_
 refine pq 5 (N:=some 23) (lb 17 63) HT_ ?_
 refine pq 6 (N:=some 24) (lb 17 127) HT_ ?_
 refine pq 7 (N:=some 25) (lb 17 255) HT_ ?_
 refine pq 9 (N:=some 27) (lb 17 767) HT_ ?_
 refine pq 10 (N:=some 28) (lb 17 1791) HT_ ?_
 refine pq 11 (N:=some 29) (lb 17 3839) HT_ ?_
 refine pq 12 (N:=some 30) (lb 17 7935) HT_ ?_
 refine tq 8 (N:=some 26) (lb 17 8191) HT_ HW_ hHeld ?_
 refine tq 13 (N:=some 31) (lb 17 16383) HT_ HW_ hHeld ?_
 refine one_ (i:=14) (N:=some 32) (lb 17 32767) rfl rfl (one_of HT_.out (by kernel_rfl)) (by decide) (fun K hK=>?_)
 refine goesV_ Try.func65 (by kernel_rfl) rfl #[.agg #[.int .i64 ((rd_T58 x0_2 x9_2).f0), .int .i64 ((rd_T58 x0_2 x9_2).f1)], .agg #[.int .i64 ((rd_T58 x0_2 (ji9)).f0), .int .i64 ((rd_T58 x0_2 (ji9)).f1)]] (by rfl) rfl (.tmp 22) rfl (by rfl) (by(try simp only[List.map_toArray,List.map_cons,List.map_nil]);first|done|(simp only[hji9];rfl)|rfl|(simp only[List.length_drop,List.length_take];rfl)) ?_
 with_reducible refine(impl_placeCmp.calls ((rd_T58 x0_2 x9_2).f0) ((rd_T58 x0_2 x9_2).f1) ((rd_T58 x0_2 (ji9)).f0) ((rd_T58 x0_2 (ji9)).f1) t371 _ A12.out).mono ?_
 rintro e w18 ⟨rfl,hb⟩
 have HS0_:=(hb.cell (World.block_lt_of_cell? _ _ (hHeld.1))).trans (hHeld.1)
 have HS1_:=(hb.cell (World.block_lt_of_cell? _ _ (hHeld.2.1))).trans (hHeld.2.1)
 have HS2_:=(hb.cell (World.block_lt_of_cell? _ _ (hHeld.2.2.1))).trans (hHeld.2.2.1)
 have HS3_:=(hb.cell (World.block_lt_of_cell? _ _ (hHeld.2.2.2))).trans (hHeld.2.2.2)
 refine⟨_,rfl,?_⟩
 replace HO_0:=ak (Kd.R_below (rm HO_0.out) hb)
 replace HK:=ak (Kept.below (S:=(fun k_=>P0_ k_)) (by repeat(first|(with_reducible first|exact HK.out|apply Kept.alloc|apply Kept.drewN|apply Kept.drew)|exact HK.out)) hb)
 replace HB:=bs HB hb
 (try clear hb)
 (try clear hb2)
 (try clear hk)
 (try clear hi)
 refine hK.out _ _ ⟨HS0_,HS1_,HS2_,HS3_⟩ (fun hHeld=>?_)
 clear hK K
 refine norm_ (a':= ?_) ?_ ?_
 rotate_left
 ·show Act.put _ (some 32) _=_
  simp only[ap]
  rfl
 refine pq 15 (N:=some 33) (lb 17 65535) HT_ ?_
 refine pq 16 (N:=some 34) (lb 17 131071) HT_ ?_
 refine done_ (done_of HT_.out (by kernel_rfl)) ?_
 try go_wp2
 replace HO_0:=ak (Kd.R_drew HO_0.out)
 replace HK:=ak (Kept.drew HK.out)
 replace HB:=ak (below_drew1 HB.out)
 have p372:0≤((ji9):Int):=od
 have q372: (ji9)<(x0_2.length:Int):=od
 obtain⟨ad372,e372,hx372_0,hx372_1⟩:=at_T58 (Kd.R_reads' HO_0.out).2.2 (ji9) p372 q372
 obtain rfl:ad369=ad372:=(by injection e372)
 replace p372:=eq_true p372
 replace q372:=eq_true q372
 have p373:0≤(x9_2:Int):=od
 have q373:x9_2<(x0_2.length:Int):=od
 obtain⟨ad373,e373,hx373_0,hx373_1⟩:=at_T58 (Kd.R_reads' HO_0.out).2.2 x9_2 p373 q373
 obtain rfl:ad369=ad373:=(by injection e373)
 replace p373:=eq_true p373
 replace q373:=eq_true q373
 have p14:0≤(x9_2:Int):=od
 have q14: (x9_2:Int)<((x0_2.length:Int):Int):=od
 obtain⟨go14,co14,eo14,gb14,gl14,cl14,HG14⟩:=Kd.R_form HO_0.out (by omega)
 (first|cases eo14|(injection eo14 with ea_ en_ ec_;(first|subst ea_|(injection ea_ with ea_;subst ea_));subst ec_;clear en_))
 have GB14:=Aside0.mk gb14
 have GG14:=Aside0.mk HG14
 clear gb14 gl14 HG14
 have HMgo14:=Aside0.mk (show(P0_ go14∨w.heap.size≤go14)from(HO_0.out.1 _ rfl))
 (first|simp only[add_plain]at hx369_0|skip)
 (first|simp only[add_plain]at hx369_1|skip)
 (first|simp only[add_plain]at hx370_0|skip)
 (first|simp only[add_plain]at hx370_1|skip)
 (first|simp only[add_plain]at hx372_0|skip)
 (first|simp only[add_plain]at hx372_1|skip)
 (first|simp only[add_plain]at hx373_0|skip)
 (first|simp only[add_plain]at hx373_1|skip)
 obtain⟨ce14,hcl14,hM14,hcc14,hfr14⟩:=Kd.R_elem HO_0.out z58 (x9_2:Int) p14 q14
 obtain rfl:=k58_openM hM14
 have hx14_0:World.cell? _ ⟨go14,(x9_2:Int).toNat*2,none⟩=some (.int .i64 ((rd_T58 x0_2 x9_2).f0)):=hcc14 0 _ rfl
 have hx14_1:World.cell? _ ⟨go14,(x9_2:Int).toNat*2+1,none⟩=some (.int .i64 ((rd_T58 x0_2 x9_2).f1)):=hcc14 1 _ rfl
 have hf14_0:World.frozen? _ ⟨go14,(x9_2:Int).toNat*2,none⟩=false:=hfr14 0
 have hf14_1:World.frozen? _ ⟨go14,(x9_2:Int).toNat*2+1,none⟩=false:=hfr14 1
 clear hcl14 hcc14 hfr14 hM14
 replace p14:=eq_true p14
 replace q14:=eq_true q14
 obtain⟨ce20,hcl20,hM20,hcc20,hfr20⟩:=Kd.R_elem HO_0.out z58 (x9_2:Int) (od) (by have h_: (x9_2:Int)<((x0_2.length:Int):Int):=od;first|exact h_|(have e_:=(Kd.R_reads' HO_0.out).1;omega)|simpa using h_)
 obtain rfl:=k58_openM hM20
 have HP20:=(Kd.R_seg HO_0.out (x9_2:Int) (od) (by have h_: (x9_2:Int)<((x0_2.length:Int):Int):=od;first|exact h_|(have e_:=(Kd.R_reads' HO_0.out).1;omega)|simpa using h_) (seg:=[.int .i64 ((rd_T58 x0_2 (ji9)).f0), .int .i64 ((rd_T58 x0_2 (ji9)).f1)]) (j:=0) hcl20 hcc20 (show 2≤2 from by decide) (x':=(⟨(rd_T58 x0_2 (ji9)).f0,(rd_T58 x0_2 (ji9)).f1⟩:S58)) (k58_mkM _ _ _ (⟨(rd_T58 x0_2 (ji9)).f0,(rd_T58 x0_2 (ji9)).f1⟩:S58)) (fun _ hk=>hk)).1
 rw[←Ny374.out]at HP20
 have HQ20:=Aside0.mk HP20
 clear hcl20 hcc20 hfr20 hM20 HP20
 have p15:0≤((ji9):Int):=od
 have q15: ((ji9):Int)<((x0_2.length:Int):Int):=od
 obtain⟨ce15,hcl15,hM15,hcc15,hfr15⟩:=Kd.R_elem HQ20.out z58 ((ji9):Int) p15 q15
 obtain rfl:=k58_openM hM15
 have hx15_0:World.cell? _ ⟨go14,((ji9):Int).toNat*2,none⟩=some (.int .i64 ((rd_T58 y374 (ji9)).f0)):=hcc15 0 _ rfl
 have hx15_1:World.cell? _ ⟨go14,((ji9):Int).toNat*2+1,none⟩=some (.int .i64 ((rd_T58 y374 (ji9)).f1)):=hcc15 1 _ rfl
 have hf15_0:World.frozen? _ ⟨go14,((ji9):Int).toNat*2,none⟩=false:=hfr15 0
 have hf15_1:World.frozen? _ ⟨go14,((ji9):Int).toNat*2+1,none⟩=false:=hfr15 1
 clear hcl15 hcc15 hfr15 hM15
 replace p15:=eq_true p15
 replace q15:=eq_true q15
 obtain⟨ce21,hcl21,hM21,hcc21,hfr21⟩:=Kd.R_elem HQ20.out z58 ((ji9):Int) (od) (by have h_: ((ji9):Int)<((x0_2.length:Int):Int):=od;first|exact h_|(have e_:=(Kd.R_reads' HO_0.out).1;omega)|simpa using h_)
 obtain rfl:=k58_openM hM21
 have HP21:=(Kd.R_seg HQ20.out ((ji9):Int) (od) (by have h_: ((ji9):Int)<((x0_2.length:Int):Int):=od;first|exact h_|(have e_:=(Kd.R_reads' HO_0.out).1;omega)|simpa using h_) (seg:=[.int .i64 ((rd_T58 x0_2 x9_2).f0), .int .i64 ((rd_T58 x0_2 x9_2).f1)]) (j:=0) hcl21 hcc21 (show 2≤2 from by decide) (x':=(⟨(rd_T58 x0_2 x9_2).f0,(rd_T58 x0_2 x9_2).f1⟩:S58)) (k58_mkM _ _ _ (⟨(rd_T58 x0_2 x9_2).f0,(rd_T58 x0_2 x9_2).f1⟩:S58)) (fun _ hk=>hk)).1
 rw[←Ny375.out]at HP21
 have HQ21:=Aside0.mk HP21
 clear hcl21 hcc21 hfr21 hM21 HP21
 refine start_ (n:=18) (S:=fun w'=>w'.cell? ⟨go14,((ji9)).toNat*2,none⟩=some (.int .i64 ((rd_T58 x0_2 (ji9)).f0))∧w'.cell? ⟨go14,((ji9)).toNat*2+1,none⟩=some (.int .i64 ((rd_T58 x0_2 (ji9)).f1))∧w'.cell? ⟨go14,((x9_2).toNat*2),none⟩=some (.int .i64 ((rd_T58 x0_2 x9_2).f0))∧w'.cell? ⟨go14,((x9_2).toNat*2)+1,none⟩=some (.int .i64 ((rd_T58 x0_2 x9_2).f1))) (ds:=[15,17]) (lb 18 0) (by kernel_rfl) rfl rfl ⟨hx372_0,hx372_1,hx373_0,hx373_1⟩ (fun hHeld=>?_);refine with_tabW impl_Sensor_87.tab6 impl_Sensor_87.bits6 (fun HT_ HW_=>?_)
 generalize w18.drew=w19 at HO_0 HK HB GG14 HQ20 HQ21 hf14_0 hf14_1 hf15_0 hf15_1 hx14_0 hx14_1 hx15_0 hx15_1 hx369_0 hx369_1 hx370_0 hx370_1 hx372_0 hx372_1 hx373_0 hx373_1 hHeld⊢
 refine pq 0 (N:=some 37) (lb 18 1) HT_ ?_
 refine pq 1 (N:=some 38) (lb 18 3) HT_ ?_
 refine pq 2 (N:=some 39) (lb 18 7) HT_ ?_
 refine pq 3 (N:=some 40) (lb 18 15) HT_ ?_
 refine pq 4 (N:=some 41) (lb 18 31) HT_ ?_
 refine pq 5 (N:=some 42) (lb 18 63) HT_ ?_
 refine pq 6 (N:=some 43) (lb 18 127) HT_ ?_
 refine pq 7 (N:=some 44) (lb 18 255) HT_ ?_
 refine pq 8 (N:=some 45) (lb 18 511) HT_ ?_
 refine pq 10 (N:=some 47) (lb 18 1535) HT_ ?_
 refine pq 11 (N:=some 48) (lb 18 3583) HT_ ?_
 refine pq 12 (N:=some 49) (lb 18 7679) HT_ ?_
 refine tq 9 (N:=some 46) (lb 18 8191) HT_ HW_ hHeld ?_
 refine tq 13 (N:=some 50) (lb 18 16383) HT_ HW_ hHeld ?_
 refine pq 14 (N:=some 51) (lb 18 32767) HT_ ?_
 refine last_ (i:=15) (N:=none) (lb 18 65535) rfl rfl (one_of HT_.out (by kernel_rfl)) (by decide) (fun K hK=>?_)
 refine skip_ (w1:= ?_) (by rfl) rfl ?_ ?_
 rotate_left
 ·go_simp
  rfl
 refine hK.out _ _ ?_
 clear hK K
 refine pq 16 (N:=some 52) (lb 18 131071) HT_ ?_
 refine last_ (i:=17) (N:=none) (lb 18 262143) rfl rfl (one_of HT_.out (by kernel_rfl)) (by decide) (fun K hK=>?_)
 refine skip_ (w1:= ?_) (by rfl) rfl ?_ ?_
 rotate_left
 ·have hA_:0≤(ji9:Int):=od
  have hB_:0≤(x9_2:Int):=od
  have hne1_:¬(x9_2.toNat=ji9.toNat):=by have e_:=hji9;unfold wrap64 at e_;omega
  have hne2_:¬(ji9.toNat=x9_2.toNat):=fun e_=>hne1_ e_.symm
  have hC_: (ji9:Int)<((x0_2.length:Int):Int):=od
  obtain⟨ceZ_,hclZ_,hMZ_,hccZ_,hfrZ_⟩:=Kd.R_elem HO_0.out z58 (ji9:Int) hA_ hC_
  have hfz0_:w19.frozen? ⟨go14,ji9.toNat*2,none⟩=false:=hfrZ_ 0
  have hfz1_:w19.frozen? ⟨go14,ji9.toNat*2+1,none⟩=false:=hfrZ_ 1
  clear hA_ hB_ hC_ hclZ_ hMZ_ hccZ_ hfrZ_
  go_simp
  rfl
 refine hK.out _ _ ?_
 clear hK K
 refine done_ (done_of HT_.out (by kernel_rfl)) ?_
 try go_wp2
 go_roundg k2
 case measure=>have:=HK1.out;have:=HK2.out;omega
 case rel=>exact⟨(y375),(ji9),(by first|rfl|(simp;done)|(simp only[←hji9]<;>(first|rfl|simp))|(simp[*];done)),H',⟨by have:=HK1.out;have:=HK2.out;omega⟩,⟨by(with_reducible repeat(first|apply Kd.R_alloc|apply Kd.R_drewN|apply Kd.R_drew));exact HQ21.out⟩,⟨by repeat(first|(with_reducible first|exact HK.out|apply Kept.alloc|apply Kept.drewN|apply Kept.drew|refine Kept.setCell ?_ HMgo14.out _|refine Kept.setCell ?_ HMgo14.out _|refine Kept.setCell ?_ HMgo14.out _|refine Kept.setCell ?_ HMgo14.out _)|exact HK.out)⟩,⟨by repeat(first|(with_reducible first|exact HB.out|apply below_alloc|apply pw_below_drewN|apply below_drew1|refine below_set ?_ GB14.out|refine below_set ?_ GB14.out|refine below_set ?_ GB14.out|refine below_set ?_ GB14.out)|exact HB.out)⟩⟩
section
open Kd
mutual
def impl_Sensor_83.l0:Nat→List (S58)→Int→Int→Int→Int→Int→Option ((List (S58)))
 | 0,_,_,_,_,_,_=>none
 | k+1,x0,x1,x2,x6,x7,x8=>if x8≤x1 then((impl_Sensor_87.f k x0 x7 x8 x2).bind fun t376=>(impl_Sensor_83.l0 k t376 x1 x2 x6 x8 (wrap64 (x8+x6))))else((impl_Sensor_87.f k x0 x7 x1 x2).bind fun t377=>(impl_Sensor_83.l1 k t377 x1 x6))
def impl_Sensor_83.l1:Nat→List (S58)→Int→Int→Option ((List (S58)))
 | 0,_,_,_=>none
 | k+1,x0,x1,x6=>if x6<x1 then(impl_Sensor_83.l2 k x0 x1 x6 0 (wrap64 (2*x6)))else(some x0)
def impl_Sensor_83.l2:Nat→List (S58)→Int→Int→Int→Int→Option ((List (S58)))
 | 0,_,_,_,_,_=>none
 | k+1,x0,x1,x6,x7,x8=>if x8≤x1 then(none)else(if(wrap64 (x7+x6))<x1 then(none)else(impl_Sensor_83.l1 k x0 x1 (wrap64 (x6*2))))
end
def impl_Sensor_83.f (k:Nat) (l0:List (S58)) (a1:Int) (a2:Int):Option ((List (S58))):=impl_Sensor_83.l0 k l0 a1 a2 20 0 20
theorem impl_Sensor_83.mono_l:∀ k,(∀ y0 y1 y2 y3 y4 y5,LeO (impl_Sensor_83.l0 k y0 y1 y2 y3 y4 y5) (impl_Sensor_83.l0 (k+1) y0 y1 y2 y3 y4 y5))∧(∀ y0 y1 y2,LeO (impl_Sensor_83.l1 k y0 y1 y2) (impl_Sensor_83.l1 (k+1) y0 y1 y2))∧(∀ y0 y1 y2 y3 y4,LeO (impl_Sensor_83.l2 k y0 y1 y2 y3 y4) (impl_Sensor_83.l2 (k+1) y0 y1 y2 y3 y4))
 | 0=>by
  refine⟨?_,?_,?_⟩<;>(intros;intro r h;simp[impl_Sensor_83.l0,impl_Sensor_83.l1,impl_Sensor_83.l2]at h)
 | k+1=>by
  obtain⟨ih0,ih1,ih2⟩:=impl_Sensor_83.mono_l k
  refine⟨?_,?_,?_⟩<;>intros<;>(first|unfold impl_Sensor_83.l0|unfold impl_Sensor_83.l1|unfold impl_Sensor_83.l2)<;>(repeat' (with_reducible first|exact ih0 ..|exact ih1 ..|exact ih2 ..|exact impl_Sensor_87.mono ..|exact LeO.refl _|exact LeO.none _|refine LeO.ite ?_ ?_|refine LeO.bind ?_ (fun _=>?_)))
theorem impl_Sensor_83.mono:∀ a0 a1 a2 k,LeO (impl_Sensor_83.f k a0 a1 a2) (impl_Sensor_83.f (k+1) a0 a1 a2):=by
 intro a0 a1 a2 k
 obtain⟨ih0,ih1,ih2⟩:=impl_Sensor_83.mono_l k
 unfold impl_Sensor_83.f
 repeat' (with_reducible first|exact ih0 ..|exact ih1 ..|exact ih2 ..|exact impl_Sensor_87.mono ..|exact LeO.refl _|exact LeO.none _|refine LeO.ite ?_ ?_|refine LeO.bind ?_ (fun _=>?_))
set_option maxHeartbeats 8000000 in
set_option maxRecDepth 100000 in
theorem impl_Sensor_83.calls (k:Nat) (P0_:Nat→Prop) (u9000_:Value) (l0:List (S58)) (a1:Int) (a2:Int) (r:List (S58)) (w0 w:World) (hB:Below w0.heap.size w0 w) (ho0:Kd.R k58 58 w w0.heap.size P0_ u9000_ l0) (h:impl_Sensor_83.f k l0 a1 a2=some r):
  Calls Try.prog 83 #[u9000_,.int .i64 a1,.func (.func 65) #[] #[]] w fun e w'=>e= .returned (.tuple #[])∧Kd.R k58 58 w' w0.heap.size (fun k_=>(P0_ k_∨w.heap.size≤k_)) u9000_ r∧Below w0.heap.size w0 w'∧Kept w w' (fun k_=>P0_ k_):=by
 have HO0:=Aside0.mk (show Kd.R k58 58 w w0.heap.size (fun k_=>(P0_ k_∨w.heap.size≤k_)) u9000_ l0 from R_mono ho0 (fun k_ hk=>(.inl hk)))
 have HK:=Aside0.mk (Kept.refl w (fun k_=>P0_ k_))
 have HB:=Aside0.mk hB
 clear hB
 have H: (impl_Sensor_83.l0 k l0 a1 a2 20 0 20)=some r:=h
 clear h
 have H':=Aside0.mk H
 clear H
 go_enter Try.func83,Try.ntmps83
 go_wp2
 go_loopg [7,8] k (fun kq v7 v8 w'=>∃ (x0_1:List (S58)) (x7_1:Int) (x8_1:Int),v7= .int .i64 x7_1∧v8= .int .i64 x8_1∧Aside0 (impl_Sensor_83.l0 kq x0_1 a1 a2 20 x7_1 x8_1=some r)∧Aside0 (kq≤k)∧Aside0 (Kd.R k58 58 w' w0.heap.size (fun k_=>(P0_ k_∨w.heap.size≤k_)) u9000_ x0_1)∧Aside0 (Kept w w' (fun k_=>P0_ k_))∧Aside0 (Below w0.heap.size w0 w'))
 case atStart=>exact⟨(l0),(0),(20),fd,fd,H',⟨Nat.le_refl _⟩,⟨rm HO0.out⟩,⟨by repeat(first|(with_reducible first|exact HK.out|apply Kept.alloc|apply Kept.drewN|apply Kept.drew)|exact HK.out)⟩,⟨hm HB.out⟩⟩
 clear H'
 obtain⟨x0_1,x7_1,x8_1,rfl,rfl,HA,HK1,HO_0,HK,HB⟩:=hrel
 obtain _|k1:=gk;·cases HA.out
 obtain⟨H⟩:=HA
 simp only[impl_Sensor_83.l0]at H
 by_cases c4:x8_1≤a1
 ·rw[if_pos c4]at H
  have c4b0:decide (x8_1≤a1)=true:=decide_eq_true c4
  clear c4
  obtain⟨t376,A5,H⟩:=bd H;(try dsimp only at H)
  have H':=Aside0.mk H
  clear H
  obtain⟨Ao6,co6,eo6⟩:=R_slice HO_0.out
  subst eo6
  go_wp2_with (first|(refine gs 18 Try.func87 #[.slice Ao6 x0_1.length co6,.int .i64 x7_1,.int .i64 x8_1,.func (.func 65) #[] #[]] ?_;(with_reducible refine(impl_Sensor_87.calls k1 (fun k_=>some k_=(.slice Ao6 x0_1.length co6:Value).ownBlock) (.slice Ao6 x0_1.length co6) x0_1 x7_1 x8_1 a2 t376 w0 _ ?side1 ?side2 A5.out).mono ?_);(case side1=>exact hm HB.out);(case side2=>exact R_tight rfl HO_0.out);rintro e w7 ⟨rfl,hy0,hb,hkp⟩;refine⟨_,rfl,?_⟩;replace HK:=ak (Kept.then_ (S:=(fun k_=>P0_ k_)) (by repeat(first|(with_reducible first|exact HK.out|apply Kept.alloc|apply Kept.drewN|apply Kept.drew)|exact HK.out)) hkp (fun k_ hs_=>(fun e_=>(HO_0.out.1 k_ e_.symm)) hs_));replace HO_0:=ak (R_reok rfl hy0 (fun k_ e_=>HO_0.out.1 k_ e_));replace HB:=ak hb;(try clear hb);(try clear hkp);(try clear hy0)))
  go_roundg k1
  case measure=>have:=HK1.out;omega
  case rel=>exact⟨(t376),(x8_1),(wrap64 (x8_1+20)),fd,fd,H',⟨by have:=HK1.out;omega⟩,⟨rm HO_0.out⟩,⟨by repeat(first|(with_reducible first|exact HK.out|apply Kept.alloc|apply Kept.drewN|apply Kept.drew)|exact HK.out)⟩,⟨hm HB.out⟩⟩
 rw[if_neg c4]at H
 have c4b0:decide (x8_1≤a1)=false:=decide_eq_false c4
 clear c4
 obtain⟨t377,A8,H⟩:=bd H;(try dsimp only at H)
 have H':=Aside0.mk H
 clear H
 obtain⟨Ao9,co9,eo9⟩:=R_slice HO_0.out
 subst eo9
 go_wp2_with (first|(refine gs 27 Try.func87 #[.slice Ao9 x0_1.length co9,.int .i64 x7_1,.int .i64 a1,.func (.func 65) #[] #[]] ?_;(with_reducible refine(impl_Sensor_87.calls k1 (fun k_=>some k_=(.slice Ao9 x0_1.length co9:Value).ownBlock) (.slice Ao9 x0_1.length co9) x0_1 x7_1 a1 a2 t377 w0 _ ?side1 ?side2 A8.out).mono ?_);(case side1=>exact hm HB.out);(case side2=>exact R_tight rfl HO_0.out);rintro e w10 ⟨rfl,hy0,hb,hkp⟩;refine⟨_,rfl,?_⟩;replace HK:=ak (Kept.then_ (S:=(fun k_=>P0_ k_)) (by repeat(first|(with_reducible first|exact HK.out|apply Kept.alloc|apply Kept.drewN|apply Kept.drew)|exact HK.out)) hkp (fun k_ hs_=>(fun e_=>(HO_0.out.1 k_ e_.symm)) hs_));replace HO_0:=ak (R_reok rfl hy0 (fun k_ e_=>HO_0.out.1 k_ e_));replace HB:=ak hb;(try clear hb);(try clear hkp);(try clear hy0)))
 (try simp only[ap])
 go_loopg [6] k1 (fun kq v6 w'=>∃ (x6_2:Int),v6= .int .i64 x6_2∧Aside0 (impl_Sensor_83.l1 kq t377 a1 x6_2=some r)∧Aside0 (kq≤k1)∧Aside0 (Kd.R k58 58 w' w0.heap.size (fun k_=>(P0_ k_∨w.heap.size≤k_)) (.slice Ao9 x0_1.length co9) t377)∧Aside0 (Kept w w' (fun k_=>P0_ k_))∧Aside0 (Below w0.heap.size w0 w'))
 case atStart=>exact⟨(20),fd,H',⟨Nat.le_refl _⟩,⟨rm HO_0.out⟩,⟨by repeat(first|(with_reducible first|exact HK.out|apply Kept.alloc|apply Kept.drewN|apply Kept.drew)|exact HK.out)⟩,⟨hm HB.out⟩⟩
 clear H'
 obtain⟨x6_2,rfl,HA,HK2,HO_0,HK,HB⟩:=hrel
 have hl0_2:=(R_reads' HO_0.out).1
 rw[hl0_2]at HO_0
 (try simp only[hl0_2])
 obtain _|k2:=gk;·cases HA.out
 obtain⟨H⟩:=HA
 simp only[impl_Sensor_83.l1]at H
 by_cases c11:x6_2<a1
 rotate_left
 ·rw[if_neg c11]at H
  have c11b0:decide (x6_2<a1)=false:=decide_eq_false c11
  clear c11
  obtain rfl:=Option.some.inj H
  go_wp2
  first|go_end0|((try simp only[Exit.inBlock,Exit.then]);refine bodyPost_ret (results_none rfl _ _ _) rfl ?_)
  exact⟨fe,(by first|exact(rm HO_0.out)|(simp only[hl0_2];exact(rm HO_0.out))),hm HB.out,by repeat(first|(with_reducible first|exact HK.out|apply Kept.alloc|apply Kept.drewN|apply Kept.drew)|exact HK.out)⟩
 rw[if_pos c11]at H
 have c11b0:decide (x6_2<a1)=true:=decide_eq_true c11
 clear c11
 have H':=Aside0.mk H
 clear H
 go_wp2
 go_loopg [7,8] k2 (fun kq v7 v8 w'=>∃ (x7_3:Int) (x8_3:Int),v7= .int .i64 x7_3∧v8= .int .i64 x8_3∧Aside0 (impl_Sensor_83.l2 kq t377 a1 x6_2 x7_3 x8_3=some r)∧Aside0 (kq≤k2)∧Aside0 (Kd.R k58 58 w' w0.heap.size (fun k_=>(P0_ k_∨w.heap.size≤k_)) (.slice Ao9 t377.length co9) t377)∧Aside0 (Kept w w' (fun k_=>P0_ k_))∧Aside0 (Below w0.heap.size w0 w'))
 case atStart=>exact⟨(0),(wrap64 (2*x6_2)),fd,fd,H',⟨Nat.le_refl _⟩,⟨by(try simp only[hl0_2]);(with_reducible repeat(first|apply R_alloc|apply R_drewN|apply R_drew));exact HO_0.out⟩,⟨by repeat(first|(with_reducible first|exact HK.out|apply Kept.alloc|apply Kept.drewN|apply Kept.drew)|exact HK.out)⟩,⟨hm HB.out⟩⟩
 clear H'
 obtain⟨x7_3,x8_3,rfl,rfl,HA,HK3,HO_0,HK,HB⟩:=hrel
 obtain _|k3:=gk;·cases HA.out
 obtain⟨H⟩:=HA
 simp only[impl_Sensor_83.l2]at H
 by_cases c12:x8_3≤a1
 ·rw[if_pos c12]at H
  exact absurd H (by simp)
 rw[if_neg c12]at H
 have c12b0:decide (x8_3≤a1)=false:=decide_eq_false c12
 clear c12
 by_cases c13: (wrap64 (x7_3+x6_2))<a1
 ·rw[if_pos c13]at H
  exact absurd H (by simp)
 rw[if_neg c13]at H
 have c13b0:decide ((wrap64 (x7_3+x6_2))<a1)=false:=decide_eq_false c13
 clear c13
 have H':=Aside0.mk H
 clear H
 go_wp2
 (try simp only[←hl0_2])
 go_roundg k3
 case measure=>have:=HK1.out;have:=HK2.out;have:=HK3.out;omega
 case rel=>exact⟨(wrap64 (x6_2*2)),fd,H',⟨by have:=HK1.out;have:=HK2.out;have:=HK3.out;omega⟩,⟨by(try simp only[hl0_2]);(with_reducible repeat(first|apply R_alloc|apply R_drewN|apply R_drew));exact HO_0.out⟩,⟨by repeat(first|(with_reducible first|exact HK.out|apply Kept.alloc|apply Kept.drewN|apply Kept.drew)|exact HK.out)⟩,⟨hm HB.out⟩⟩
def impl_Sensor_64.f (k:Nat) (l0:List (S58)) (a1:Int):Option ((List (S58))):=(impl_Sensor_83.f k l0 (l0.length:Int) a1).bind fun t378=>(some t378)
theorem impl_Sensor_64.mono:∀ a0 a1 k,LeO (impl_Sensor_64.f k a0 a1) (impl_Sensor_64.f (k+1) a0 a1):=by
 intro a0 a1 k
 unfold impl_Sensor_64.f
 repeat' (with_reducible first|exact impl_Sensor_83.mono ..|exact LeO.refl _|exact LeO.none _|refine LeO.ite ?_ ?_|refine LeO.bind ?_ (fun _=>?_))
set_option maxHeartbeats 8000000 in
set_option maxRecDepth 100000 in
theorem impl_Sensor_64.calls (k:Nat) (P0_:Nat→Prop) (u9000_:Value) (l0:List (S58)) (a1:Int) (r:List (S58)) (w0 w:World) (hB:Below w0.heap.size w0 w) (ho0:Kd.R k58 58 w w0.heap.size P0_ u9000_ l0) (h:impl_Sensor_64.f k l0 a1=some r):
  Calls Try.prog 64 #[u9000_,.func (.func 65) #[] #[]] w fun e w'=>e= .returned (.tuple #[])∧Kd.R k58 58 w' w0.heap.size (fun k_=>(P0_ k_∨w.heap.size≤k_)) u9000_ r∧Below w0.heap.size w0 w'∧Kept w w' (fun k_=>P0_ k_):=by
 have HO0:=Aside0.mk (show Kd.R k58 58 w w0.heap.size (fun k_=>(P0_ k_∨w.heap.size≤k_)) u9000_ l0 from R_mono ho0 (fun k_ hk=>(.inl hk)))
 have HK:=Aside0.mk (Kept.refl w (fun k_=>P0_ k_))
 have HB:=Aside0.mk hB
 clear hB
 have H: ((impl_Sensor_83.f k l0 (l0.length:Int) a1).bind fun t378=>(some t378))=some r:=h
 clear h
 obtain⟨t378,A3,H⟩:=bd H;(try dsimp only at H)
 obtain rfl:=Option.some.inj H
 obtain⟨Ao4,co4,eo4⟩:=R_slice HO0.out
 subst eo4
 go_enter Try.func64,Try.ntmps64
 go_wp2_with (first|(refine gs 8 Try.func83 #[.slice Ao4 l0.length co4,.int .i64 (l0.length:Int),.func (.func 65) #[] #[]] ?_;(with_reducible refine(impl_Sensor_83.calls k (fun k_=>some k_=(.slice Ao4 l0.length co4:Value).ownBlock) (.slice Ao4 l0.length co4) l0 (l0.length:Int) a1 t378 w0 _ ?side1 ?side2 A3.out).mono ?_);(case side1=>exact hm HB.out);(case side2=>exact R_tight rfl HO0.out);rintro e w5 ⟨rfl,hy0,hb,hkp⟩;refine⟨_,rfl,?_⟩;replace HK:=ak (Kept.then_ (S:=(fun k_=>P0_ k_)) (by repeat(first|(with_reducible first|exact HK.out|apply Kept.alloc|apply Kept.drewN|apply Kept.drew)|exact HK.out)) hkp (fun k_ hs_=>(fun e_=>(HO0.out.1 k_ e_.symm)) hs_));replace HO0:=ak (R_reok rfl hy0 (fun k_ e_=>HO0.out.1 k_ e_));replace HB:=ak hb;(try clear hb);(try clear hkp);(try clear hy0)))
 first|go_end0|((try simp only[Exit.inBlock,Exit.then]);refine bodyPost_ret (results_none rfl _ _ _) rfl ?_)
 exact⟨fe,rm HO0.out,hm HB.out,by repeat(first|(with_reducible first|exact HK.out|apply Kept.alloc|apply Kept.drewN|apply Kept.drew)|exact HK.out)⟩
def slices_Repeat_int_int.f (k:Nat) (l:List Int) (n:Int):Option (List Int):=Repeat.f k l n
theorem slices_Repeat_int_int.mono:∀ l n k,LeO (slices_Repeat_int_int.f k l n) (slices_Repeat_int_int.f (k+1) l n):=fun l n k=>Repeat.mono l n k
theorem slices_Repeat_int_int.calls (k:Nat) (A0:Option Addr) (c0:Nat) (l0:List Int) (a1:Int) (r:List Int) (w:World) (hr0:Kd.C (Kd.int .i64) w A0 l0.length l0) (hc0:l0.length≤c0) (h:slices_Repeat_int_int.f k l0 a1=some r):
    Calls Try.prog 66 #[.slice A0 l0.length c0,.int .i64 a1] w fun e w'=>∃ v0_:Value,e= .returned (v0_)∧Kd.R (Kd.int .i64) 3 w' w.heap.size (fun _=>True) v0_ r∧Below w.heap.size w w':=Repeat.calls k A0 c0 l0 a1 r w hr0 hc0 h
def slices_Max_int_int.l0:Nat→List Int→Int→Int→Option (Int)
 | 0,_,_,_=>none
 | k+1,x0,x3,x4=>if x4<(x0.length:Int)then(if 0≤x4 then(slices_Max_int_int.l0 k x0 (mx x3 (rd x0 x4)) (wrap64 (x4+1)))else(none))else(some x3)
def slices_Max_int_int.f (k:Nat) (l0:List Int):Option (Int):=if(l0.length:Int)<1 then(none)else(if 0<(l0.length:Int)then(slices_Max_int_int.l0 k l0 (rd l0 0) 1)else(none))
theorem slices_Max_int_int.mono_l:∀ k,(∀ y0 y1 y2,LeO (slices_Max_int_int.l0 k y0 y1 y2) (slices_Max_int_int.l0 (k+1) y0 y1 y2))
 | 0=>by
  refine ?_<;>(intros;intro r h;simp[slices_Max_int_int.l0]at h)
 | k+1=>by
  have ih0:=slices_Max_int_int.mono_l k
  refine ?_<;>intros<;>unfold slices_Max_int_int.l0<;>(repeat' (with_reducible first|exact ih0 ..|exact LeO.refl _|exact LeO.none _|refine LeO.ite ?_ ?_|refine LeO.bind ?_ (fun _=>?_)))
theorem slices_Max_int_int.mono:∀ a0 k,LeO (slices_Max_int_int.f k a0) (slices_Max_int_int.f (k+1) a0):=by
 intro a0 k
 have ih0:=slices_Max_int_int.mono_l k
 unfold slices_Max_int_int.f
 repeat' (with_reducible first|exact ih0 ..|exact LeO.refl _|exact LeO.none _|refine LeO.ite ?_ ?_|refine LeO.bind ?_ (fun _=>?_))
set_option maxHeartbeats 8000000 in
set_option maxRecDepth 100000 in
theorem slices_Max_int_int.calls (k:Nat) (A0:Option Addr) (c0:Nat) (l0:List Int) (r:Int) (w:World) (hr0:Kd.C (Kd.int .i64) w A0 l0.length l0) (hc0:l0.length≤c0) (h:slices_Max_int_int.f k l0=some r):
  Calls Try.prog 67 #[.slice A0 l0.length c0] w fun e w'=>e= .returned (.int .i64 r)∧Below w.heap.size w w':=by
 have HR0:=Aside0.mk hr0
 clear hr0 hc0
 have HB:=Aside0.mk (Below.refl w.heap.size w)
 unfold slices_Max_int_int.f at h
 have H:=h
 clear h
 by_cases c2: (l0.length:Int)<1
 ·rw[if_pos c2]at H
  exact absurd H (by simp)
 rw[if_neg c2]at H
 have c2b0:decide ((l0.length:Int)<1)=false:=decide_eq_false c2
 clear c2
 obtain⟨c3,H⟩:=gi H
 have c3b0:decide (0<(l0.length:Int))=true:=decide_eq_true c3
 clear c3
 have H':=Aside0.mk H
 clear H
 have p379:0≤(0:Int):=(by omega)
 have q379:0<(l0.length:Int):=od
 obtain⟨ad379,e379,hx379_0⟩:=Kd.at_int HR0.out 0 p379 q379
 cases e379
 have qi379: (0<l0.length)=True:=eq_true (by omega)
 (try rw[show((0:Int)).toNat=0 from rfl]at hx379_0)
 (try rw[Addr.add_zero']at hx379_0)
 replace p379:=eq_true p379
 replace q379:=eq_true q379
 go_enter Try.func67,Try.ntmps67
 go_wp2
 go_loopg [3,4] k (fun kq v3 v4 w'=>∃ (x3_1:Int) (x4_1:Int),v3= .int .i64 x3_1∧v4= .int .i64 x4_1∧Aside0 (slices_Max_int_int.l0 kq l0 x3_1 x4_1=some r)∧Aside0 (kq≤k)∧Aside0 (Below w.heap.size w w'))
 case atStart=>exact⟨(rd l0 0),(1),fd,fd,H',⟨Nat.le_refl _⟩,⟨hm HB.out⟩⟩
 clear H'
 obtain⟨x3_1,x4_1,rfl,rfl,HA,HK1,HB⟩:=hrel
 obtain _|k1:=gk;·cases HA.out
 obtain⟨H⟩:=HA
 simp only[slices_Max_int_int.l0]at H
 by_cases c4:x4_1<(l0.length:Int)
 rotate_left
 ·rw[if_neg c4]at H
  have c4b0:decide (x4_1<(l0.length:Int))=false:=decide_eq_false c4
  clear c4
  obtain rfl:=Option.some.inj H
  go_wp2
  go_ret
  exact⟨fe,hm HB.out⟩
 rw[if_pos c4]at H
 have c4b0:decide (x4_1<(l0.length:Int))=true:=decide_eq_true c4
 clear c4
 obtain⟨c5,H⟩:=gi H
 have c5b0:decide (0≤x4_1)=true:=decide_eq_true c5
 clear c5
 generalize hji6: (mx x3_1 (rd l0 x4_1))=ji6 at H
 have hji6_: (if x3_1<(rd l0 x4_1)then(rd l0 x4_1)else x3_1)=ji6:=hji6
 have H':=Aside0.mk H
 clear H
 have p380:0≤(x4_1:Int):=od
 have q380:x4_1<(l0.length:Int):=od
 obtain⟨ad380,e380,hx380_0⟩:=Kd.at_int HR0.out x4_1 p380 q380
 obtain rfl:ad379=ad380:=(by injection e380)
 replace hx380_0:=hc HB hx380_0
 replace p380:=eq_true p380
 replace q380:=eq_true q380
 go_wp2
 go_roundg k1
 case measure=>have:=HK1.out;omega
 case rel=>exact⟨(ji6),(wrap64 (x4_1+1)),(by first|rfl|(simp;done)|(simp only[←hji6]<;>(first|rfl|simp))|(simp[*];done)),fd,H',⟨by have:=HK1.out;omega⟩,⟨hm HB.out⟩⟩
end
end Go.Proofs.Ytanfamfgdgcjpaa.QFnMoves
