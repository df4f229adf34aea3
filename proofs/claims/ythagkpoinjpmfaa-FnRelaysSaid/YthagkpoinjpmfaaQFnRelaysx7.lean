/- Functions that the law FnRelays comes to, and their walks: no condition but those named. -/
import Derived.Test.YthagkpoinjpmfaaQFnRelaysx0
import Derived.Test.YthagkpoinjpmfaaQFnRelaysx1
import Derived.Test.YthagkpoinjpmfaaQFnRelaysx6
namespace Go.Proofs.Ythagkpoinjpmfaa.QFnRelays
open Go.RowKit Go.Proofs.YthagkpoinjpmfaaW.PrintWords Go.Proofs.YthagkpoinjpmfaaW.PrintLast Go.Proofs.YthagkpoinjpmfaaW.PrintMore Go.Proofs.Ythagkpoinjpmfaa.Short
attribute [local go_sem] max2_int min2_int max_two min_two max_three min_three max_four min_four
set_option linter.unusedVariables false
set_option linter.unusedSimpArgs false
section
open Kd
mutual
def impl_Road_isRelay.l0:Nat→List (S63)→Int→Int→Int→List (S70)→Int→Int→Int→Bool→Option (Bool)
 | 0,_,_,_,_,_,_,_,_,_=>none
 | k+1,x1,x2,x3,x11,x15,x16,x17,x243000,x243001=>if x17<x16 then(if 0≤x17 then(if x17<(x15.length:Int)then((impl_within.f ((rd_T70 x15 x17).f0) 0 (wrap64 ((x1.length:Int)-1))).bind fun t245=>(if t245=true then(if 0≤((rd_T70 x15 x17).f0)then(if(Go.bits .and .i64 (shr .i64 x11 ((rd_T70 x15 x17).f0)) 1)=1 then(impl_Road_isRelay.j1 k x1 x2 x3 x11 x15 x16 x17 true x243000 x243001 ((rd_T70 x15 x17).f0) ((rd_T70 x15 x17).f1) ((rd_T70 x15 x17).f2))else(if((rd_T70 x15 x17).f1)=x2 then(if((rd_T70 x15 x17).f2)≤x2 then(impl_Road_isRelay.j1 k x1 x2 x3 x11 x15 x16 x17 true x243000 x243001 ((rd_T70 x15 x17).f0) ((rd_T70 x15 x17).f1) ((rd_T70 x15 x17).f2))else((impl_Road_has.f k x243000 x243001 (([(rd_T70 x15 x17).f2]:List Int))).bind fun t249=>(impl_Road_isRelay.j1 k x1 x2 x3 x11 x15 x16 x17 (!t249) x243000 x243001 ((rd_T70 x15 x17).f0) ((rd_T70 x15 x17).f1) ((rd_T70 x15 x17).f2))))else(impl_Road_isRelay.j1 k x1 x2 x3 x11 x15 x16 x17 true x243000 x243001 ((rd_T70 x15 x17).f0) ((rd_T70 x15 x17).f1) ((rd_T70 x15 x17).f2))))else(none))else(impl_Road_isRelay.j1 k x1 x2 x3 x11 x15 x16 x17 true x243000 x243001 ((rd_T70 x15 x17).f0) ((rd_T70 x15 x17).f1) ((rd_T70 x15 x17).f2))))else(none))else(none))else(some (x2==x3))
def impl_Road_isRelay.j1:Nat→List (S63)→Int→Int→Int→List (S70)→Int→Int→Bool→Int→Bool→Int→Int→Int→Option (Bool)
 | 0,_,_,_,_,_,_,_,_,_,_,_,_,_=>none
 | k+1,x1,x2,x3,x11,x15,x16,x17,x55,x243000,x243001,x245000,x245001,x245002=>if x55=true then(some false)else(if 0≤x245000 then(if x245000<(x1.length:Int)then((impl_Road_steps.f x243000 x243001 ((rd_T63 x1 x245000).f0) ((rd_T63 x1 x245000).f1) ((rd_T63 x1 x245000).f2) x2 x245002).bind fun t252=>(if t252>((rd_T63 x1 x245000).f1)then(some false)else(impl_Road_isRelay.l0 k x1 x245002 x3 (Go.bits .or .i64 x11 (shl .i64 1 x245000)) x15 x16 (wrap64 (x17+1)) x243000 x243001)))else(none))else(none))
end
def impl_Road_isRelay.f (k:Nat) (a0_0:Int) (a0_1:Bool) (l1:List (S63)) (a2:Int) (a3:Int) (l4:List (S70)):Option (Bool):=impl_Road_isRelay.l0 k l1 a2 a3 0 l4 (l4.length:Int) 0 a0_0 a0_1
theorem impl_Road_isRelay.mono_l:∀ k,(∀ y0 y1 y2 y3 y4 y5 y6 y7 y8,LeO (impl_Road_isRelay.l0 k y0 y1 y2 y3 y4 y5 y6 y7 y8) (impl_Road_isRelay.l0 (k+1) y0 y1 y2 y3 y4 y5 y6 y7 y8))∧(∀ y0 y1 y2 y3 y4 y5 y6 y7 y8 y9 y10 y11 y12,LeO (impl_Road_isRelay.j1 k y0 y1 y2 y3 y4 y5 y6 y7 y8 y9 y10 y11 y12) (impl_Road_isRelay.j1 (k+1) y0 y1 y2 y3 y4 y5 y6 y7 y8 y9 y10 y11 y12))
 | 0=>by
  refine⟨?_,?_⟩<;>(intros;intro r h;simp[impl_Road_isRelay.l0,impl_Road_isRelay.j1]at h)
 | k+1=>by
  obtain⟨ih0,ih1⟩:=impl_Road_isRelay.mono_l k
  refine⟨?_,?_⟩<;>intros<;>(first|unfold impl_Road_isRelay.l0|unfold impl_Road_isRelay.j1)<;>(repeat' (with_reducible first|exact ih0 ..|exact ih1 ..|exact impl_Road_has.mono ..|exact LeO.refl _|exact LeO.none _|refine LeO.ite ?_ ?_|refine LeO.bind ?_ (fun _=>?_)))
theorem impl_Road_isRelay.mono:∀ a0 a1 a2 a3 a4 a5 k,LeO (impl_Road_isRelay.f k a0 a1 a2 a3 a4 a5) (impl_Road_isRelay.f (k+1) a0 a1 a2 a3 a4 a5):=by
 intro a0 a1 a2 a3 a4 a5 k
 obtain⟨ih0,ih1⟩:=impl_Road_isRelay.mono_l k
 unfold impl_Road_isRelay.f
 repeat' (with_reducible first|exact ih0 ..|exact ih1 ..|exact impl_Road_has.mono ..|exact LeO.refl _|exact LeO.none _|refine LeO.ite ?_ ?_|refine LeO.bind ?_ (fun _=>?_))
def impl_Road_isRelay.T8:Bool × List (List Nat × List Nat):=(true,[([],[]),([],[]),([],[]),([],[]),([3],[3]),([0,1,2,4],[0,1,2,4]),([],[]),([6],[6]),([5,7],[5,7])])
def impl_Road_isRelay.B8:List Nat:=[0,0,0,0,8,31,0,64,255]
theorem impl_Road_isRelay.tab8:rtab .any (opsOf Try.f64 8)=impl_Road_isRelay.T8:=by kernel_rfl
theorem impl_Road_isRelay.bits8:waitsOk impl_Road_isRelay.T8.2 impl_Road_isRelay.B8=true:=by kernel_rfl
set_option maxHeartbeats 8000000 in
set_option maxRecDepth 100000 in
theorem impl_Road_isRelay.calls (k:Nat) (a0_0:Int) (a0_1:Bool) (A1:Option Addr) (c1:Nat) (l1:List (S63)) (a2:Int) (a3:Int) (A4:Option Addr) (c4:Nat) (l4:List (S70)) (r:Bool) (w:World) (hr1:Kd.C k63 w A1 l1.length l1) (hc1:l1.length≤c1) (hr4:Kd.C k70 w A4 l4.length l4) (hc4:l4.length≤c4) (h:impl_Road_isRelay.f k a0_0 a0_1 l1 a2 a3 l4=some r):
  Calls Try.prog 64 #[.agg #[.int .i64 a0_0,.bool a0_1],.slice A1 l1.length c1,.int .i64 a2,.int .i64 a3,.slice A4 l4.length c4] w fun e w'=>e= .returned (.bool r)∧Below w.heap.size w w':=by
 have hu28:=Try.underlying28
 have hu70:=Try.underlying70
 have hu63:=Try.underlying63
 have HR1:=Aside0.mk hr1
 have HC1:=Aside0.mk hc1
 clear hr1 hc1
 have HR4:=Aside0.mk hr4
 have HC4:=Aside0.mk hc4
 clear hr4 hc4
 have HB:=Aside0.mk (Below.refl w.heap.size w)
 unfold impl_Road_isRelay.f at h
 have H:=h
 clear h
 have H':=Aside0.mk H
 clear H
 go_enter Try.func64,Try.ntmps64
 go_wp2_with (first|((with_reducible refine gate_dst (N:=5) rfl ?_);(try(refine gate_guard (by rfl) ?_;dsimp only));refine box_event ?hg (N:=5) ?hd (cs:=#[.int .i64 a0_0,.bool a0_1]) (t:=28) ?hr ?_;(case hd=>rfl);(case hg=>rfl);(case hr=>first|(go_simp;done)|(go_simp;rfl));intro gb242 hg w6 hbox hb;have BK242:=ak hbox;have GW242:=gw HB hg;have GE242:=gw HB hg;replace HB:=bs HB hb;clear hb hbox hg))
 go_loopg [2,11,17] k (fun kq v2 v11 v17 w'=>∃ (x2_1:Int) (x11_1:Int) (x17_1:Int),v2= .int .i64 x2_1∧v11= .int .i64 x11_1∧v17= .int .i64 x17_1∧Aside0 (impl_Road_isRelay.l0 kq l1 x2_1 a3 x11_1 l4 (l4.length:Int) x17_1 a0_0 a0_1=some r)∧Aside0 (kq≤k)∧Aside0 (w'.heap[gb242]? =some (.cells #[.int .i64 a0_0,.bool a0_1] 28 (0,0)))∧Aside0 (Below w.heap.size w w'))
 case atStart=>exact⟨(a2),(0),(0),fd,fd,fd,H',⟨Nat.le_refl _⟩,⟨bm BK242.out⟩,⟨h1 HB.out GE242.out⟩⟩
 clear H'
 try clear c1
 try clear p2
 try clear c4
 try clear c6
 obtain⟨x2_1,x11_1,x17_1,rfl,rfl,rfl,HA,HK1,BK242,HB⟩:=hrel
 obtain _|k1:=gk;·cases HA.out
 obtain⟨H⟩:=HA
 simp only[impl_Road_isRelay.l0]at H
 by_cases c7:x17_1<(l4.length:Int)
 rotate_left
 ·rw[if_neg c7]at H
  have c7b0:decide (x17_1<(l4.length:Int))=false:=decide_eq_false c7
  clear c7
  obtain rfl:=Option.some.inj H
  go_wp2
  go_ret
  exact⟨fe,h1 HB.out GE242.out⟩
 rw[if_pos c7]at H
 have c7b0:decide (x17_1<(l4.length:Int))=true:=decide_eq_true c7
 clear c7
 obtain⟨c8,H⟩:=gi H
 have c8b0:decide (0≤x17_1)=true:=decide_eq_true c8
 clear c8
 obtain⟨c9,H⟩:=gi H
 have c9b0:decide (x17_1<(l4.length:Int))=true:=decide_eq_true c9
 clear c9
 have HC10:=Aside0.mk H
 clear H
 have p243:0≤(x17_1:Int):=od
 have q243:x17_1<(l4.length:Int):=od
 obtain⟨ad243,e243,hx243_0,hx243_1,hx243_2⟩:=at_T70 HR4.out x17_1 p243 q243
 cases e243
 replace hx243_0:=hc HB hx243_0
 replace hx243_1:=hc HB hx243_1
 replace hx243_2:=hc HB hx243_2
 replace p243:=eq_true p243
 replace q243:=eq_true q243
 go_upto_region 5 with(first|((with_reducible refine gate_dst (N:=13) rfl ?_);(try(refine gate_guard (by rfl) ?_;dsimp only));refine box_event ?hg (N:=13) ?hd (cs:=#[.int .i64 0,.int .i64 0,.int .i64 0]) (t:=70) ?hr ?_;(case hd=>rfl);(case hg=>rfl);(case hr=>first|(go_simp;done)|(go_simp;rfl));intro gb244 hg w11 hbox hb;have BK244:=ak hbox;have GW244:=ak ((by rw[hg];exact(below_size (h1 HB.out GE242.out)):w.heap.size≤gb244));have GE244:=ak ((by rw[hg];exact(below_size (h1 HB.out GE242.out)):w.heap.size≤gb244));replace HB:=ak (below_step (h1 HB.out GE242.out) hb);have NB242_244:=nl BK242 hg;have NB244_242:=ng BK242 hg;replace BK242:=kb BK242 hb;clear hb hbox hg;have hnb12:=NB244_242.out;have hnc12:=NB242_244.out;have hcz13_0:=bc BK244 0 rfl;have hcz13_1:=bc BK244 1 rfl;have hcz13_2:=bc BK244 2 rfl;have hfz13_0:=bf BK244 0;have hfz13_1:=bf BK244 1;have hfz13_2:=bf BK244 2))
 (try simp only[ap])
 go_cut [55] (fun v55 wc=>∃ (kq:Nat) (x55_9:Bool),v55= .bool x55_9∧Aside0 (impl_Road_isRelay.j1 kq l1 x2_1 a3 x11_1 l4 (l4.length:Int) x17_1 x55_9 a0_0 a0_1 ((rd_T70 l4 x17_1).f0) ((rd_T70 l4 x17_1).f1) ((rd_T70 l4 x17_1).f2)=some r)∧Aside0 (kq≤k1)∧Aside0 (wc.heap[gb242]? =some (.cells #[.int .i64 a0_0,.bool a0_1] 28 (0,0)))∧Aside0 (wc.heap[gb244]? =some (.cells #[.int .i64 ((rd_T70 l4 x17_1).f0),.int .i64 ((rd_T70 l4 x17_1).f1),.int .i64 ((rd_T70 l4 x17_1).f2)] 70 (0,0)))∧Aside0 (Below w.heap.size w wc))
 case first=>
  have H:=HC10.out
  clear HC10
  obtain⟨t245,A14,H⟩:=bd H;(try dsimp only at H)
  by_cases c15:t245=true
  rotate_left
  ·replace c15:=Bool.eq_false_iff.mpr c15
   subst c15
   rw[if_neg (show ¬(false=true)by decide)]at H
   have H':=Aside0.mk H
   clear H
   have hnb35:=NB244_242.out
   have hnc35:=NB242_244.out
   have hcz36_0:=bc BK244 0 rfl
   have hcz36_1:=bc BK244 1 rfl
   have hcz36_2:=bc BK244 2 rfl
   have hfz36_0:=bf BK244 0
   have hfz36_1:=bf BK244 1
   have hfz36_2:=bf BK244 2
   go_wp2_with (first|(refine gs 26 Try.func105 #[.int .i64 ((rd_T70 l4 x17_1).f0),.int .i64 0,.int .i64 (wrap64 ((l1.length:Int)-1))] ?_;(with_reducible refine(impl_within.calls ((rd_T70 l4 x17_1).f0) 0 (wrap64 ((l1.length:Int)-1)) false _ A14.out).mono ?_);rintro e w' ⟨rfl,⟨nd,rfl⟩⟩;refine⟨_,rfl,?_⟩))
   go_meet
   case rel=>exact⟨_,(true),fd,H',⟨by first|exact Nat.le_refl _|(have:=HK1.out;omega)⟩,⟨by(with_reducible repeat(first|apply blk_drewN|apply blk_drew|apply blk_alloc));refine blk_far ?_ NB242_244.out _;(with_reducible repeat(first|apply blk_drewN|apply blk_drew|apply blk_alloc));refine blk_far ?_ NB242_244.out _;(with_reducible repeat(first|apply blk_drewN|apply blk_drew|apply blk_alloc));refine blk_far ?_ NB242_244.out _;exact bm BK242.out⟩,⟨by(with_reducible repeat(first|apply blk_drewN|apply blk_drew|apply blk_alloc));refine blk_put (cs:=#[.int .i64 ((rd_T70 l4 x17_1).f0),.int .i64 ((rd_T70 l4 x17_1).f1),.int .i64 0]) ?_ 2 _ rfl;(with_reducible repeat(first|apply blk_drewN|apply blk_drew|apply blk_alloc));refine blk_put (cs:=#[.int .i64 ((rd_T70 l4 x17_1).f0),.int .i64 0,.int .i64 0]) ?_ 1 _ rfl;(with_reducible repeat(first|apply blk_drewN|apply blk_drew|apply blk_alloc));refine blk_put (cs:=#[.int .i64 0,.int .i64 0,.int .i64 0]) ?_ 0 _ rfl;exact bm BK244.out⟩,⟨h2 HB.out GE242.out GE244.out⟩⟩
  subst c15
  rw[if_pos rfl]at H
  obtain⟨c16,H⟩:=gi H
  have c16b0:=eq_true c16
  have c16b1:decide (0≤((rd_T70 l4 x17_1).f0))=true:=decide_eq_true c16
  clear c16
  generalize hji17: (shr .i64 x11_1 ((rd_T70 l4 x17_1).f0))=ji17 at H
  (try rw[hji17]at A14)
  have hji17_: (x11_1/ 2^min ((rd_T70 l4 x17_1).f0).toNat 64)=ji17:=hji17
  have hji17z: ((rd_T70 l4 x17_1).f0)≤64→(x11_1/ 2^ ((rd_T70 l4 x17_1).f0).toNat)=ji17:=shr_small hji17
  by_cases c18: (Go.bits .and .i64 (ji17) 1)=1
  ·rw[if_pos c18]at H
   have c18b0: ((Go.bits .and .i64 (ji17) 1)==1)=true:=beq_iff_eq.mpr c18
   have c18b1: ((Go.bits .and .i64 (ji17) 1) !=1)=false:=bne_eq_false_iff_eq.mpr c18
   clear c18
   (first|rw[c18b0]|(simp only[i64_w,i32_w];rw[c18b0])|skip)
   have H':=Aside0.mk H
   clear H
   have hnb19:=NB244_242.out
   have hnc19:=NB242_244.out
   have hcz20_0:=bc BK244 0 rfl
   have hcz20_1:=bc BK244 1 rfl
   have hcz20_2:=bc BK244 2 rfl
   have hfz20_0:=bf BK244 0
   have hfz20_1:=bf BK244 1
   have hfz20_2:=bf BK244 2
   go_wp2_with (first|(refine gs 26 Try.func105 #[.int .i64 ((rd_T70 l4 x17_1).f0),.int .i64 0,.int .i64 (wrap64 ((l1.length:Int)-1))] ?_;(with_reducible refine(impl_within.calls ((rd_T70 l4 x17_1).f0) 0 (wrap64 ((l1.length:Int)-1)) true _ A14.out).mono ?_);rintro e w' ⟨rfl,⟨nd,rfl⟩⟩;refine⟨_,rfl,?_⟩))
   go_meet
   case rel=>exact⟨_,(true),fd,H',⟨by first|exact Nat.le_refl _|(have:=HK1.out;omega)⟩,⟨by(with_reducible repeat(first|apply blk_drewN|apply blk_drew|apply blk_alloc));refine blk_far ?_ NB242_244.out _;(with_reducible repeat(first|apply blk_drewN|apply blk_drew|apply blk_alloc));refine blk_far ?_ NB242_244.out _;(with_reducible repeat(first|apply blk_drewN|apply blk_drew|apply blk_alloc));refine blk_far ?_ NB242_244.out _;exact bm BK242.out⟩,⟨by(with_reducible repeat(first|apply blk_drewN|apply blk_drew|apply blk_alloc));refine blk_put (cs:=#[.int .i64 ((rd_T70 l4 x17_1).f0),.int .i64 ((rd_T70 l4 x17_1).f1),.int .i64 0]) ?_ 2 _ rfl;(with_reducible repeat(first|apply blk_drewN|apply blk_drew|apply blk_alloc));refine blk_put (cs:=#[.int .i64 ((rd_T70 l4 x17_1).f0),.int .i64 0,.int .i64 0]) ?_ 1 _ rfl;(with_reducible repeat(first|apply blk_drewN|apply blk_drew|apply blk_alloc));refine blk_put (cs:=#[.int .i64 0,.int .i64 0,.int .i64 0]) ?_ 0 _ rfl;exact bm BK244.out⟩,⟨h2 HB.out GE242.out GE244.out⟩⟩
  rw[if_neg c18]at H
  have c18b0: ((Go.bits .and .i64 (ji17) 1)==1)=false:=beq_eq_false_iff_ne.mpr c18
  have c18b1: ((Go.bits .and .i64 (ji17) 1) !=1)=true:=bne_iff_ne.mpr c18
  (first|rw[c18b0]|(simp only[i64_w,i32_w];rw[c18b0])|skip)
  by_cases c21: ((rd_T70 l4 x17_1).f1)=x2_1
  rotate_left
  ·rw[if_neg c21]at H
   have c21b0: (((rd_T70 l4 x17_1).f1)==x2_1)=false:=beq_eq_false_iff_ne.mpr c21
   have c21b1: (((rd_T70 l4 x17_1).f1) !=x2_1)=true:=bne_iff_ne.mpr c21
   have H':=Aside0.mk H
   clear H
   have hnb33:=NB244_242.out
   have hnc33:=NB242_244.out
   have hcz34_0:=bc BK244 0 rfl
   have hcz34_1:=bc BK244 1 rfl
   have hcz34_2:=bc BK244 2 rfl
   have hfz34_0:=bf BK244 0
   have hfz34_1:=bf BK244 1
   have hfz34_2:=bf BK244 2
   go_wp2_with (first|(refine gs 26 Try.func105 #[.int .i64 ((rd_T70 l4 x17_1).f0),.int .i64 0,.int .i64 (wrap64 ((l1.length:Int)-1))] ?_;(with_reducible refine(impl_within.calls ((rd_T70 l4 x17_1).f0) 0 (wrap64 ((l1.length:Int)-1)) true _ A14.out).mono ?_);rintro e w' ⟨rfl,⟨nd,rfl⟩⟩;refine⟨_,rfl,?_⟩))
   go_meet
   case rel=>exact⟨_,(true),fd,H',⟨by first|exact Nat.le_refl _|(have:=HK1.out;omega)⟩,⟨by(with_reducible repeat(first|apply blk_drewN|apply blk_drew|apply blk_alloc));refine blk_far ?_ NB242_244.out _;(with_reducible repeat(first|apply blk_drewN|apply blk_drew|apply blk_alloc));refine blk_far ?_ NB242_244.out _;(with_reducible repeat(first|apply blk_drewN|apply blk_drew|apply blk_alloc));refine blk_far ?_ NB242_244.out _;exact bm BK242.out⟩,⟨by(with_reducible repeat(first|apply blk_drewN|apply blk_drew|apply blk_alloc));refine blk_put (cs:=#[.int .i64 ((rd_T70 l4 x17_1).f0),.int .i64 ((rd_T70 l4 x17_1).f1),.int .i64 0]) ?_ 2 _ rfl;(with_reducible repeat(first|apply blk_drewN|apply blk_drew|apply blk_alloc));refine blk_put (cs:=#[.int .i64 ((rd_T70 l4 x17_1).f0),.int .i64 0,.int .i64 0]) ?_ 1 _ rfl;(with_reducible repeat(first|apply blk_drewN|apply blk_drew|apply blk_alloc));refine blk_put (cs:=#[.int .i64 0,.int .i64 0,.int .i64 0]) ?_ 0 _ rfl;exact bm BK244.out⟩,⟨h2 HB.out GE242.out GE244.out⟩⟩
  rw[if_pos c21]at H
  have c21b0: (((rd_T70 l4 x17_1).f1)==x2_1)=true:=beq_iff_eq.mpr c21
  have c21b1: (((rd_T70 l4 x17_1).f1) !=x2_1)=false:=bne_eq_false_iff_eq.mpr c21
  clear c21
  by_cases c22: ((rd_T70 l4 x17_1).f2)≤x2_1
  ·rw[if_pos c22]at H
   have c22b0:decide (((rd_T70 l4 x17_1).f2)≤x2_1)=true:=decide_eq_true c22
   clear c22
   have H':=Aside0.mk H
   clear H
   have hnb23:=NB244_242.out
   have hnc23:=NB242_244.out
   have hcz24_0:=bc BK244 0 rfl
   have hcz24_1:=bc BK244 1 rfl
   have hcz24_2:=bc BK244 2 rfl
   have hfz24_0:=bf BK244 0
   have hfz24_1:=bf BK244 1
   have hfz24_2:=bf BK244 2
   go_wp2_with (first|(refine gs 26 Try.func105 #[.int .i64 ((rd_T70 l4 x17_1).f0),.int .i64 0,.int .i64 (wrap64 ((l1.length:Int)-1))] ?_;(with_reducible refine(impl_within.calls ((rd_T70 l4 x17_1).f0) 0 (wrap64 ((l1.length:Int)-1)) true _ A14.out).mono ?_);rintro e w' ⟨rfl,⟨nd,rfl⟩⟩;refine⟨_,rfl,?_⟩))
   go_meet
   case rel=>exact⟨_,(true),fd,H',⟨by first|exact Nat.le_refl _|(have:=HK1.out;omega)⟩,⟨by(with_reducible repeat(first|apply blk_drewN|apply blk_drew|apply blk_alloc));refine blk_far ?_ NB242_244.out _;(with_reducible repeat(first|apply blk_drewN|apply blk_drew|apply blk_alloc));refine blk_far ?_ NB242_244.out _;(with_reducible repeat(first|apply blk_drewN|apply blk_drew|apply blk_alloc));refine blk_far ?_ NB242_244.out _;exact bm BK242.out⟩,⟨by(with_reducible repeat(first|apply blk_drewN|apply blk_drew|apply blk_alloc));refine blk_put (cs:=#[.int .i64 ((rd_T70 l4 x17_1).f0),.int .i64 ((rd_T70 l4 x17_1).f1),.int .i64 0]) ?_ 2 _ rfl;(with_reducible repeat(first|apply blk_drewN|apply blk_drew|apply blk_alloc));refine blk_put (cs:=#[.int .i64 ((rd_T70 l4 x17_1).f0),.int .i64 0,.int .i64 0]) ?_ 1 _ rfl;(with_reducible repeat(first|apply blk_drewN|apply blk_drew|apply blk_alloc));refine blk_put (cs:=#[.int .i64 0,.int .i64 0,.int .i64 0]) ?_ 0 _ rfl;exact bm BK244.out⟩,⟨h2 HB.out GE242.out GE244.out⟩⟩
  rw[if_neg c22]at H
  have c22b0:decide (((rd_T70 l4 x17_1).f2)≤x2_1)=false:=decide_eq_false c22
  clear c22
  generalize hy246: ([(rd_T70 l4 x17_1).f2]:List Int)=y246 at H
  have Ny246:=ak hy246.symm
  clear hy246
  obtain⟨t249,A25,H⟩:=bd H;(try dsimp only at H)
  have H':=Aside0.mk H
  clear H
  have hnb26:=NB244_242.out
  have hnc26:=NB242_244.out
  have hcz27_0:=bc BK244 0 rfl
  have hcz27_1:=bc BK244 1 rfl
  have hcz27_2:=bc BK244 2 rfl
  have hfz27_0:=bf BK244 0
  have hfz27_1:=bf BK244 1
  have hfz27_2:=bf BK244 2
  go_wp2_with (first|(refine gs 26 Try.func105 #[.int .i64 ((rd_T70 l4 x17_1).f0),.int .i64 0,.int .i64 (wrap64 ((l1.length:Int)-1))] ?_;(with_reducible refine(impl_within.calls ((rd_T70 l4 x17_1).f0) 0 (wrap64 ((l1.length:Int)-1)) true _ A14.out).mono ?_);rintro e w' ⟨rfl,⟨nd,rfl⟩⟩;refine⟨_,rfl,?_⟩;have hcz28_0:=bc BK242 0 rfl;have hcz28_1:=bc BK242 1 rfl;have hfz28_0:=bf BK242 0;have hfz28_1:=bf BK242 1)|((with_reducible refine gate_dst (N:=52) rfl ?_);(try(refine gate_guard (by rfl) ?_;dsimp only));refine R_lit (Kd.int .i64) _ 3 ?hg (N:=52) ?hd (xs:=([(rd_T70 l4 x17_1).f2]:List Int)) (inner:=[.int .i64 ((rd_T70 l4 x17_1).f2)]) (ok:=fun _=>True) (okp:=fun _=>True) ?hr ?hp (fun _ hk=>hk) trivial (Below.refl _ _) (Nat.le_refl _) (by simp) ?_;(case hd=>rfl);(case hg=>rfl);(case hr=>first|(go_simp;done)|(go_simp;rfl));(case hp=>exact(Reps.one (show Kd.M (Kd.int .i64) _ _ _ ((rd_T70 l4 x17_1).f2) [.int .i64 ((rd_T70 l4 x17_1).f2)]from rfl) (Reps.none _ _)));intro v247 w29 ho30 hb hg_ hnew_;clear hg_ hnew_;(first|rw[←Ny246.out]at ho30|(simp only[Int.reduceToNat]at ho30;rw[←Ny246.out]at ho30));have HO248:=ak (R_lower ho30 (below_size (h2 HB.out GE242.out GE244.out)));replace BK242:=ak (blk_below (g:=gb242) (o:=.cells #[.int .i64 a0_0,.bool a0_1] 28 (0,0)) (by(with_reducible repeat(first|apply blk_drewN|apply blk_drew|apply blk_alloc));refine blk_far ?_ NB242_244.out _;(with_reducible repeat(first|apply blk_drewN|apply blk_drew|apply blk_alloc));refine blk_far ?_ NB242_244.out _;(with_reducible repeat(first|apply blk_drewN|apply blk_drew|apply blk_alloc));refine blk_far ?_ NB242_244.out _;exact bm BK242.out) hb);replace BK244:=ak (blk_below (g:=gb244) (o:=.cells #[.int .i64 ((rd_T70 l4 x17_1).f0),.int .i64 ((rd_T70 l4 x17_1).f1),.int .i64 ((rd_T70 l4 x17_1).f2)] 70 (0,0)) (by(with_reducible repeat(first|apply blk_drewN|apply blk_drew|apply blk_alloc));refine blk_put (cs:=#[.int .i64 ((rd_T70 l4 x17_1).f0),.int .i64 ((rd_T70 l4 x17_1).f1),.int .i64 0]) ?_ 2 _ rfl;(with_reducible repeat(first|apply blk_drewN|apply blk_drew|apply blk_alloc));refine blk_put (cs:=#[.int .i64 ((rd_T70 l4 x17_1).f0),.int .i64 0,.int .i64 0]) ?_ 1 _ rfl;(with_reducible repeat(first|apply blk_drewN|apply blk_drew|apply blk_alloc));refine blk_put (cs:=#[.int .i64 0,.int .i64 0,.int .i64 0]) ?_ 0 _ rfl;exact bm BK244.out) hb);replace HB:=ak (below_step (h2 HB.out GE242.out GE244.out) hb);clear hb ho30;obtain⟨Ao31,co31,eo31⟩:=R_slice HO248.out;subst eo31)|(go_at_call 88;(with_reducible refine(impl_Road_has.calls k1 a0_0 a0_1 _ _ y246 t249 _ ?side1 ?side2 A25.out).mono ?_);(case side1=>exact cm (R_reads' HO248.out).2.2);(case side2=>exact(R_reads' HO248.out).2.1);rintro e w32 ⟨rfl,hb⟩;replace HO248:=rb HO248 hb;replace BK242:=kb BK242 hb;replace BK244:=kb BK244 hb;replace HB:=ak (below_step (h2 HB.out GE242.out GE244.out) hb);(try clear hb);(try clear hk);(try clear hi)))
  go_meet
  case rel=>exact⟨_,(!t249),fd,H',⟨by first|exact Nat.le_refl _|(have:=HK1.out;omega)⟩,⟨bm BK242.out⟩,⟨bm BK244.out⟩,⟨h2 HB.out GE242.out GE244.out⟩⟩
 clear HC10
 try clear c1
 try clear c2
 try clear p2
 try clear q2
 try clear hx2
 try clear c3
 try clear c4
 try clear c6
 try clear p6
 try clear c7
 try clear c7b0
 try clear c8
 try clear c8b0
 try clear c9
 try clear c9b0
 try clear c10
 try clear c12
 try clear c15
 try clear c16
 try clear c16b0
 try clear c16b1
 try clear c18
 try clear c18b0
 try clear c18b1
 try clear c19
 try clear c21
 try clear c21b0
 try clear c21b1
 try clear c22
 try clear c22b0
 try clear c23
 try clear p24
 try clear q24
 try clear hx24
 try clear c26
 try clear c33
 try clear c35
 try clear hcz13_0
 try clear hcz13_1
 try clear hcz13_2
 try clear hcz20_0
 try clear hcz20_1
 try clear hcz20_2
 try clear hcz24_0
 try clear hcz24_1
 try clear hcz24_2
 try clear hcz27_0
 try clear hcz27_1
 try clear hcz27_2
 try clear hcz28_0
 try clear hcz28_1
 try clear hcz34_0
 try clear hcz34_1
 try clear hcz34_2
 try clear hcz36_0
 try clear hcz36_1
 try clear hcz36_2
 try clear hfz13_0
 try clear hfz13_1
 try clear hfz13_2
 try clear hfz20_0
 try clear hfz20_1
 try clear hfz20_2
 try clear hfz24_0
 try clear hfz24_1
 try clear hfz24_2
 try clear hfz27_0
 try clear hfz27_1
 try clear hfz27_2
 try clear hfz28_0
 try clear hfz28_1
 try clear hfz34_0
 try clear hfz34_1
 try clear hfz34_2
 try clear hfz36_0
 try clear hfz36_1
 try clear hfz36_2
 try clear hx243_0
 try clear hx243_1
 try clear hx243_2
 try clear p2
 try clear p243
 try clear q243
 obtain⟨kq,x55_9,rfl,HA,HJ9,BK242,BK244,HB⟩:=hcut
 obtain _|kj9:=kq;·cases HA.out
 obtain⟨H⟩:=HA
 simp only[impl_Road_isRelay.j1]at H
 by_cases c37:x55_9=true
 ·subst c37
  rw[if_pos rfl]at H
  obtain rfl:=Option.some.inj H
  go_wp2
  go_ret
  exact⟨fe,h2 HB.out GE242.out GE244.out⟩
 replace c37:=Bool.eq_false_iff.mpr c37
 subst c37
 rw[if_neg (show ¬(false=true)by decide)]at H
 obtain⟨c38,H⟩:=gi H
 have c38b0:decide (0≤((rd_T70 l4 x17_1).f0))=true:=decide_eq_true c38
 clear c38
 obtain⟨c39,H⟩:=gi H
 have c39b0:decide (((rd_T70 l4 x17_1).f0)<(l1.length:Int))=true:=decide_eq_true c39
 clear c39
 obtain⟨t252,A40,H⟩:=bd H;(try dsimp only at H)
 by_cases c41:t252>((rd_T63 l1 ((rd_T70 l4 x17_1).f0)).f1)
 ·rw[if_pos c41]at H
  have c41b0:decide (((rd_T63 l1 ((rd_T70 l4 x17_1).f0)).f1)<t252)=true:=decide_eq_true c41
  clear c41
  obtain rfl:=Option.some.inj H
  have hnb42:=NB244_242.out
  have hnc42:=NB242_244.out
  have hcz43_0:=bc BK244 0 rfl
  have hcz43_1:=bc BK244 1 rfl
  have hcz43_2:=bc BK244 2 rfl
  have hfz43_0:=bf BK244 0
  have hfz43_1:=bf BK244 1
  have hfz43_2:=bf BK244 2
  have p250:0≤(((rd_T70 l4 x17_1).f0):Int):=od
  have q250: ((rd_T70 l4 x17_1).f0)<(l1.length:Int):=od
  obtain⟨ad250,e250,hx250_0,hx250_1,hx250_2⟩:=at_T63 HR1.out ((rd_T70 l4 x17_1).f0) p250 q250
  cases e250
  replace hx250_0:=hc HB hx250_0
  replace hx250_1:=hc HB hx250_1
  replace hx250_2:=hc HB hx250_2
  replace p250:=eq_true p250
  replace q250:=eq_true q250
  try go_wp2_with (first|((with_reducible refine gate_dst (N:=14) rfl ?_);(try(refine gate_guard (by rfl) ?_;dsimp only));refine box_event ?hg (N:=14) ?hd (cs:=#[.int .i64 0,.int .i64 0,.int .i64 0]) (t:=63) ?hr ?_;(case hd=>rfl);(case hg=>rfl);(case hr=>first|(go_simp;done)|(go_simp;rfl));intro gb251 hg w44 hbox hb;have BK251:=ak hbox;have GW251:=ak ((by rw[hg];exact(below_size (h2 HB.out GE242.out GE244.out)):w.heap.size≤gb251));have GE251:=ak ((by rw[hg];exact(below_size (h2 HB.out GE242.out GE244.out)):w.heap.size≤gb251));replace HB:=ak (below_step (h2 HB.out GE242.out GE244.out) hb);have NB242_251:=nl BK242 hg;have NB251_242:=ng BK242 hg;replace BK242:=kb BK242 hb;have NB244_251:=nl BK244 hg;have NB251_244:=ng BK244 hg;replace BK244:=kb BK244 hb;clear hb hbox hg;have hnb45:=NB251_242.out;have hnc45:=NB242_251.out;have hnb46:=NB251_244.out;have hnc46:=NB244_251.out;have hcz47_0:=bc BK251 0 rfl;have hcz47_1:=bc BK251 1 rfl;have hcz47_2:=bc BK251 2 rfl;have hfz47_0:=bf BK251 0;have hfz47_1:=bf BK251 1;have hfz47_2:=bf BK251 2))
  have n0_:Aside0 ((((w44.setCell ⟨gb251,0,none⟩ (.int .i64 ((rd_T63 l1 ((rd_T70 l4 x17_1).f0)).f0))).setCell ⟨gb251,1,none⟩ (.int .i64 ((rd_T63 l1 ((rd_T70 l4 x17_1).f0)).f1))).setCell ⟨gb251,2,none⟩ (.int .i64 ((rd_T63 l1 ((rd_T70 l4 x17_1).f0)).f2))).heap[gb242]? =some (.cells #[.int .i64 a0_0,.bool a0_1] 28 (0,0))):=⟨by(with_reducible repeat(first|apply blk_drewN|apply blk_drew|apply blk_alloc));refine blk_far ?_ NB242_251.out _;(with_reducible repeat(first|apply blk_drewN|apply blk_drew|apply blk_alloc));refine blk_far ?_ NB242_251.out _;(with_reducible repeat(first|apply blk_drewN|apply blk_drew|apply blk_alloc));refine blk_far ?_ NB242_251.out _;exact bm BK242.out⟩
  have n1_:Aside0 ((((w44.setCell ⟨gb251,0,none⟩ (.int .i64 ((rd_T63 l1 ((rd_T70 l4 x17_1).f0)).f0))).setCell ⟨gb251,1,none⟩ (.int .i64 ((rd_T63 l1 ((rd_T70 l4 x17_1).f0)).f1))).setCell ⟨gb251,2,none⟩ (.int .i64 ((rd_T63 l1 ((rd_T70 l4 x17_1).f0)).f2))).heap[gb244]? =some (.cells #[.int .i64 ((rd_T70 l4 x17_1).f0),.int .i64 ((rd_T70 l4 x17_1).f1),.int .i64 ((rd_T70 l4 x17_1).f2)] 70 (0,0))):=⟨by(with_reducible repeat(first|apply blk_drewN|apply blk_drew|apply blk_alloc));refine blk_far ?_ NB244_251.out _;(with_reducible repeat(first|apply blk_drewN|apply blk_drew|apply blk_alloc));refine blk_far ?_ NB244_251.out _;(with_reducible repeat(first|apply blk_drewN|apply blk_drew|apply blk_alloc));refine blk_far ?_ NB244_251.out _;exact bm BK244.out⟩
  have n2_:Aside0 ((((w44.setCell ⟨gb251,0,none⟩ (.int .i64 ((rd_T63 l1 ((rd_T70 l4 x17_1).f0)).f0))).setCell ⟨gb251,1,none⟩ (.int .i64 ((rd_T63 l1 ((rd_T70 l4 x17_1).f0)).f1))).setCell ⟨gb251,2,none⟩ (.int .i64 ((rd_T63 l1 ((rd_T70 l4 x17_1).f0)).f2))).heap[gb251]? =some (.cells #[.int .i64 ((rd_T63 l1 ((rd_T70 l4 x17_1).f0)).f0),.int .i64 ((rd_T63 l1 ((rd_T70 l4 x17_1).f0)).f1),.int .i64 ((rd_T63 l1 ((rd_T70 l4 x17_1).f0)).f2)] 63 (0,0))):=⟨by(with_reducible repeat(first|apply blk_drewN|apply blk_drew|apply blk_alloc));refine blk_put (cs:=#[.int .i64 ((rd_T63 l1 ((rd_T70 l4 x17_1).f0)).f0),.int .i64 ((rd_T63 l1 ((rd_T70 l4 x17_1).f0)).f1),.int .i64 0]) ?_ 2 _ rfl;(with_reducible repeat(first|apply blk_drewN|apply blk_drew|apply blk_alloc));refine blk_put (cs:=#[.int .i64 ((rd_T63 l1 ((rd_T70 l4 x17_1).f0)).f0),.int .i64 0,.int .i64 0]) ?_ 1 _ rfl;(with_reducible repeat(first|apply blk_drewN|apply blk_drew|apply blk_alloc));refine blk_put (cs:=#[.int .i64 0,.int .i64 0,.int .i64 0]) ?_ 0 _ rfl;exact bm BK251.out⟩
  have n3_:Aside0 (Below w.heap.size w (((w44.setCell ⟨gb251,0,none⟩ (.int .i64 ((rd_T63 l1 ((rd_T70 l4 x17_1).f0)).f0))).setCell ⟨gb251,1,none⟩ (.int .i64 ((rd_T63 l1 ((rd_T70 l4 x17_1).f0)).f1))).setCell ⟨gb251,2,none⟩ (.int .i64 ((rd_T63 l1 ((rd_T70 l4 x17_1).f0)).f2)))):=⟨h3 HB.out GE242.out GE244.out GE251.out⟩
  (try clear BK242)
  (try clear BK244)
  (try clear BK251)
  (try clear HB)
  generalize (((w44.setCell ⟨gb251,0,none⟩ (.int .i64 ((rd_T63 l1 ((rd_T70 l4 x17_1).f0)).f0))).setCell ⟨gb251,1,none⟩ (.int .i64 ((rd_T63 l1 ((rd_T70 l4 x17_1).f0)).f1))).setCell ⟨gb251,2,none⟩ (.int .i64 ((rd_T63 l1 ((rd_T70 l4 x17_1).f0)).f2)))=w48 at n0_ n1_ n2_ n3_⊢
  have BK242:=n0_
  have BK244:=n1_
  have BK251:=n2_
  have HB:=n3_
  clear n0_ n1_ n2_ n3_
  replace BK242:=ak (blk_drew BK242.out)
  replace BK244:=ak (blk_drew BK244.out)
  replace BK251:=ak (blk_drew BK251.out)
  replace HB:=ak (below_drew1 HB.out)
  refine start_ (n:=9) (S:=fun w'=>w'.cell? ⟨gb242,0,none⟩=some (.int .i64 a0_0)∧w'.cell? ⟨gb242,1,none⟩=some (.bool a0_1)∧w'.cell? ⟨gb251,0,none⟩=some (.int .i64 ((rd_T63 l1 ((rd_T70 l4 x17_1).f0)).f0))∧w'.cell? ⟨gb251,1,none⟩=some (.int .i64 ((rd_T63 l1 ((rd_T70 l4 x17_1).f0)).f1))∧w'.cell? ⟨gb251,2,none⟩=some (.int .i64 ((rd_T63 l1 ((rd_T70 l4 x17_1).f0)).f2))∧w'.cell? ⟨gb244,0,none⟩=some (.int .i64 ((rd_T70 l4 x17_1).f0))∧w'.cell? ⟨gb244,1,none⟩=some (.int .i64 ((rd_T70 l4 x17_1).f1))∧w'.cell? ⟨gb244,2,none⟩=some (.int .i64 ((rd_T70 l4 x17_1).f2))) (ds:=[]) (lb 9 0) (by kernel_rfl) rfl rfl ⟨bc BK242 0 rfl,bc BK242 1 rfl,bc BK251 0 rfl,bc BK251 1 rfl,bc BK251 2 rfl,bc BK244 0 rfl,bc BK244 1 rfl,bc BK244 2 rfl⟩ (fun hHeld=>?_);refine with_tabW impl_Road_isRelay.tab8 impl_Road_isRelay.bits8 (fun HT_ HW_=>?_)
  generalize w48.drew=w49 at BK242 BK244 BK251 HB hHeld⊢
  refine pq 2 (N:=some 63) (lb 9 4) HT_ ?_
  refine pq 3 (N:=some 64) (lb 9 12) HT_ ?_
  refine pq 6 (N:=some 67) (lb 9 76) HT_ ?_
  refine take_ (i:=0) (N:=some 61) (v:=?_) (a':=?_) (lb 9 77) rfl rfl (take_ofW HT_.out HW_.out (by kernel_rfl)) (fun _ _ _ h=>h) (Or.inl ⟨by rfl,?_⟩) hHeld ?_ ?_
  rotate_left
  ·rintro w' ⟨s0,s1,s2,s3,s4,s5,s6,s7⟩
   go_simp
   with_reducible rfl
  rotate_left
  ·simp only[ap]
   rfl
  refine take_ (i:=1) (N:=some 62) (v:=?_) (a':=?_) (lb 9 79) rfl rfl (take_ofW HT_.out HW_.out (by kernel_rfl)) (fun _ _ _ h=>h) (Or.inl ⟨by rfl,?_⟩) hHeld ?_ ?_
  rotate_left
  ·rintro w' ⟨s0,s1,s2,s3,s4,s5,s6,s7⟩
   go_simp
   with_reducible rfl
  rotate_left
  ·simp only[ap]
   rfl
  refine take_ (i:=4) (N:=some 65) (v:=?_) (a':=?_) (lb 9 95) rfl rfl (take_ofW HT_.out HW_.out (by kernel_rfl)) (fun _ _ _ h=>h) (Or.inl ⟨by rfl,?_⟩) hHeld ?_ ?_
  rotate_left
  ·rintro w' ⟨s0,s1,s2,s3,s4,s5,s6,s7⟩
   go_simp
   with_reducible rfl
  rotate_left
  ·simp only[ap]
   rfl
  refine take_ (i:=7) (N:=some 68) (v:=?_) (a':=?_) (lb 9 223) rfl rfl (take_ofW HT_.out HW_.out (by kernel_rfl)) (fun _ _ _ h=>h) (Or.inl ⟨by rfl,?_⟩) hHeld ?_ ?_
  rotate_left
  ·rintro w' ⟨s0,s1,s2,s3,s4,s5,s6,s7⟩
   go_simp
   with_reducible rfl
  rotate_left
  ·simp only[ap]
   rfl
  refine one_ (i:=5) (N:=some 66) (lb 9 255) rfl rfl (one_of HT_.out (by kernel_rfl)) (by decide) (fun K hK=>?_)
  refine goes_ Try.func65 (by kernel_rfl) rfl #[.agg #[.int .i64 a0_0,.bool a0_1],.agg #[.int .i64 ((rd_T63 l1 ((rd_T70 l4 x17_1).f0)).f0),.int .i64 ((rd_T63 l1 ((rd_T70 l4 x17_1).f0)).f1),.int .i64 ((rd_T63 l1 ((rd_T70 l4 x17_1).f0)).f2)],.int .i64 x2_1,.int .i64 ((rd_T70 l4 x17_1).f2)] (by rfl) rfl rfl gl ?_
  with_reducible refine(impl_Road_steps.calls a0_0 a0_1 ((rd_T63 l1 ((rd_T70 l4 x17_1).f0)).f0) ((rd_T63 l1 ((rd_T70 l4 x17_1).f0)).f1) ((rd_T63 l1 ((rd_T70 l4 x17_1).f0)).f2) x2_1 ((rd_T70 l4 x17_1).f2) t252 _ A40.out).mono ?_
  rintro e w50 ⟨rfl,hb⟩
  refine⟨_,rfl,?_⟩
  replace BK242:=kb BK242 hb
  replace BK244:=kb BK244 hb
  replace BK251:=kb BK251 hb
  replace HB:=ak (below_step (h3 HB.out GE242.out GE244.out GE251.out) hb)
  (try clear hb)
  (try clear hb2)
  (try clear hk)
  (try clear hi)
  refine hK.out _ _ ⟨bc BK242 0 rfl,bc BK242 1 rfl,bc BK251 0 rfl,bc BK251 1 rfl,bc BK251 2 rfl,bc BK244 0 rfl,bc BK244 1 rfl,bc BK244 2 rfl⟩ (fun hHeld=>?_)
  clear hK K
  refine norm_ (a':=?_) ?_ ?_
  rotate_left
  ·show Act.put _ (some 66) _=_
   simp only[ap]
   rfl
  refine pq 8 (N:=some 69) (lb 9 511) HT_ ?_
  refine done_ (done_of HT_.out (by kernel_rfl)) ?_
  try go_wp2
  go_ret
  exact⟨fe,h3 HB.out GE242.out GE244.out GE251.out⟩
 rw[if_neg c41]at H
 have c41b0:decide (((rd_T63 l1 ((rd_T70 l4 x17_1).f0)).f1)<t252)=false:=decide_eq_false c41
 clear c41
 have c51b0:=eq_true (od:0≤((rd_T70 l4 x17_1).f0))
 generalize hji52: (shl .i64 1 ((rd_T70 l4 x17_1).f0))=ji52 at H
 (try rw[hji52]at A40)
 have hji52_: (IntKind.i64.wrap (1*2^min ((rd_T70 l4 x17_1).f0).toNat 64))=ji52:=hji52
 have hji52z: ((rd_T70 l4 x17_1).f0)≤64→(IntKind.i64.wrap (1*2^ ((rd_T70 l4 x17_1).f0).toNat))=ji52:=shl_small hji52
 have hji52u: (IntKind.i64.wrap (2^min ((rd_T70 l4 x17_1).f0).toNat 64))=ji52:=by have h_:=hji52_;rw[Int.one_mul]at h_;exact h_
 have hji52v: ((rd_T70 l4 x17_1).f0)≤64→(IntKind.i64.wrap (2^ ((rd_T70 l4 x17_1).f0).toNat))=ji52:=fun hle_=>by have h_:=hji52z hle_;rw[Int.one_mul]at h_;exact h_
 have hji52y: (wrap64 (1*2^min ((rd_T70 l4 x17_1).f0).toNat 64))=ji52:=(i64_w _).symm.trans hji52_
 have hji52x: ((rd_T70 l4 x17_1).f0)≤64→(wrap64 (1*2^ ((rd_T70 l4 x17_1).f0).toNat))=ji52:=fun h_=>(i64_w _).symm.trans (hji52z h_)
 have H':=Aside0.mk H
 clear H
 have hnb53:=NB244_242.out
 have hnc53:=NB242_244.out
 have hcz54_0:=bc BK244 0 rfl
 have hcz54_1:=bc BK244 1 rfl
 have hcz54_2:=bc BK244 2 rfl
 have hfz54_0:=bf BK244 0
 have hfz54_1:=bf BK244 1
 have hfz54_2:=bf BK244 2
 have p250:0≤(((rd_T70 l4 x17_1).f0):Int):=od
 have q250: ((rd_T70 l4 x17_1).f0)<(l1.length:Int):=od
 obtain⟨ad250,e250,hx250_0,hx250_1,hx250_2⟩:=at_T63 HR1.out ((rd_T70 l4 x17_1).f0) p250 q250
 cases e250
 replace hx250_0:=hc HB hx250_0
 replace hx250_1:=hc HB hx250_1
 replace hx250_2:=hc HB hx250_2
 replace p250:=eq_true p250
 replace q250:=eq_true q250
 try go_wp2_with (first|((with_reducible refine gate_dst (N:=14) rfl ?_);(try(refine gate_guard (by rfl) ?_;dsimp only));refine box_event ?hg (N:=14) ?hd (cs:=#[.int .i64 0,.int .i64 0,.int .i64 0]) (t:=63) ?hr ?_;(case hd=>rfl);(case hg=>rfl);(case hr=>first|(go_simp;done)|(go_simp;rfl));intro gb251 hg w55 hbox hb;have BK251:=ak hbox;have GW251:=ak ((by rw[hg];exact(below_size (h2 HB.out GE242.out GE244.out)):w.heap.size≤gb251));have GE251:=ak ((by rw[hg];exact(below_size (h2 HB.out GE242.out GE244.out)):w.heap.size≤gb251));replace HB:=ak (below_step (h2 HB.out GE242.out GE244.out) hb);have NB242_251:=nl BK242 hg;have NB251_242:=ng BK242 hg;replace BK242:=kb BK242 hb;have NB244_251:=nl BK244 hg;have NB251_244:=ng BK244 hg;replace BK244:=kb BK244 hb;clear hb hbox hg;have hnb56:=NB251_242.out;have hnc56:=NB242_251.out;have hnb57:=NB251_244.out;have hnc57:=NB244_251.out;have hcz58_0:=bc BK251 0 rfl;have hcz58_1:=bc BK251 1 rfl;have hcz58_2:=bc BK251 2 rfl;have hfz58_0:=bf BK251 0;have hfz58_1:=bf BK251 1;have hfz58_2:=bf BK251 2))
 have n0_:Aside0 ((((w55.setCell ⟨gb251,0,none⟩ (.int .i64 ((rd_T63 l1 ((rd_T70 l4 x17_1).f0)).f0))).setCell ⟨gb251,1,none⟩ (.int .i64 ((rd_T63 l1 ((rd_T70 l4 x17_1).f0)).f1))).setCell ⟨gb251,2,none⟩ (.int .i64 ((rd_T63 l1 ((rd_T70 l4 x17_1).f0)).f2))).heap[gb242]? =some (.cells #[.int .i64 a0_0,.bool a0_1] 28 (0,0))):=⟨by(with_reducible repeat(first|apply blk_drewN|apply blk_drew|apply blk_alloc));refine blk_far ?_ NB242_251.out _;(with_reducible repeat(first|apply blk_drewN|apply blk_drew|apply blk_alloc));refine blk_far ?_ NB242_251.out _;(with_reducible repeat(first|apply blk_drewN|apply blk_drew|apply blk_alloc));refine blk_far ?_ NB242_251.out _;exact bm BK242.out⟩
 have n1_:Aside0 ((((w55.setCell ⟨gb251,0,none⟩ (.int .i64 ((rd_T63 l1 ((rd_T70 l4 x17_1).f0)).f0))).setCell ⟨gb251,1,none⟩ (.int .i64 ((rd_T63 l1 ((rd_T70 l4 x17_1).f0)).f1))).setCell ⟨gb251,2,none⟩ (.int .i64 ((rd_T63 l1 ((rd_T70 l4 x17_1).f0)).f2))).heap[gb244]? =some (.cells #[.int .i64 ((rd_T70 l4 x17_1).f0),.int .i64 ((rd_T70 l4 x17_1).f1),.int .i64 ((rd_T70 l4 x17_1).f2)] 70 (0,0))):=⟨by(with_reducible repeat(first|apply blk_drewN|apply blk_drew|apply blk_alloc));refine blk_far ?_ NB244_251.out _;(with_reducible repeat(first|apply blk_drewN|apply blk_drew|apply blk_alloc));refine blk_far ?_ NB244_251.out _;(with_reducible repeat(first|apply blk_drewN|apply blk_drew|apply blk_alloc));refine blk_far ?_ NB244_251.out _;exact bm BK244.out⟩
 have n2_:Aside0 ((((w55.setCell ⟨gb251,0,none⟩ (.int .i64 ((rd_T63 l1 ((rd_T70 l4 x17_1).f0)).f0))).setCell ⟨gb251,1,none⟩ (.int .i64 ((rd_T63 l1 ((rd_T70 l4 x17_1).f0)).f1))).setCell ⟨gb251,2,none⟩ (.int .i64 ((rd_T63 l1 ((rd_T70 l4 x17_1).f0)).f2))).heap[gb251]? =some (.cells #[.int .i64 ((rd_T63 l1 ((rd_T70 l4 x17_1).f0)).f0),.int .i64 ((rd_T63 l1 ((rd_T70 l4 x17_1).f0)).f1),.int .i64 ((rd_T63 l1 ((rd_T70 l4 x17_1).f0)).f2)] 63 (0,0))):=⟨by(with_reducible repeat(first|apply blk_drewN|apply blk_drew|apply blk_alloc));refine blk_put (cs:=#[.int .i64 ((rd_T63 l1 ((rd_T70 l4 x17_1).f0)).f0),.int .i64 ((rd_T63 l1 ((rd_T70 l4 x17_1).f0)).f1),.int .i64 0]) ?_ 2 _ rfl;(with_reducible repeat(first|apply blk_drewN|apply blk_drew|apply blk_alloc));refine blk_put (cs:=#[.int .i64 ((rd_T63 l1 ((rd_T70 l4 x17_1).f0)).f0),.int .i64 0,.int .i64 0]) ?_ 1 _ rfl;(with_reducible repeat(first|apply blk_drewN|apply blk_drew|apply blk_alloc));refine blk_put (cs:=#[.int .i64 0,.int .i64 0,.int .i64 0]) ?_ 0 _ rfl;exact bm BK251.out⟩
 have n3_:Aside0 (Below w.heap.size w (((w55.setCell ⟨gb251,0,none⟩ (.int .i64 ((rd_T63 l1 ((rd_T70 l4 x17_1).f0)).f0))).setCell ⟨gb251,1,none⟩ (.int .i64 ((rd_T63 l1 ((rd_T70 l4 x17_1).f0)).f1))).setCell ⟨gb251,2,none⟩ (.int .i64 ((rd_T63 l1 ((rd_T70 l4 x17_1).f0)).f2)))):=⟨h3 HB.out GE242.out GE244.out GE251.out⟩
 (try clear BK242)
 (try clear BK244)
 (try clear BK251)
 (try clear HB)
 generalize (((w55.setCell ⟨gb251,0,none⟩ (.int .i64 ((rd_T63 l1 ((rd_T70 l4 x17_1).f0)).f0))).setCell ⟨gb251,1,none⟩ (.int .i64 ((rd_T63 l1 ((rd_T70 l4 x17_1).f0)).f1))).setCell ⟨gb251,2,none⟩ (.int .i64 ((rd_T63 l1 ((rd_T70 l4 x17_1).f0)).f2)))=w59 at n0_ n1_ n2_ n3_⊢
 have BK242:=n0_
 have BK244:=n1_
 have BK251:=n2_
 have HB:=n3_
 clear n0_ n1_ n2_ n3_
 replace BK242:=ak (blk_drew BK242.out)
 replace BK244:=ak (blk_drew BK244.out)
 replace BK251:=ak (blk_drew BK251.out)
 replace HB:=ak (below_drew1 HB.out)
 refine start_ (n:=9) (S:=fun w'=>w'.cell? ⟨gb242,0,none⟩=some (.int .i64 a0_0)∧w'.cell? ⟨gb242,1,none⟩=some (.bool a0_1)∧w'.cell? ⟨gb251,0,none⟩=some (.int .i64 ((rd_T63 l1 ((rd_T70 l4 x17_1).f0)).f0))∧w'.cell? ⟨gb251,1,none⟩=some (.int .i64 ((rd_T63 l1 ((rd_T70 l4 x17_1).f0)).f1))∧w'.cell? ⟨gb251,2,none⟩=some (.int .i64 ((rd_T63 l1 ((rd_T70 l4 x17_1).f0)).f2))∧w'.cell? ⟨gb244,0,none⟩=some (.int .i64 ((rd_T70 l4 x17_1).f0))∧w'.cell? ⟨gb244,1,none⟩=some (.int .i64 ((rd_T70 l4 x17_1).f1))∧w'.cell? ⟨gb244,2,none⟩=some (.int .i64 ((rd_T70 l4 x17_1).f2))) (ds:=[]) (lb 9 0) (by kernel_rfl) rfl rfl ⟨bc BK242 0 rfl,bc BK242 1 rfl,bc BK251 0 rfl,bc BK251 1 rfl,bc BK251 2 rfl,bc BK244 0 rfl,bc BK244 1 rfl,bc BK244 2 rfl⟩ (fun hHeld=>?_);refine with_tabW impl_Road_isRelay.tab8 impl_Road_isRelay.bits8 (fun HT_ HW_=>?_)
 generalize w59.drew=w60 at BK242 BK244 BK251 HB hHeld⊢
 refine pq 2 (N:=some 63) (lb 9 4) HT_ ?_
 refine pq 3 (N:=some 64) (lb 9 12) HT_ ?_
 refine pq 6 (N:=some 67) (lb 9 76) HT_ ?_
 refine take_ (i:=0) (N:=some 61) (v:=?_) (a':=?_) (lb 9 77) rfl rfl (take_ofW HT_.out HW_.out (by kernel_rfl)) (fun _ _ _ h=>h) (Or.inl ⟨by rfl,?_⟩) hHeld ?_ ?_
 rotate_left
 ·rintro w' ⟨s0,s1,s2,s3,s4,s5,s6,s7⟩
  go_simp
  with_reducible rfl
 rotate_left
 ·simp only[ap]
  rfl
 refine take_ (i:=1) (N:=some 62) (v:=?_) (a':=?_) (lb 9 79) rfl rfl (take_ofW HT_.out HW_.out (by kernel_rfl)) (fun _ _ _ h=>h) (Or.inl ⟨by rfl,?_⟩) hHeld ?_ ?_
 rotate_left
 ·rintro w' ⟨s0,s1,s2,s3,s4,s5,s6,s7⟩
  go_simp
  with_reducible rfl
 rotate_left
 ·simp only[ap]
  rfl
 refine take_ (i:=4) (N:=some 65) (v:=?_) (a':=?_) (lb 9 95) rfl rfl (take_ofW HT_.out HW_.out (by kernel_rfl)) (fun _ _ _ h=>h) (Or.inl ⟨by rfl,?_⟩) hHeld ?_ ?_
 rotate_left
 ·rintro w' ⟨s0,s1,s2,s3,s4,s5,s6,s7⟩
  go_simp
  with_reducible rfl
 rotate_left
 ·simp only[ap]
  rfl
 refine take_ (i:=7) (N:=some 68) (v:=?_) (a':=?_) (lb 9 223) rfl rfl (take_ofW HT_.out HW_.out (by kernel_rfl)) (fun _ _ _ h=>h) (Or.inl ⟨by rfl,?_⟩) hHeld ?_ ?_
 rotate_left
 ·rintro w' ⟨s0,s1,s2,s3,s4,s5,s6,s7⟩
  go_simp
  with_reducible rfl
 rotate_left
 ·simp only[ap]
  rfl
 refine one_ (i:=5) (N:=some 66) (lb 9 255) rfl rfl (one_of HT_.out (by kernel_rfl)) (by decide) (fun K hK=>?_)
 refine goes_ Try.func65 (by kernel_rfl) rfl #[.agg #[.int .i64 a0_0,.bool a0_1],.agg #[.int .i64 ((rd_T63 l1 ((rd_T70 l4 x17_1).f0)).f0),.int .i64 ((rd_T63 l1 ((rd_T70 l4 x17_1).f0)).f1),.int .i64 ((rd_T63 l1 ((rd_T70 l4 x17_1).f0)).f2)],.int .i64 x2_1,.int .i64 ((rd_T70 l4 x17_1).f2)] (by rfl) rfl rfl gl ?_
 with_reducible refine(impl_Road_steps.calls a0_0 a0_1 ((rd_T63 l1 ((rd_T70 l4 x17_1).f0)).f0) ((rd_T63 l1 ((rd_T70 l4 x17_1).f0)).f1) ((rd_T63 l1 ((rd_T70 l4 x17_1).f0)).f2) x2_1 ((rd_T70 l4 x17_1).f2) t252 _ A40.out).mono ?_
 rintro e w61 ⟨rfl,hb⟩
 refine⟨_,rfl,?_⟩
 replace BK242:=kb BK242 hb
 replace BK244:=kb BK244 hb
 replace BK251:=kb BK251 hb
 replace HB:=ak (below_step (h3 HB.out GE242.out GE244.out GE251.out) hb)
 (try clear hb)
 (try clear hb2)
 (try clear hk)
 (try clear hi)
 refine hK.out _ _ ⟨bc BK242 0 rfl,bc BK242 1 rfl,bc BK251 0 rfl,bc BK251 1 rfl,bc BK251 2 rfl,bc BK244 0 rfl,bc BK244 1 rfl,bc BK244 2 rfl⟩ (fun hHeld=>?_)
 clear hK K
 refine norm_ (a':=?_) ?_ ?_
 rotate_left
 ·show Act.put _ (some 66) _=_
  simp only[ap]
  rfl
 refine pq 8 (N:=some 69) (lb 9 511) HT_ ?_
 refine done_ (done_of HT_.out (by kernel_rfl)) ?_
 have hcz62_0:=bc BK244 0 rfl
 have hcz62_1:=bc BK244 1 rfl
 have hcz62_2:=bc BK244 2 rfl
 have hfz62_0:=bf BK244 0
 have hfz62_1:=bf BK244 1
 have hfz62_2:=bf BK244 2
 try go_wp2
 go_roundg kj9
 case measure=>have:=HK1.out;have:=HJ9.out;omega
 case rel=>exact⟨(((rd_T70 l4 x17_1).f2)),(Go.bits .or .i64 x11_1 (ji52)),(wrap64 (x17_1+1)),fd,(by first|rfl|(simp;done)|(simp only[←hji52]<;>(first|rfl|simp))|(simp[*];done)),fd,H',⟨by have:=HK1.out;have:=HJ9.out;omega⟩,⟨bm BK242.out⟩,⟨h3 HB.out GE242.out GE244.out GE251.out⟩⟩
end
end Go.Proofs.Ythagkpoinjpmfaa.QFnRelays
