/- Functions that the law FnRelays comes to, and their walks: no condition but those named. -/
import Derived.Test.YthagkpoinjpmfaaQFnRelaysx0
import Derived.Test.YthagkpoinjpmfaaQFnRelaysx1
import Derived.Test.YthagkpoinjpmfaaQFnRelaysx7
import Derived.Test.YthagkpoinjpmfaaQFnRelaysx9
namespace Go.Proofs.Ythagkpoinjpmfaa.QFnRelays
open Go.RowKit Go.Proofs.YthagkpoinjpmfaaW.PrintWords Go.Proofs.YthagkpoinjpmfaaW.PrintLast Go.Proofs.YthagkpoinjpmfaaW.PrintMore Go.Proofs.Ythagkpoinjpmfaa.Short
attribute [local go_sem] max2_int min2_int max_two min_two max_three min_three max_four min_four
set_option linter.unusedVariables false
set_option linter.unusedSimpArgs false
section
open Kd
mutual
def impl_RelayArrival.j0:Nat→List (S63)→List (S70)→Bool→Int→Bool→Option (Int × Bool)
 | 0,_,_,_,_,_=>none
 | k+1,x1,x4,x30,x281000,x281001=>if x30=true then(some (0,false))else(impl_RelayArrival.l0 k x1 0 x4 (x4.length:Int) 0 x281000 x281001)
def impl_RelayArrival.l0:Nat→List (S63)→Int→List (S70)→Int→Int→Int→Bool→Option (Int × Bool)
 | 0,_,_,_,_,_,_,_=>none
 | k+1,x1,x12,x31,x32,x33,x281000,x281001=>if x33<x32 then(if 0≤x33 then(if x33<(x31.length:Int)then(if 0≤((rd_T70 x31 x33).f0)then(if((rd_T70 x31 x33).f0)<(x1.length:Int)then((impl_Road_arrives.f x281000 x281001 ((rd_T63 x1 ((rd_T70 x31 x33).f0)).f0) ((rd_T63 x1 ((rd_T70 x31 x33).f0)).f1) ((rd_T63 x1 ((rd_T70 x31 x33).f0)).f2) x12 ((rd_T70 x31 x33).f1) ((rd_T70 x31 x33).f2)).bind fun t289=>(impl_RelayArrival.l0 k x1 t289 x31 x32 (wrap64 (x33+1)) x281000 x281001))else(none))else(none))else(none))else(none))else(some (x12,true))
end
def impl_RelayArrival.f (k:Nat) (a0_0:Int) (a0_1:Bool) (l1:List (S63)) (a2:Int) (a3:Int) (l4:List (S70)):Option (Int × Bool):=(impl_isCarried.f k a0_0 a0_1 l1 (([a2,a3]:List Int))).bind fun t284=>(if t284=true then((impl_Road_isRelay.f k a0_0 a0_1 l1 a2 a3 l4).bind fun t285=>(impl_RelayArrival.j0 k l1 l4 (!t285) a0_0 a0_1))else(impl_RelayArrival.j0 k l1 l4 true a0_0 a0_1))
theorem impl_RelayArrival.mono_l:∀ k,(∀ y0 y1 y2 y3 y4,LeO (impl_RelayArrival.j0 k y0 y1 y2 y3 y4) (impl_RelayArrival.j0 (k+1) y0 y1 y2 y3 y4))∧(∀ y0 y1 y2 y3 y4 y5 y6,LeO (impl_RelayArrival.l0 k y0 y1 y2 y3 y4 y5 y6) (impl_RelayArrival.l0 (k+1) y0 y1 y2 y3 y4 y5 y6))
 | 0=>by
  refine⟨?_,?_⟩<;>(intros;intro r h;simp[impl_RelayArrival.j0,impl_RelayArrival.l0]at h)
 | k+1=>by
  obtain⟨ih0,ih1⟩:=impl_RelayArrival.mono_l k
  refine⟨?_,?_⟩<;>intros<;>(first|unfold impl_RelayArrival.j0|unfold impl_RelayArrival.l0)<;>(repeat' (with_reducible first|exact ih0 ..|exact ih1 ..|exact impl_Road_isRelay.mono ..|exact impl_isCarried.mono ..|exact LeO.refl _|exact LeO.none _|refine LeO.ite ?_ ?_|refine LeO.bind ?_ (fun _=>?_)))
theorem impl_RelayArrival.mono:∀ a0 a1 a2 a3 a4 a5 k,LeO (impl_RelayArrival.f k a0 a1 a2 a3 a4 a5) (impl_RelayArrival.f (k+1) a0 a1 a2 a3 a4 a5):=by
 intro a0 a1 a2 a3 a4 a5 k
 obtain⟨ih0,ih1⟩:=impl_RelayArrival.mono_l k
 unfold impl_RelayArrival.f
 repeat' (with_reducible first|exact ih0 ..|exact ih1 ..|exact impl_Road_isRelay.mono ..|exact impl_isCarried.mono ..|exact LeO.refl _|exact LeO.none _|refine LeO.ite ?_ ?_|refine LeO.bind ?_ (fun _=>?_))
def impl_RelayArrival.T7:Bool × List (List Nat × List Nat):=(true,[([],[]),([],[]),([],[]),([2],[2]),([1,3],[1,3]),([4],[4]),([],[]),([],[]),([7],[7]),([],[]),([9],[9]),([0,5,6,8,10],[0,5,6,8,10]),([11,11,0,1,2,3,4,5,6,7,8,9,10,11],[6,11])])
def impl_RelayArrival.B7:List Nat:=[0,0,0,4,14,30,0,0,128,0,512,2047,4095]
theorem impl_RelayArrival.tab7:rtab .any (opsOf Try.f24 7)=impl_RelayArrival.T7:=by kernel_rfl
theorem impl_RelayArrival.bits7:waitsOk impl_RelayArrival.T7.2 impl_RelayArrival.B7=true:=by kernel_rfl
set_option maxHeartbeats 8000000 in
set_option maxRecDepth 100000 in
theorem impl_RelayArrival.calls (k:Nat) (a0_0:Int) (a0_1:Bool) (A1:Option Addr) (c1:Nat) (l1:List (S63)) (a2:Int) (a3:Int) (A4:Option Addr) (c4:Nat) (l4:List (S70)) (r1:Int) (r2:Bool) (w:World) (hr1:Kd.C k63 w A1 l1.length l1) (hc1:l1.length≤c1) (hr4:Kd.C k70 w A4 l4.length l4) (hc4:l4.length≤c4) (h:impl_RelayArrival.f k a0_0 a0_1 l1 a2 a3 l4=some (r1,r2)):
  Calls Try.prog 24 #[.agg #[.int .i64 a0_0,.bool a0_1],.slice A1 l1.length c1,.int .i64 a2,.int .i64 a3,.slice A4 l4.length c4] w fun e w'=>e= .returned (.tuple #[.int .i64 r1,.bool r2])∧Below w.heap.size w w':=by
 have hu28:=Try.underlying28
 have hu70:=Try.underlying70
 have hu63:=Try.underlying63
 have HR1:=Aside0.mk hr1
 have HC1:=Aside0.mk hc1
 clear hr1 hc1
 have HR4:=Aside0.mk hr4
 have HC4:=Aside0.mk hc4
 clear hr4 hc4
 have HB:=Aside0.mk (Below.refl w.heap.size w)
 unfold impl_RelayArrival.f at h
 have H:=h
 clear h
 have HC6:=Aside0.mk H
 clear H
 go_enter Try.func24,Try.ntmps24
 go_upto_region 1 with(first|(refine bx 5 #[.int .i64 a0_0,.bool a0_1] 28 ?_;intro gb280 hg w7 hbox hb;have BK280:=ak hbox;have GW280:=gw HB hg;have GE280:=gw HB hg;replace HB:=bs HB hb;clear hb hbox hg))
 (try simp only[ap])
 go_cut [30] (fun v30 wc=>∃ (kq:Nat) (x30_5:Bool),v30= .bool x30_5∧Aside0 (impl_RelayArrival.j0 kq l1 l4 x30_5 a0_0 a0_1=some (r1,r2))∧Aside0 (kq≤k)∧Aside0 (wc.heap[gb280]? =some (.cells #[.int .i64 a0_0,.bool a0_1] 28 (0,0)))∧Aside0 (Below w.heap.size w wc))
 case first=>
  have H:=HC6.out
  clear HC6
  generalize hy281: ([a2,a3]:List Int)=y281 at H
  have Ny281:=ak hy281.symm
  clear hy281
  obtain⟨t284,A8,H⟩:=bd H;(try dsimp only at H)
  by_cases c9:t284=true
  rotate_left
  ·replace c9:=Bool.eq_false_iff.mpr c9
   subst c9
   rw[if_neg (show ¬(false=true)by decide)]at H
   have H':=Aside0.mk H
   clear H
   have hcz18_0:=bc BK280 0 rfl
   have hcz18_1:=bc BK280 1 rfl
   have hfz18_0:=bf BK280 0
   have hfz18_1:=bf BK280 1
   go_wp2_with (first|((with_reducible refine gate_dst (N:=19) rfl ?_);refine R_lit (Kd.int .i64) _ 3 ?hg (N:=19) ?hd (xs:=([a2,a3]:List Int)) (inner:=[.int .i64 a2,.int .i64 a3]) (ok:=fun _=>True) (okp:=fun _=>True) ?hr ?hp (fun _ hk=>hk) trivial (Below.refl _ _) (Nat.le_refl _) (by simp) ?_;(case hd=>rfl);(case hg=>rfl);(case hr=>first|(go_simp;done)|(go_simp;rfl));(case hp=>exact(Reps.one (show Kd.M (Kd.int .i64) _ _ _ a2 [.int .i64 a2]from rfl) (Reps.one (show Kd.M (Kd.int .i64) _ _ _ a3 [.int .i64 a3]from rfl) (Reps.none _ _))));intro v282 w19 ho20 hb hg_ hnew_;clear hg_ hnew_;(first|rw[←Ny281.out]at ho20|(simp only[Int.reduceToNat]at ho20;rw[←Ny281.out]at ho20));have HO283:=ak (R_lower ho20 (below_size (h1 HB.out GE280.out)));replace BK280:=kb BK280 hb;replace HB:=ak (below_step (h1 HB.out GE280.out) hb);clear hb ho20;obtain⟨Ao21,co21,eo21⟩:=R_slice HO283.out;subst eo21)|(refine gs 20 Try.func63 #[.agg #[.int .i64 a0_0,.bool a0_1],.slice A1 l1.length c1,.slice Ao21 y281.length co21] ?_;(with_reducible refine(impl_isCarried.calls k a0_0 a0_1 _ _ l1 _ _ y281 false _ ?side1 ?side2 ?side3 ?side4 A8.out).mono ?_);(case side1=>exact cm (C_below HR1.out HB.out));(case side2=>exact HC1.out);(case side3=>exact cm (R_reads' HO283.out).2.2);(case side4=>exact(R_reads' HO283.out).2.1);rintro e w22 ⟨rfl,hb⟩;refine⟨_,rfl,?_⟩;replace HO283:=rb HO283 hb;replace BK280:=kb BK280 hb;replace HB:=ak (below_step (h1 HB.out GE280.out) hb);(try clear hb);(try clear hk);(try clear hi)))
   go_meet
   case rel=>exact⟨_,(true),fd,H',⟨by first|exact Nat.le_refl _|omega⟩,⟨bm BK280.out⟩,⟨h1 HB.out GE280.out⟩⟩
  subst c9
  rw[if_pos rfl]at H
  obtain⟨t285,A10,H⟩:=bd H;(try dsimp only at H)
  have H':=Aside0.mk H
  clear H
  have hcz11_0:=bc BK280 0 rfl
  have hcz11_1:=bc BK280 1 rfl
  have hfz11_0:=bf BK280 0
  have hfz11_1:=bf BK280 1
  go_wp2_with (first|((with_reducible refine gate_dst (N:=19) rfl ?_);refine R_lit (Kd.int .i64) _ 3 ?hg (N:=19) ?hd (xs:=([a2,a3]:List Int)) (inner:=[.int .i64 a2,.int .i64 a3]) (ok:=fun _=>True) (okp:=fun _=>True) ?hr ?hp (fun _ hk=>hk) trivial (Below.refl _ _) (Nat.le_refl _) (by simp) ?_;(case hd=>rfl);(case hg=>rfl);(case hr=>first|(go_simp;done)|(go_simp;rfl));(case hp=>exact(Reps.one (show Kd.M (Kd.int .i64) _ _ _ a2 [.int .i64 a2]from rfl) (Reps.one (show Kd.M (Kd.int .i64) _ _ _ a3 [.int .i64 a3]from rfl) (Reps.none _ _))));intro v282 w12 ho13 hb hg_ hnew_;clear hg_ hnew_;(first|rw[←Ny281.out]at ho13|(simp only[Int.reduceToNat]at ho13;rw[←Ny281.out]at ho13));have HO283:=ak (R_lower ho13 (below_size (h1 HB.out GE280.out)));replace BK280:=kb BK280 hb;replace HB:=ak (below_step (h1 HB.out GE280.out) hb);clear hb ho13;obtain⟨Ao14,co14,eo14⟩:=R_slice HO283.out;subst eo14)|(refine gs 20 Try.func63 #[.agg #[.int .i64 a0_0,.bool a0_1],.slice A1 l1.length c1,.slice Ao14 y281.length co14] ?_;(with_reducible refine(impl_isCarried.calls k a0_0 a0_1 _ _ l1 _ _ y281 true _ ?side1 ?side2 ?side3 ?side4 A8.out).mono ?_);(case side1=>exact cm (C_below HR1.out HB.out));(case side2=>exact HC1.out);(case side3=>exact cm (R_reads' HO283.out).2.2);(case side4=>exact(R_reads' HO283.out).2.1);rintro e w15 ⟨rfl,hb⟩;refine⟨_,rfl,?_⟩;replace HO283:=rb HO283 hb;replace BK280:=kb BK280 hb;replace HB:=ak (below_step (h1 HB.out GE280.out) hb);(try clear hb);(try clear hk);(try clear hi);have hcz16_0:=bc BK280 0 rfl;have hcz16_1:=bc BK280 1 rfl;have hfz16_0:=bf BK280 0;have hfz16_1:=bf BK280 1)|(go_at_call 64;(with_reducible refine(impl_Road_isRelay.calls k a0_0 a0_1 _ _ l1 a2 a3 _ _ l4 t285 _ ?side1 ?side2 ?side3 ?side4 A10.out).mono ?_);(case side1=>exact cm (C_below HR1.out HB.out));(case side2=>exact HC1.out);(case side3=>exact cm (C_below HR4.out HB.out));(case side4=>exact HC4.out);rintro e w17 ⟨rfl,hb⟩;replace HO283:=rb HO283 hb;replace BK280:=kb BK280 hb;replace HB:=ak (below_step (h1 HB.out GE280.out) hb);(try clear hb);(try clear hk);(try clear hi)))
  go_meet
  case rel=>exact⟨_,(!t285),fd,H',⟨by first|exact Nat.le_refl _|omega⟩,⟨bm BK280.out⟩,⟨h1 HB.out GE280.out⟩⟩
 clear HC6
 try clear c1
 try clear c2
 try clear p2
 try clear c4
 try clear c6
 try clear c9
 try clear hcz11_0
 try clear hcz11_1
 try clear hcz16_0
 try clear hcz16_1
 try clear hcz18_0
 try clear hcz18_1
 try clear hfz11_0
 try clear hfz11_1
 try clear hfz16_0
 try clear hfz16_1
 try clear hfz18_0
 try clear hfz18_1
 obtain⟨kq,x30_5,rfl,HA,HJ5,BK280,HB⟩:=hcut
 obtain _|kj5:=kq;·cases HA.out
 obtain⟨H⟩:=HA
 simp only[impl_RelayArrival.j0]at H
 by_cases c23:x30_5=true
 ·subst c23
  rw[if_pos rfl]at H
  simp only[Option.some.injEq,Prod.mk.injEq]at H
  obtain⟨rfl,rfl⟩:=H
  go_wp2
  go_ret2
  exact⟨fe,h1 HB.out GE280.out⟩
 replace c23:=Bool.eq_false_iff.mpr c23
 subst c23
 rw[if_neg (show ¬(false=true)by decide)]at H
 have H':=Aside0.mk H
 clear H
 go_wp2
 go_loopg [12,33] kj5 (fun kq v12 v33 w'=>∃ (x12_2:Int) (x33_2:Int),v12= .int .i64 x12_2∧v33= .int .i64 x33_2∧Aside0 (impl_RelayArrival.l0 kq l1 x12_2 l4 (l4.length:Int) x33_2 a0_0 a0_1=some (r1,r2))∧Aside0 (kq≤kj5)∧Aside0 (w'.heap[gb280]? =some (.cells #[.int .i64 a0_0,.bool a0_1] 28 (0,0)))∧Aside0 (Below w.heap.size w w'))
 case atStart=>exact⟨(0),(0),fd,fd,H',⟨Nat.le_refl _⟩,⟨bm BK280.out⟩,⟨h1 HB.out GE280.out⟩⟩
 clear H'
 try clear c1
 try clear c2
 try clear p2
 try clear c4
 try clear c6
 try clear c9
 try clear c23
 try clear hcz11_0
 try clear hcz11_1
 try clear hcz16_0
 try clear hcz16_1
 try clear hcz18_0
 try clear hcz18_1
 try clear hfz11_0
 try clear hfz11_1
 try clear hfz16_0
 try clear hfz16_1
 try clear hfz18_0
 try clear hfz18_1
 try clear p2
 obtain⟨x12_2,x33_2,rfl,rfl,HA,HK2,BK280,HB⟩:=hrel
 obtain _|k2:=gk;·cases HA.out
 obtain⟨H⟩:=HA
 simp only[impl_RelayArrival.l0]at H
 by_cases c24:x33_2<(l4.length:Int)
 rotate_left
 ·rw[if_neg c24]at H
  have c24b0:decide (x33_2<(l4.length:Int))=false:=decide_eq_false c24
  clear c24
  simp only[Option.some.injEq,Prod.mk.injEq]at H
  obtain⟨rfl,rfl⟩:=H
  go_wp2
  go_ret2
  exact⟨fe,h1 HB.out GE280.out⟩
 rw[if_pos c24]at H
 have c24b0:decide (x33_2<(l4.length:Int))=true:=decide_eq_true c24
 clear c24
 obtain⟨c25,H⟩:=gi H
 have c25b0:decide (0≤x33_2)=true:=decide_eq_true c25
 clear c25
 obtain⟨c26,H⟩:=gi H
 have c26b0:decide (x33_2<(l4.length:Int))=true:=decide_eq_true c26
 clear c26
 obtain⟨c27,H⟩:=gi H
 have c27b0:decide (0≤((rd_T70 l4 x33_2).f0))=true:=decide_eq_true c27
 clear c27
 obtain⟨c28,H⟩:=gi H
 have c28b0:decide (((rd_T70 l4 x33_2).f0)<(l1.length:Int))=true:=decide_eq_true c28
 clear c28
 obtain⟨t289,A29,H⟩:=bd H;(try dsimp only at H)
 have H':=Aside0.mk H
 clear H
 have p286:0≤(x33_2:Int):=od
 have q286:x33_2<(l4.length:Int):=od
 obtain⟨ad286,e286,hx286_0,hx286_1,hx286_2⟩:=at_T70 HR4.out x33_2 p286 q286
 cases e286
 replace hx286_0:=hc HB hx286_0
 replace hx286_1:=hc HB hx286_1
 replace hx286_2:=hc HB hx286_2
 replace p286:=eq_true p286
 replace q286:=eq_true q286
 try go_wp2_with (first|(refine bx 14 #[.int .i64 0,.int .i64 0,.int .i64 0] 70 ?_;intro gb287 hg w30 hbox hb;have BK287:=ak hbox;have GW287:=ak ((by rw[hg];exact(below_size (h1 HB.out GE280.out)):w.heap.size≤gb287));have GE287:=ak ((by rw[hg];exact(below_size (h1 HB.out GE280.out)):w.heap.size≤gb287));replace HB:=ak (below_step (h1 HB.out GE280.out) hb);have NB280_287:=nl BK280 hg;have NB287_280:=ng BK280 hg;replace BK280:=kb BK280 hb;clear hb hbox hg;have hnb31:=NB287_280.out;have hnc31:=NB280_287.out;have hcz32_0:=bc BK287 0 rfl;have hcz32_1:=bc BK287 1 rfl;have hcz32_2:=bc BK287 2 rfl;have hfz32_0:=bf BK287 0;have hfz32_1:=bf BK287 1;have hfz32_2:=bf BK287 2))
 have n0_:Aside0 ((((w30.setCell ⟨gb287,0,none⟩ (.int .i64 ((rd_T70 l4 x33_2).f0))).setCell ⟨gb287,1,none⟩ (.int .i64 ((rd_T70 l4 x33_2).f1))).setCell ⟨gb287,2,none⟩ (.int .i64 ((rd_T70 l4 x33_2).f2))).heap[gb280]? =some (.cells #[.int .i64 a0_0,.bool a0_1] 28 (0,0))):=⟨by(with_reducible repeat(first|apply blk_drewN|apply blk_drew|apply blk_alloc));refine blk_far ?_ NB280_287.out _;(with_reducible repeat(first|apply blk_drewN|apply blk_drew|apply blk_alloc));refine blk_far ?_ NB280_287.out _;(with_reducible repeat(first|apply blk_drewN|apply blk_drew|apply blk_alloc));refine blk_far ?_ NB280_287.out _;exact bm BK280.out⟩
 have n1_:Aside0 ((((w30.setCell ⟨gb287,0,none⟩ (.int .i64 ((rd_T70 l4 x33_2).f0))).setCell ⟨gb287,1,none⟩ (.int .i64 ((rd_T70 l4 x33_2).f1))).setCell ⟨gb287,2,none⟩ (.int .i64 ((rd_T70 l4 x33_2).f2))).heap[gb287]? =some (.cells #[.int .i64 ((rd_T70 l4 x33_2).f0),.int .i64 ((rd_T70 l4 x33_2).f1),.int .i64 ((rd_T70 l4 x33_2).f2)] 70 (0,0))):=⟨by(with_reducible repeat(first|apply blk_drewN|apply blk_drew|apply blk_alloc));refine blk_put (cs:=#[.int .i64 ((rd_T70 l4 x33_2).f0),.int .i64 ((rd_T70 l4 x33_2).f1),.int .i64 0]) ?_ 2 _ rfl;(with_reducible repeat(first|apply blk_drewN|apply blk_drew|apply blk_alloc));refine blk_put (cs:=#[.int .i64 ((rd_T70 l4 x33_2).f0),.int .i64 0,.int .i64 0]) ?_ 1 _ rfl;(with_reducible repeat(first|apply blk_drewN|apply blk_drew|apply blk_alloc));refine blk_put (cs:=#[.int .i64 0,.int .i64 0,.int .i64 0]) ?_ 0 _ rfl;exact bm BK287.out⟩
 have n2_:Aside0 (Below w.heap.size w (((w30.setCell ⟨gb287,0,none⟩ (.int .i64 ((rd_T70 l4 x33_2).f0))).setCell ⟨gb287,1,none⟩ (.int .i64 ((rd_T70 l4 x33_2).f1))).setCell ⟨gb287,2,none⟩ (.int .i64 ((rd_T70 l4 x33_2).f2)))):=⟨h2 HB.out GE280.out GE287.out⟩
 (try clear BK280)
 (try clear BK287)
 (try clear HB)
 generalize (((w30.setCell ⟨gb287,0,none⟩ (.int .i64 ((rd_T70 l4 x33_2).f0))).setCell ⟨gb287,1,none⟩ (.int .i64 ((rd_T70 l4 x33_2).f1))).setCell ⟨gb287,2,none⟩ (.int .i64 ((rd_T70 l4 x33_2).f2)))=w33 at n0_ n1_ n2_⊢
 have BK280:=n0_
 have BK287:=n1_
 have HB:=n2_
 clear n0_ n1_ n2_
 replace BK280:=ak (blk_drew BK280.out)
 replace BK287:=ak (blk_drew BK287.out)
 replace HB:=ak (below_drew1 HB.out)
 have p288:0≤(((rd_T70 l4 x33_2).f0):Int):=od
 have q288: ((rd_T70 l4 x33_2).f0)<(l1.length:Int):=od
 obtain⟨ad288,e288,hx288_0,hx288_1,hx288_2⟩:=at_T63 HR1.out ((rd_T70 l4 x33_2).f0) p288 q288
 have hw288_2:=hx288_2
 have hw288_1:=hx288_1
 have hw288_0:=hx288_0
 cases e288
 replace hx288_0:=hc HB hx288_0
 replace hx288_1:=hc HB hx288_1
 replace hx288_2:=hc HB hx288_2
 replace p288:=eq_true p288
 replace q288:=eq_true q288
 refine start_ (n:=13) (S:=fun w'=>w'.cell? ⟨gb280,0,none⟩=some (.int .i64 a0_0)∧w'.cell? ⟨gb280,1,none⟩=some (.bool a0_1)∧w'.cell? ⟨gb287,0,none⟩=some (.int .i64 ((rd_T70 l4 x33_2).f0))∧w'.cell? ⟨gb287,1,none⟩=some (.int .i64 ((rd_T70 l4 x33_2).f1))∧w'.cell? ⟨gb287,2,none⟩=some (.int .i64 ((rd_T70 l4 x33_2).f2))∧w'.cell? (ad288.add ((((rd_T70 l4 x33_2).f0)).toNat*3))=some (.int .i64 ((rd_T63 l1 ((rd_T70 l4 x33_2).f0)).f0))∧w'.cell? ⟨(ad288.add ((((rd_T70 l4 x33_2).f0)).toNat*3)).block,(ad288.add ((((rd_T70 l4 x33_2).f0)).toNat*3)).off+1,none⟩=some (.int .i64 ((rd_T63 l1 ((rd_T70 l4 x33_2).f0)).f1))∧w'.cell? ⟨(ad288.add ((((rd_T70 l4 x33_2).f0)).toNat*3)).block,(ad288.add ((((rd_T70 l4 x33_2).f0)).toNat*3)).off+2,none⟩=some (.int .i64 ((rd_T63 l1 ((rd_T70 l4 x33_2).f0)).f2))) (ds:=[]) (lb 13 0) (by kernel_rfl) rfl rfl ⟨bc BK280 0 rfl,bc BK280 1 rfl,bc BK287 0 rfl,bc BK287 1 rfl,bc BK287 2 rfl,((HB.out.cell (World.block_lt_of_cell? w _ hw288_0)).trans hw288_0),((HB.out.cell (World.block_lt_of_cell? w _ hw288_1)).trans hw288_1),((HB.out.cell (World.block_lt_of_cell? w _ hw288_2)).trans hw288_2)⟩ (fun hHeld=>?_);refine with_tabW impl_RelayArrival.tab7 impl_RelayArrival.bits7 (fun HT_ HW_=>?_)
 generalize w33.drew=w34 at BK280 BK287 HB hx288_0 hx288_1 hx288_2 hHeld⊢
 refine pq 1 (N:=some 38) (lb 13 2) HT_ ?_
 refine pq 2 (N:=some 39) (lb 13 6) HT_ ?_
 refine pq 6 (N:=some 43) (lb 13 70) HT_ ?_
 refine pq 7 (N:=some 44) (lb 13 198) HT_ ?_
 refine pq 9 (N:=some 46) (lb 13 710) HT_ ?_
 refine take_ (i:=0) (N:=some 37) (v:=?_) (a':=?_) (lb 13 711) rfl rfl (take_ofW HT_.out HW_.out (by kernel_rfl)) (fun _ _ _ h=>h) (Or.inl ⟨by rfl,?_⟩) hHeld ?_ ?_
 rotate_left
 ·rintro w' ⟨s0,s1,s2,s3,s4,s5,s6,s7⟩
  go_simp
  with_reducible rfl
 rotate_left
 ·simp only[ap]
  rfl
 refine take_ (i:=3) (N:=some 40) (v:=?_) (a':=?_) (lb 13 719) rfl rfl (take_ofW HT_.out HW_.out (by kernel_rfl)) (fun _ _ _ h=>h) (Or.inl ⟨by rfl,?_⟩) hHeld ?_ ?_
 rotate_left
 ·rintro w' ⟨s0,s1,s2,s3,s4,s5,s6,s7⟩
  go_simp
  with_reducible rfl
 rotate_left
 ·simp only[ap]
  rfl
 refine pq 4 (N:=some 41) (lb 13 735) HT_ ?_
 refine take_ (i:=5) (N:=some 42) (v:=?_) (a':=?_) (lb 13 767) rfl rfl (take_ofW HT_.out HW_.out (by kernel_rfl)) (fun _ _ _ h=>h) (Or.inl ⟨by rfl,?_⟩) hHeld ?_ ?_
 rotate_left
 ·rintro w' ⟨s0,s1,s2,s3,s4,s5,s6,s7⟩
  go_simp
  with_reducible rfl
 rotate_left
 ·simp only[ap]
  rfl
 refine take_ (i:=8) (N:=some 45) (v:=?_) (a':=?_) (lb 13 1023) rfl rfl (take_ofW HT_.out HW_.out (by kernel_rfl)) (fun _ _ _ h=>h) (Or.inl ⟨by rfl,?_⟩) hHeld ?_ ?_
 rotate_left
 ·rintro w' ⟨s0,s1,s2,s3,s4,s5,s6,s7⟩
  go_simp
  with_reducible rfl
 rotate_left
 ·simp only[ap]
  rfl
 refine take_ (i:=10) (N:=some 47) (v:=?_) (a':=?_) (lb 13 2047) rfl rfl (take_ofW HT_.out HW_.out (by kernel_rfl)) (fun _ _ _ h=>h) (Or.inl ⟨by rfl,?_⟩) hHeld ?_ ?_
 rotate_left
 ·rintro w' ⟨s0,s1,s2,s3,s4,s5,s6,s7⟩
  go_simp
  with_reducible rfl
 rotate_left
 ·simp only[ap]
  rfl
 refine one_ (i:=11) (N:=some 48) (lb 13 4095) rfl rfl (one_of HT_.out (by kernel_rfl)) (by decide) (fun K hK=>?_)
 refine goes_ Try.func70 (by kernel_rfl) rfl #[.agg #[.int .i64 a0_0,.bool a0_1],.agg #[.int .i64 ((rd_T63 l1 ((rd_T70 l4 x33_2).f0)).f0),.int .i64 ((rd_T63 l1 ((rd_T70 l4 x33_2).f0)).f1),.int .i64 ((rd_T63 l1 ((rd_T70 l4 x33_2).f0)).f2)],.int .i64 x12_2,.int .i64 ((rd_T70 l4 x33_2).f1),.int .i64 ((rd_T70 l4 x33_2).f2)] (by rfl) rfl rfl gl ?_
 with_reducible refine(impl_Road_arrives.calls a0_0 a0_1 ((rd_T63 l1 ((rd_T70 l4 x33_2).f0)).f0) ((rd_T63 l1 ((rd_T70 l4 x33_2).f0)).f1) ((rd_T63 l1 ((rd_T70 l4 x33_2).f0)).f2) x12_2 ((rd_T70 l4 x33_2).f1) ((rd_T70 l4 x33_2).f2) t289 _ A29.out).mono ?_
 rintro e w35 ⟨rfl,hb⟩
 refine⟨_,rfl,?_⟩
 replace BK280:=kb BK280 hb
 replace BK287:=kb BK287 hb
 replace HB:=ak (below_step (h2 HB.out GE280.out GE287.out) hb)
 (try clear hb)
 (try clear hb2)
 (try clear hk)
 (try clear hi)
 refine hK.out _ _ ⟨bc BK280 0 rfl,bc BK280 1 rfl,bc BK287 0 rfl,bc BK287 1 rfl,bc BK287 2 rfl,((HB.out.cell (World.block_lt_of_cell? w _ hw288_0)).trans hw288_0),((HB.out.cell (World.block_lt_of_cell? w _ hw288_1)).trans hw288_1),((HB.out.cell (World.block_lt_of_cell? w _ hw288_2)).trans hw288_2)⟩ (fun hHeld=>?_)
 clear hK K
 refine norm_ (a':=?_) ?_ ?_
 rotate_left
 ·show Act.put _ (some 48) _=_
  simp only[ap]
  rfl
 refine pq 12 (N:=some 12) (lb 13 8191) HT_ ?_
 refine done_ (done_of HT_.out (by kernel_rfl)) ?_
 try go_wp2
 go_roundg k2
 case measure=>have:=HJ5.out;have:=HK2.out;omega
 case rel=>exact⟨(t289),(wrap64 (x33_2+1)),fd,fd,H',⟨by have:=HJ5.out;have:=HK2.out;omega⟩,⟨bm BK280.out⟩,⟨h2 HB.out GE280.out GE287.out⟩⟩
def laws_vBig.f (l0:List Int):Option (Bool):=some (decide ((l0.length:Int)>65536))
set_option maxHeartbeats 8000000 in
set_option maxRecDepth 100000 in
theorem laws_vBig.calls (A0:Option Addr) (c0:Nat) (l0:List Int) (r:Bool) (w:World) (hr0:Kd.C (Kd.int .u8) w A0 l0.length l0) (hc0:l0.length≤c0) (h:laws_vBig.f l0=some r):
  Calls Try.prog 31 #[.slice A0 l0.length c0] w fun e w'=>e= .returned (.bool r)∧Drawn0 w w':=by
 have HR0:=Aside0.mk hr0
 have HC0:=Aside0.mk hc0
 clear hr0 hc0
 unfold laws_vBig.f at h
 have H:=h
 clear h
 obtain rfl:=Option.some.inj H
 go_enter Try.func31,Try.ntmps31
 go_wp2
 go_ret
 exact⟨by first|rfl|(simp;done)|(simp[*];done),by repeat(first|exact Drawn0.refl _|apply Drawn0.step)⟩
def impl_found.f (a0:Int):Option (Int × Bool):=some (mx 0 a0,decide (a0≥0))
set_option maxHeartbeats 8000000 in
set_option maxRecDepth 100000 in
theorem impl_found.calls (a0:Int) (r1:Int) (r2:Bool) (w:World) (h:impl_found.f a0=some (r1,r2)):
  Calls Try.prog 109 #[.int .i64 a0] w fun e w'=>e= .returned (.tuple #[.int .i64 r1,.bool r2])∧Below w.heap.size w w':=by
 have HB:=Aside0.mk (Below.refl w.heap.size w)
 unfold impl_found.f at h
 have H:=h
 clear h
 generalize hji2: (mx 0 a0)=ji2 at H
 (try(have hji2l:0≤ji2:=by(rw[←hji2];unfold mx;(repeat' split)<;>omega)))
 (try(have hji2m:0≤ji2:=by omega))
 have hji2_: (if 0<a0 then a0 else 0)=ji2:=hji2
 simp only[Option.some.injEq,Prod.mk.injEq]at H
 obtain⟨rfl,rfl⟩:=H
 go_enter Try.func109,Try.ntmps109
 go_wp2
 go_ret2
 exact⟨by first|rfl|(simp[errW_none,errW_some]<;>rfl)|(simp only[←hji2];first|rfl|(simp[errW_none,errW_some]<;>rfl))|(simp[*,errW_none,errW_some]<;>rfl),hm HB.out⟩
end
end Go.Proofs.Ythagkpoinjpmfaa.QFnRelays
