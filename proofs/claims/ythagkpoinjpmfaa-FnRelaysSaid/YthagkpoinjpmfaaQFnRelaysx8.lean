/- Functions that the law FnRelays comes to, and their walks: no condition but those named. -/
import Derived.Test.YthagkpoinjpmfaaQFnRelaysx0
import Derived.Test.YthagkpoinjpmfaaQFnRelaysx1
import Derived.Test.YthagkpoinjpmfaaQFnRelaysx4
import Derived.Test.YthagkpoinjpmfaaQFnRelaysx6
import Derived.Test.YthagkpoinjpmfaaQFnRelaysx7
namespace Go.Proofs.Ythagkpoinjpmfaa.QFnRelays
open Go.RowKit Go.Proofs.YthagkpoinjpmfaaW.PrintWords Go.Proofs.YthagkpoinjpmfaaW.PrintLast Go.Proofs.YthagkpoinjpmfaaW.PrintMore Go.Proofs.Ythagkpoinjpmfaa.Short
attribute [local go_sem] max2_int min2_int max_two min_two max_three min_three max_four min_four
set_option linter.unusedVariables false
set_option linter.unusedSimpArgs false
section
open Kd
mutual
def impl_RelayPrice.j0:Nat→List (S63)→List (S70)→Bool→Int→Bool→Option (Int × Bool)
 | 0,_,_,_,_,_=>none
 | k+1,x1,x4,x31,x254000,x254001=>if x31=true then(some (0,false))else(impl_RelayPrice.l0 k x1 0 x4 (x4.length:Int) 0 x254000 x254001)
def impl_RelayPrice.l0:Nat→List (S63)→Int→List (S70)→Int→Int→Int→Bool→Option (Int × Bool)
 | 0,_,_,_,_,_,_,_=>none
 | k+1,x1,x12,x32,x33,x34,x254000,x254001=>if x34<x33 then(if 0≤x34 then(if x34<(x32.length:Int)then(if 0≤((rd_T70 x32 x34).f0)then(if((rd_T70 x32 x34).f0)<(x1.length:Int)then((impl_Road_steps.f x254000 x254001 ((rd_T63 x1 ((rd_T70 x32 x34).f0)).f0) ((rd_T63 x1 ((rd_T70 x32 x34).f0)).f1) ((rd_T63 x1 ((rd_T70 x32 x34).f0)).f2) ((rd_T70 x32 x34).f1) ((rd_T70 x32 x34).f2)).bind fun t263=>(impl_RelayPrice.l0 k x1 (wrap64 (x12+(wrap64 (((rd_T63 x1 ((rd_T70 x32 x34).f0)).f2)*t263)))) x32 x33 (wrap64 (x34+1)) x254000 x254001))else(none))else(none))else(none))else(none))else(some (x12,true))
end
def impl_RelayPrice.f (k:Nat) (a0_0:Int) (a0_1:Bool) (l1:List (S63)) (a2:Int) (a3:Int) (l4:List (S70)):Option (Int × Bool):=(impl_isCarried.f k a0_0 a0_1 l1 (([a2,a3]:List Int))).bind fun t257=>(if t257=true then((impl_Road_isRelay.f k a0_0 a0_1 l1 a2 a3 l4).bind fun t258=>(impl_RelayPrice.j0 k l1 l4 (!t258) a0_0 a0_1))else(impl_RelayPrice.j0 k l1 l4 true a0_0 a0_1))
theorem impl_RelayPrice.mono_l:∀ k,(∀ y0 y1 y2 y3 y4,LeO (impl_RelayPrice.j0 k y0 y1 y2 y3 y4) (impl_RelayPrice.j0 (k+1) y0 y1 y2 y3 y4))∧(∀ y0 y1 y2 y3 y4 y5 y6,LeO (impl_RelayPrice.l0 k y0 y1 y2 y3 y4 y5 y6) (impl_RelayPrice.l0 (k+1) y0 y1 y2 y3 y4 y5 y6))
 | 0=>by
  refine⟨?_,?_⟩<;>(intros;intro r h;simp[impl_RelayPrice.j0,impl_RelayPrice.l0]at h)
 | k+1=>by
  obtain⟨ih0,ih1⟩:=impl_RelayPrice.mono_l k
  refine⟨?_,?_⟩<;>intros<;>(first|unfold impl_RelayPrice.j0|unfold impl_RelayPrice.l0)<;>(repeat' (with_reducible first|exact ih0 ..|exact ih1 ..|exact impl_Road_isRelay.mono ..|exact impl_isCarried.mono ..|exact LeO.refl _|exact LeO.none _|refine LeO.ite ?_ ?_|refine LeO.bind ?_ (fun _=>?_)))
theorem impl_RelayPrice.mono:∀ a0 a1 a2 a3 a4 a5 k,LeO (impl_RelayPrice.f k a0 a1 a2 a3 a4 a5) (impl_RelayPrice.f (k+1) a0 a1 a2 a3 a4 a5):=by
 intro a0 a1 a2 a3 a4 a5 k
 obtain⟨ih0,ih1⟩:=impl_RelayPrice.mono_l k
 unfold impl_RelayPrice.f
 repeat' (with_reducible first|exact ih0 ..|exact ih1 ..|exact impl_Road_isRelay.mono ..|exact impl_isCarried.mono ..|exact LeO.refl _|exact LeO.none _|refine LeO.ite ?_ ?_|refine LeO.bind ?_ (fun _=>?_))
def impl_RelayPrice.T8:Bool × List (List Nat × List Nat):=(true,[([],[]),([],[]),([1],[1]),([],[]),([],[]),([],[]),([5],[5]),([],[]),([7],[7]),([3,4,6,8],[3,4,6,8]),([2,9],[2,9]),([0,10],[0,10]),([11,9,0,1,2,3,4,5,6,7,8,9,10,11],[0,11])])
def impl_RelayPrice.B8:List Nat:=[0,0,2,0,0,0,32,0,128,504,1022,2047,4095]
theorem impl_RelayPrice.tab8:rtab .any (opsOf Try.f19 8)=impl_RelayPrice.T8:=by kernel_rfl
theorem impl_RelayPrice.bits8:waitsOk impl_RelayPrice.T8.2 impl_RelayPrice.B8=true:=by kernel_rfl
set_option maxHeartbeats 8000000 in
set_option maxRecDepth 100000 in
theorem impl_RelayPrice.calls (k:Nat) (a0_0:Int) (a0_1:Bool) (A1:Option Addr) (c1:Nat) (l1:List (S63)) (a2:Int) (a3:Int) (A4:Option Addr) (c4:Nat) (l4:List (S70)) (r1:Int) (r2:Bool) (w:World) (hr1:Kd.C k63 w A1 l1.length l1) (hc1:l1.length≤c1) (hr4:Kd.C k70 w A4 l4.length l4) (hc4:l4.length≤c4) (h:impl_RelayPrice.f k a0_0 a0_1 l1 a2 a3 l4=some (r1,r2)):
  Calls Try.prog 19 #[.agg #[.int .i64 a0_0,.bool a0_1],.slice A1 l1.length c1,.int .i64 a2,.int .i64 a3,.slice A4 l4.length c4] w fun e w'=>e= .returned (.tuple #[.int .i64 r1,.bool r2])∧Below w.heap.size w w':=by
 have hu28:=Try.underlying28
 have hu70:=Try.underlying70
 have hu63:=Try.underlying63
 have HR1:=Aside0.mk hr1
 have HC1:=Aside0.mk hc1
 clear hr1 hc1
 have HR4:=Aside0.mk hr4
 have HC4:=Aside0.mk hc4
 clear hr4 hc4
 have HB:=Aside0.mk (Below.refl w.heap.size w)
 unfold impl_RelayPrice.f at h
 have H:=h
 clear h
 have HC6:=Aside0.mk H
 clear H
 go_enter Try.func19,Try.ntmps19
 go_upto_region 1 with(first|(refine bx 5 #[.int .i64 a0_0,.bool a0_1] 28 ?_;intro gb253 hg w7 hbox hb;have BK253:=ak hbox;have GW253:=gw HB hg;have GE253:=gw HB hg;replace HB:=bs HB hb;clear hb hbox hg))
 (try simp only[ap])
 go_cut [31] (fun v31 wc=>∃ (kq:Nat) (x31_5:Bool),v31= .bool x31_5∧Aside0 (impl_RelayPrice.j0 kq l1 l4 x31_5 a0_0 a0_1=some (r1,r2))∧Aside0 (kq≤k)∧Aside0 (wc.heap[gb253]? =some (.cells #[.int .i64 a0_0,.bool a0_1] 28 (0,0)))∧Aside0 (Below w.heap.size w wc))
 case first=>
  have H:=HC6.out
  clear HC6
  generalize hy254: ([a2,a3]:List Int)=y254 at H
  have Ny254:=ak hy254.symm
  clear hy254
  obtain⟨t257,A8,H⟩:=bd H;(try dsimp only at H)
  by_cases c9:t257=true
  rotate_left
  ·replace c9:=Bool.eq_false_iff.mpr c9
   subst c9
   rw[if_neg (show ¬(false=true)by decide)]at H
   have H':=Aside0.mk H
   clear H
   have hcz18_0:=bc BK253 0 rfl
   have hcz18_1:=bc BK253 1 rfl
   have hfz18_0:=bf BK253 0
   have hfz18_1:=bf BK253 1
   go_wp2_with (first|((with_reducible refine gate_dst (N:=20) rfl ?_);refine R_lit (Kd.int .i64) _ 3 ?hg (N:=20) ?hd (xs:=([a2,a3]:List Int)) (inner:=[.int .i64 a2,.int .i64 a3]) (ok:=fun _=>True) (okp:=fun _=>True) ?hr ?hp (fun _ hk=>hk) trivial (Below.refl _ _) (Nat.le_refl _) (by simp) ?_;(case hd=>rfl);(case hg=>rfl);(case hr=>first|(go_simp;done)|(go_simp;rfl));(case hp=>exact(Reps.one (show Kd.M (Kd.int .i64) _ _ _ a2 [.int .i64 a2]from rfl) (Reps.one (show Kd.M (Kd.int .i64) _ _ _ a3 [.int .i64 a3]from rfl) (Reps.none _ _))));intro v255 w19 ho20 hb hg_ hnew_;clear hg_ hnew_;(first|rw[←Ny254.out]at ho20|(simp only[Int.reduceToNat]at ho20;rw[←Ny254.out]at ho20));have HO256:=ak (R_lower ho20 (below_size (h1 HB.out GE253.out)));replace BK253:=kb BK253 hb;replace HB:=ak (below_step (h1 HB.out GE253.out) hb);clear hb ho20;obtain⟨Ao21,co21,eo21⟩:=R_slice HO256.out;subst eo21)|(refine gs 21 Try.func63 #[.agg #[.int .i64 a0_0,.bool a0_1],.slice A1 l1.length c1,.slice Ao21 y254.length co21] ?_;(with_reducible refine(impl_isCarried.calls k a0_0 a0_1 _ _ l1 _ _ y254 false _ ?side1 ?side2 ?side3 ?side4 A8.out).mono ?_);(case side1=>exact cm (C_below HR1.out HB.out));(case side2=>exact HC1.out);(case side3=>exact cm (R_reads' HO256.out).2.2);(case side4=>exact(R_reads' HO256.out).2.1);rintro e w22 ⟨rfl,hb⟩;refine⟨_,rfl,?_⟩;replace HO256:=rb HO256 hb;replace BK253:=kb BK253 hb;replace HB:=ak (below_step (h1 HB.out GE253.out) hb);(try clear hb);(try clear hk);(try clear hi)))
   go_meet
   case rel=>exact⟨_,(true),fd,H',⟨by first|exact Nat.le_refl _|omega⟩,⟨bm BK253.out⟩,⟨h1 HB.out GE253.out⟩⟩
  subst c9
  rw[if_pos rfl]at H
  obtain⟨t258,A10,H⟩:=bd H;(try dsimp only at H)
  have H':=Aside0.mk H
  clear H
  have hcz11_0:=bc BK253 0 rfl
  have hcz11_1:=bc BK253 1 rfl
  have hfz11_0:=bf BK253 0
  have hfz11_1:=bf BK253 1
  go_wp2_with (first|((with_reducible refine gate_dst (N:=20) rfl ?_);refine R_lit (Kd.int .i64) _ 3 ?hg (N:=20) ?hd (xs:=([a2,a3]:List Int)) (inner:=[.int .i64 a2,.int .i64 a3]) (ok:=fun _=>True) (okp:=fun _=>True) ?hr ?hp (fun _ hk=>hk) trivial (Below.refl _ _) (Nat.le_refl _) (by simp) ?_;(case hd=>rfl);(case hg=>rfl);(case hr=>first|(go_simp;done)|(go_simp;rfl));(case hp=>exact(Reps.one (show Kd.M (Kd.int .i64) _ _ _ a2 [.int .i64 a2]from rfl) (Reps.one (show Kd.M (Kd.int .i64) _ _ _ a3 [.int .i64 a3]from rfl) (Reps.none _ _))));intro v255 w12 ho13 hb hg_ hnew_;clear hg_ hnew_;(first|rw[←Ny254.out]at ho13|(simp only[Int.reduceToNat]at ho13;rw[←Ny254.out]at ho13));have HO256:=ak (R_lower ho13 (below_size (h1 HB.out GE253.out)));replace BK253:=kb BK253 hb;replace HB:=ak (below_step (h1 HB.out GE253.out) hb);clear hb ho13;obtain⟨Ao14,co14,eo14⟩:=R_slice HO256.out;subst eo14)|(refine gs 21 Try.func63 #[.agg #[.int .i64 a0_0,.bool a0_1],.slice A1 l1.length c1,.slice Ao14 y254.length co14] ?_;(with_reducible refine(impl_isCarried.calls k a0_0 a0_1 _ _ l1 _ _ y254 true _ ?side1 ?side2 ?side3 ?side4 A8.out).mono ?_);(case side1=>exact cm (C_below HR1.out HB.out));(case side2=>exact HC1.out);(case side3=>exact cm (R_reads' HO256.out).2.2);(case side4=>exact(R_reads' HO256.out).2.1);rintro e w15 ⟨rfl,hb⟩;refine⟨_,rfl,?_⟩;replace HO256:=rb HO256 hb;replace BK253:=kb BK253 hb;replace HB:=ak (below_step (h1 HB.out GE253.out) hb);(try clear hb);(try clear hk);(try clear hi);have hcz16_0:=bc BK253 0 rfl;have hcz16_1:=bc BK253 1 rfl;have hfz16_0:=bf BK253 0;have hfz16_1:=bf BK253 1)|(go_at_call 64;(with_reducible refine(impl_Road_isRelay.calls k a0_0 a0_1 _ _ l1 a2 a3 _ _ l4 t258 _ ?side1 ?side2 ?side3 ?side4 A10.out).mono ?_);(case side1=>exact cm (C_below HR1.out HB.out));(case side2=>exact HC1.out);(case side3=>exact cm (C_below HR4.out HB.out));(case side4=>exact HC4.out);rintro e w17 ⟨rfl,hb⟩;replace HO256:=rb HO256 hb;replace BK253:=kb BK253 hb;replace HB:=ak (below_step (h1 HB.out GE253.out) hb);(try clear hb);(try clear hk);(try clear hi)))
  go_meet
  case rel=>exact⟨_,(!t258),fd,H',⟨by first|exact Nat.le_refl _|omega⟩,⟨bm BK253.out⟩,⟨h1 HB.out GE253.out⟩⟩
 clear HC6
 try clear c1
 try clear p2
 try clear c4
 try clear c6
 try clear c9
 try clear c19
 try clear hcz11_0
 try clear hcz11_1
 try clear hcz16_0
 try clear hcz16_1
 try clear hcz18_0
 try clear hcz18_1
 try clear hfz11_0
 try clear hfz11_1
 try clear hfz16_0
 try clear hfz16_1
 try clear hfz18_0
 try clear hfz18_1
 obtain⟨kq,x31_5,rfl,HA,HJ5,BK253,HB⟩:=hcut
 obtain _|kj5:=kq;·cases HA.out
 obtain⟨H⟩:=HA
 simp only[impl_RelayPrice.j0]at H
 by_cases c23:x31_5=true
 ·subst c23
  rw[if_pos rfl]at H
  simp only[Option.some.injEq,Prod.mk.injEq]at H
  obtain⟨rfl,rfl⟩:=H
  go_wp2
  go_ret2
  exact⟨fe,h1 HB.out GE253.out⟩
 replace c23:=Bool.eq_false_iff.mpr c23
 subst c23
 rw[if_neg (show ¬(false=true)by decide)]at H
 have H':=Aside0.mk H
 clear H
 go_wp2
 go_loopg [12,34] kj5 (fun kq v12 v34 w'=>∃ (x12_2:Int) (x34_2:Int),v12= .int .i64 x12_2∧v34= .int .i64 x34_2∧Aside0 (impl_RelayPrice.l0 kq l1 x12_2 l4 (l4.length:Int) x34_2 a0_0 a0_1=some (r1,r2))∧Aside0 (kq≤kj5)∧Aside0 (w'.heap[gb253]? =some (.cells #[.int .i64 a0_0,.bool a0_1] 28 (0,0)))∧Aside0 (Below w.heap.size w w'))
 case atStart=>exact⟨(0),(0),fd,fd,H',⟨Nat.le_refl _⟩,⟨bm BK253.out⟩,⟨h1 HB.out GE253.out⟩⟩
 clear H'
 try clear c1
 try clear c2
 try clear p2
 try clear c4
 try clear c6
 try clear c9
 try clear c19
 try clear c23
 try clear hcz11_0
 try clear hcz11_1
 try clear hcz16_0
 try clear hcz16_1
 try clear hcz18_0
 try clear hcz18_1
 try clear hfz11_0
 try clear hfz11_1
 try clear hfz16_0
 try clear hfz16_1
 try clear hfz18_0
 try clear hfz18_1
 try clear p2
 obtain⟨x12_2,x34_2,rfl,rfl,HA,HK2,BK253,HB⟩:=hrel
 obtain _|k2:=gk;·cases HA.out
 obtain⟨H⟩:=HA
 simp only[impl_RelayPrice.l0]at H
 by_cases c24:x34_2<(l4.length:Int)
 rotate_left
 ·rw[if_neg c24]at H
  have c24b0:decide (x34_2<(l4.length:Int))=false:=decide_eq_false c24
  clear c24
  simp only[Option.some.injEq,Prod.mk.injEq]at H
  obtain⟨rfl,rfl⟩:=H
  go_wp2
  go_ret2
  exact⟨fe,h1 HB.out GE253.out⟩
 rw[if_pos c24]at H
 have c24b0:decide (x34_2<(l4.length:Int))=true:=decide_eq_true c24
 clear c24
 obtain⟨c25,H⟩:=gi H
 have c25b0:decide (0≤x34_2)=true:=decide_eq_true c25
 clear c25
 obtain⟨c26,H⟩:=gi H
 have c26b0:decide (x34_2<(l4.length:Int))=true:=decide_eq_true c26
 clear c26
 obtain⟨c27,H⟩:=gi H
 have c27b0:decide (0≤((rd_T70 l4 x34_2).f0))=true:=decide_eq_true c27
 clear c27
 obtain⟨c28,H⟩:=gi H
 have c28b0:decide (((rd_T70 l4 x34_2).f0)<(l1.length:Int))=true:=decide_eq_true c28
 clear c28
 obtain⟨t263,A29,H⟩:=bd H;(try dsimp only at H)
 have H':=Aside0.mk H
 clear H
 have p259:0≤(x34_2:Int):=od
 have q259:x34_2<(l4.length:Int):=od
 obtain⟨ad259,e259,hx259_0,hx259_1,hx259_2⟩:=at_T70 HR4.out x34_2 p259 q259
 cases e259
 replace hx259_0:=hc HB hx259_0
 replace hx259_1:=hc HB hx259_1
 replace hx259_2:=hc HB hx259_2
 replace p259:=eq_true p259
 replace q259:=eq_true q259
 try go_wp2_with (first|(refine bx 14 #[.int .i64 0,.int .i64 0,.int .i64 0] 70 ?_;intro gb260 hg w30 hbox hb;have BK260:=ak hbox;have GW260:=ak ((by rw[hg];exact(below_size (h1 HB.out GE253.out)):w.heap.size≤gb260));have GE260:=ak ((by rw[hg];exact(below_size (h1 HB.out GE253.out)):w.heap.size≤gb260));replace HB:=ak (below_step (h1 HB.out GE253.out) hb);have NB253_260:=nl BK253 hg;have NB260_253:=ng BK253 hg;replace BK253:=kb BK253 hb;clear hb hbox hg;have hnb31:=NB260_253.out;have hnc31:=NB253_260.out;have hcz32_0:=bc BK260 0 rfl;have hcz32_1:=bc BK260 1 rfl;have hcz32_2:=bc BK260 2 rfl;have hfz32_0:=bf BK260 0;have hfz32_1:=bf BK260 1;have hfz32_2:=bf BK260 2;have p261:0≤(((rd_T70 l4 x34_2).f0):Int):=od;have q261: ((rd_T70 l4 x34_2).f0)<(l1.length:Int):=od;obtain⟨ad261,e261,hx261_0,hx261_1,hx261_2⟩:=at_T63 HR1.out ((rd_T70 l4 x34_2).f0) p261 q261;cases e261;have hn261_0:ad261.block≠gb260:=Nat.ne_of_lt (Nat.lt_of_lt_of_le (by have:=World.block_lt_of_cell? _ _ hx261_0;first|rwa [add_block]at this|exact this) GW260.out);have hn261_1:ad261.block≠gb260:=Nat.ne_of_lt (Nat.lt_of_lt_of_le (by have:=World.block_lt_of_cell? _ _ hx261_0;first|rwa [add_block]at this|exact this) GW260.out);have hn261_2:ad261.block≠gb260:=Nat.ne_of_lt (Nat.lt_of_lt_of_le (by have:=World.block_lt_of_cell? _ _ hx261_0;first|rwa [add_block]at this|exact this) GW260.out);replace hx261_0:=hc HB hx261_0;replace hx261_1:=hc HB hx261_1;replace hx261_2:=hc HB hx261_2;replace hx261_0:=(cell_far (p:=⟨gb260,0,none⟩) (by first|(rw[add_block];exact hn261_0)|(show(Addr.add _ _).block≠_;rw[add_block];exact hn261_0)|exact hn261_0) (.int .i64 ((rd_T70 l4 x34_2).f0))).trans hx261_0;replace hx261_1:=(cell_far (p:=⟨gb260,0,none⟩) (by first|(rw[add_block];exact hn261_0)|(show(Addr.add _ _).block≠_;rw[add_block];exact hn261_0)|exact hn261_0) (.int .i64 ((rd_T70 l4 x34_2).f0))).trans hx261_1;replace hx261_2:=(cell_far (p:=⟨gb260,0,none⟩) (by first|(rw[add_block];exact hn261_0)|(show(Addr.add _ _).block≠_;rw[add_block];exact hn261_0)|exact hn261_0) (.int .i64 ((rd_T70 l4 x34_2).f0))).trans hx261_2;replace hx261_0:=(cell_far (p:=⟨gb260,1,none⟩) (by first|(rw[add_block];exact hn261_1)|(show(Addr.add _ _).block≠_;rw[add_block];exact hn261_1)|exact hn261_1) (.int .i64 ((rd_T70 l4 x34_2).f1))).trans hx261_0;replace hx261_1:=(cell_far (p:=⟨gb260,1,none⟩) (by first|(rw[add_block];exact hn261_1)|(show(Addr.add _ _).block≠_;rw[add_block];exact hn261_1)|exact hn261_1) (.int .i64 ((rd_T70 l4 x34_2).f1))).trans hx261_1;replace hx261_2:=(cell_far (p:=⟨gb260,1,none⟩) (by first|(rw[add_block];exact hn261_1)|(show(Addr.add _ _).block≠_;rw[add_block];exact hn261_1)|exact hn261_1) (.int .i64 ((rd_T70 l4 x34_2).f1))).trans hx261_2;replace hx261_0:=(cell_far (p:=⟨gb260,2,none⟩) (by first|(rw[add_block];exact hn261_2)|(show(Addr.add _ _).block≠_;rw[add_block];exact hn261_2)|exact hn261_2) (.int .i64 ((rd_T70 l4 x34_2).f2))).trans hx261_0;replace hx261_1:=(cell_far (p:=⟨gb260,2,none⟩) (by first|(rw[add_block];exact hn261_2)|(show(Addr.add _ _).block≠_;rw[add_block];exact hn261_2)|exact hn261_2) (.int .i64 ((rd_T70 l4 x34_2).f2))).trans hx261_1;replace hx261_2:=(cell_far (p:=⟨gb260,2,none⟩) (by first|(rw[add_block];exact hn261_2)|(show(Addr.add _ _).block≠_;rw[add_block];exact hn261_2)|exact hn261_2) (.int .i64 ((rd_T70 l4 x34_2).f2))).trans hx261_2;clear hn261_0;clear hn261_1;clear hn261_2;replace p261:=eq_true p261;replace q261:=eq_true q261)|(refine bx 15 #[.int .i64 0,.int .i64 0,.int .i64 0] 63 ?_;intro gb262 hg w33 hbox hb;have BK262:=ak hbox;have GW262:=ak ((by rw[hg];exact(below_size (h2 HB.out GE253.out GE260.out)):w.heap.size≤gb262));have GE262:=ak ((by rw[hg];exact(below_size (h2 HB.out GE253.out GE260.out)):w.heap.size≤gb262));replace HB:=ak (below_step (h2 HB.out GE253.out GE260.out) hb);have NB253_262:=ak ((by rw[hg];exact Nat.ne_of_lt (blk_lt (g:=gb253) (o:=.cells #[.int .i64 a0_0,.bool a0_1] 28 (0,0)) (by(with_reducible repeat(first|apply blk_drewN|apply blk_drew|apply blk_alloc));refine blk_far ?_ NB253_260.out _;(with_reducible repeat(first|apply blk_drewN|apply blk_drew|apply blk_alloc));refine blk_far ?_ NB253_260.out _;(with_reducible repeat(first|apply blk_drewN|apply blk_drew|apply blk_alloc));refine blk_far ?_ NB253_260.out _;exact bm BK253.out)):gb253≠gb262));have NB262_253:=ak ((by rw[hg];exact Nat.ne_of_gt (blk_lt (g:=gb253) (o:=.cells #[.int .i64 a0_0,.bool a0_1] 28 (0,0)) (by(with_reducible repeat(first|apply blk_drewN|apply blk_drew|apply blk_alloc));refine blk_far ?_ NB253_260.out _;(with_reducible repeat(first|apply blk_drewN|apply blk_drew|apply blk_alloc));refine blk_far ?_ NB253_260.out _;(with_reducible repeat(first|apply blk_drewN|apply blk_drew|apply blk_alloc));refine blk_far ?_ NB253_260.out _;exact bm BK253.out)):gb262≠gb253));replace BK253:=ak (blk_below (g:=gb253) (o:=.cells #[.int .i64 a0_0,.bool a0_1] 28 (0,0)) (by(with_reducible repeat(first|apply blk_drewN|apply blk_drew|apply blk_alloc));refine blk_far ?_ NB253_260.out _;(with_reducible repeat(first|apply blk_drewN|apply blk_drew|apply blk_alloc));refine blk_far ?_ NB253_260.out _;(with_reducible repeat(first|apply blk_drewN|apply blk_drew|apply blk_alloc));refine blk_far ?_ NB253_260.out _;exact bm BK253.out) hb);have NB260_262:=ak ((by rw[hg];exact Nat.ne_of_lt (blk_lt (g:=gb260) (o:=.cells #[.int .i64 ((rd_T70 l4 x34_2).f0),.int .i64 ((rd_T70 l4 x34_2).f1),.int .i64 ((rd_T70 l4 x34_2).f2)] 70 (0,0)) (by(with_reducible repeat(first|apply blk_drewN|apply blk_drew|apply blk_alloc));refine blk_put (cs:=#[.int .i64 ((rd_T70 l4 x34_2).f0),.int .i64 ((rd_T70 l4 x34_2).f1),.int .i64 0]) ?_ 2 _ rfl;(with_reducible repeat(first|apply blk_drewN|apply blk_drew|apply blk_alloc));refine blk_put (cs:=#[.int .i64 ((rd_T70 l4 x34_2).f0),.int .i64 0,.int .i64 0]) ?_ 1 _ rfl;(with_reducible repeat(first|apply blk_drewN|apply blk_drew|apply blk_alloc));refine blk_put (cs:=#[.int .i64 0,.int .i64 0,.int .i64 0]) ?_ 0 _ rfl;exact bm BK260.out)):gb260≠gb262));have NB262_260:=ak ((by rw[hg];exact Nat.ne_of_gt (blk_lt (g:=gb260) (o:=.cells #[.int .i64 ((rd_T70 l4 x34_2).f0),.int .i64 ((rd_T70 l4 x34_2).f1),.int .i64 ((rd_T70 l4 x34_2).f2)] 70 (0,0)) (by(with_reducible repeat(first|apply blk_drewN|apply blk_drew|apply blk_alloc));refine blk_put (cs:=#[.int .i64 ((rd_T70 l4 x34_2).f0),.int .i64 ((rd_T70 l4 x34_2).f1),.int .i64 0]) ?_ 2 _ rfl;(with_reducible repeat(first|apply blk_drewN|apply blk_drew|apply blk_alloc));refine blk_put (cs:=#[.int .i64 ((rd_T70 l4 x34_2).f0),.int .i64 0,.int .i64 0]) ?_ 1 _ rfl;(with_reducible repeat(first|apply blk_drewN|apply blk_drew|apply blk_alloc));refine blk_put (cs:=#[.int .i64 0,.int .i64 0,.int .i64 0]) ?_ 0 _ rfl;exact bm BK260.out)):gb262≠gb260));replace BK260:=ak (blk_below (g:=gb260) (o:=.cells #[.int .i64 ((rd_T70 l4 x34_2).f0),.int .i64 ((rd_T70 l4 x34_2).f1),.int .i64 ((rd_T70 l4 x34_2).f2)] 70 (0,0)) (by(with_reducible repeat(first|apply blk_drewN|apply blk_drew|apply blk_alloc));refine blk_put (cs:=#[.int .i64 ((rd_T70 l4 x34_2).f0),.int .i64 ((rd_T70 l4 x34_2).f1),.int .i64 0]) ?_ 2 _ rfl;(with_reducible repeat(first|apply blk_drewN|apply blk_drew|apply blk_alloc));refine blk_put (cs:=#[.int .i64 ((rd_T70 l4 x34_2).f0),.int .i64 0,.int .i64 0]) ?_ 1 _ rfl;(with_reducible repeat(first|apply blk_drewN|apply blk_drew|apply blk_alloc));refine blk_put (cs:=#[.int .i64 0,.int .i64 0,.int .i64 0]) ?_ 0 _ rfl;exact bm BK260.out) hb);clear hb hbox hg;have hnb34:=NB262_253.out;have hnc34:=NB253_262.out;have hnb35:=NB262_260.out;have hnc35:=NB260_262.out;have hcz36_0:=bc BK262 0 rfl;have hcz36_1:=bc BK262 1 rfl;have hcz36_2:=bc BK262 2 rfl;have hfz36_0:=bf BK262 0;have hfz36_1:=bf BK262 1;have hfz36_2:=bf BK262 2))
 have n0_:Aside0 ((((w33.setCell ⟨gb262,0,none⟩ (.int .i64 ((rd_T63 l1 ((rd_T70 l4 x34_2).f0)).f0))).setCell ⟨gb262,1,none⟩ (.int .i64 ((rd_T63 l1 ((rd_T70 l4 x34_2).f0)).f1))).setCell ⟨gb262,2,none⟩ (.int .i64 ((rd_T63 l1 ((rd_T70 l4 x34_2).f0)).f2))).heap[gb253]? =some (.cells #[.int .i64 a0_0,.bool a0_1] 28 (0,0))):=⟨by(with_reducible repeat(first|apply blk_drewN|apply blk_drew|apply blk_alloc));refine blk_far ?_ NB253_262.out _;(with_reducible repeat(first|apply blk_drewN|apply blk_drew|apply blk_alloc));refine blk_far ?_ NB253_262.out _;(with_reducible repeat(first|apply blk_drewN|apply blk_drew|apply blk_alloc));refine blk_far ?_ NB253_262.out _;exact bm BK253.out⟩
 have n1_:Aside0 ((((w33.setCell ⟨gb262,0,none⟩ (.int .i64 ((rd_T63 l1 ((rd_T70 l4 x34_2).f0)).f0))).setCell ⟨gb262,1,none⟩ (.int .i64 ((rd_T63 l1 ((rd_T70 l4 x34_2).f0)).f1))).setCell ⟨gb262,2,none⟩ (.int .i64 ((rd_T63 l1 ((rd_T70 l4 x34_2).f0)).f2))).heap[gb260]? =some (.cells #[.int .i64 ((rd_T70 l4 x34_2).f0),.int .i64 ((rd_T70 l4 x34_2).f1),.int .i64 ((rd_T70 l4 x34_2).f2)] 70 (0,0))):=⟨by(with_reducible repeat(first|apply blk_drewN|apply blk_drew|apply blk_alloc));refine blk_far ?_ NB260_262.out _;(with_reducible repeat(first|apply blk_drewN|apply blk_drew|apply blk_alloc));refine blk_far ?_ NB260_262.out _;(with_reducible repeat(first|apply blk_drewN|apply blk_drew|apply blk_alloc));refine blk_far ?_ NB260_262.out _;exact bm BK260.out⟩
 have n2_:Aside0 ((((w33.setCell ⟨gb262,0,none⟩ (.int .i64 ((rd_T63 l1 ((rd_T70 l4 x34_2).f0)).f0))).setCell ⟨gb262,1,none⟩ (.int .i64 ((rd_T63 l1 ((rd_T70 l4 x34_2).f0)).f1))).setCell ⟨gb262,2,none⟩ (.int .i64 ((rd_T63 l1 ((rd_T70 l4 x34_2).f0)).f2))).heap[gb262]? =some (.cells #[.int .i64 ((rd_T63 l1 ((rd_T70 l4 x34_2).f0)).f0),.int .i64 ((rd_T63 l1 ((rd_T70 l4 x34_2).f0)).f1),.int .i64 ((rd_T63 l1 ((rd_T70 l4 x34_2).f0)).f2)] 63 (0,0))):=⟨by(with_reducible repeat(first|apply blk_drewN|apply blk_drew|apply blk_alloc));refine blk_put (cs:=#[.int .i64 ((rd_T63 l1 ((rd_T70 l4 x34_2).f0)).f0),.int .i64 ((rd_T63 l1 ((rd_T70 l4 x34_2).f0)).f1),.int .i64 0]) ?_ 2 _ rfl;(with_reducible repeat(first|apply blk_drewN|apply blk_drew|apply blk_alloc));refine blk_put (cs:=#[.int .i64 ((rd_T63 l1 ((rd_T70 l4 x34_2).f0)).f0),.int .i64 0,.int .i64 0]) ?_ 1 _ rfl;(with_reducible repeat(first|apply blk_drewN|apply blk_drew|apply blk_alloc));refine blk_put (cs:=#[.int .i64 0,.int .i64 0,.int .i64 0]) ?_ 0 _ rfl;exact bm BK262.out⟩
 have n3_:Aside0 (Below w.heap.size w (((w33.setCell ⟨gb262,0,none⟩ (.int .i64 ((rd_T63 l1 ((rd_T70 l4 x34_2).f0)).f0))).setCell ⟨gb262,1,none⟩ (.int .i64 ((rd_T63 l1 ((rd_T70 l4 x34_2).f0)).f1))).setCell ⟨gb262,2,none⟩ (.int .i64 ((rd_T63 l1 ((rd_T70 l4 x34_2).f0)).f2)))):=⟨h3 HB.out GE253.out GE260.out GE262.out⟩
 (try clear BK253)
 (try clear BK260)
 (try clear BK262)
 (try clear HB)
 generalize (((w33.setCell ⟨gb262,0,none⟩ (.int .i64 ((rd_T63 l1 ((rd_T70 l4 x34_2).f0)).f0))).setCell ⟨gb262,1,none⟩ (.int .i64 ((rd_T63 l1 ((rd_T70 l4 x34_2).f0)).f1))).setCell ⟨gb262,2,none⟩ (.int .i64 ((rd_T63 l1 ((rd_T70 l4 x34_2).f0)).f2)))=w37 at n0_ n1_ n2_ n3_⊢
 have BK253:=n0_
 have BK260:=n1_
 have BK262:=n2_
 have HB:=n3_
 clear n0_ n1_ n2_ n3_
 replace BK253:=ak (blk_drew BK253.out)
 replace BK260:=ak (blk_drew BK260.out)
 replace BK262:=ak (blk_drew BK262.out)
 replace HB:=ak (below_drew1 HB.out)
 refine start_ (n:=13) (S:=fun w'=>w'.cell? ⟨gb262,0,none⟩=some (.int .i64 ((rd_T63 l1 ((rd_T70 l4 x34_2).f0)).f0))∧w'.cell? ⟨gb262,1,none⟩=some (.int .i64 ((rd_T63 l1 ((rd_T70 l4 x34_2).f0)).f1))∧w'.cell? ⟨gb262,2,none⟩=some (.int .i64 ((rd_T63 l1 ((rd_T70 l4 x34_2).f0)).f2))∧w'.cell? ⟨gb253,0,none⟩=some (.int .i64 a0_0)∧w'.cell? ⟨gb253,1,none⟩=some (.bool a0_1)∧w'.cell? ⟨gb260,0,none⟩=some (.int .i64 ((rd_T70 l4 x34_2).f0))∧w'.cell? ⟨gb260,1,none⟩=some (.int .i64 ((rd_T70 l4 x34_2).f1))∧w'.cell? ⟨gb260,2,none⟩=some (.int .i64 ((rd_T70 l4 x34_2).f2))) (ds:=[]) (lb 13 0) (by kernel_rfl) rfl rfl ⟨bc BK262 0 rfl,bc BK262 1 rfl,bc BK262 2 rfl,bc BK253 0 rfl,bc BK253 1 rfl,bc BK260 0 rfl,bc BK260 1 rfl,bc BK260 2 rfl⟩ (fun hHeld=>?_);refine with_tabW impl_RelayPrice.tab8 impl_RelayPrice.bits8 (fun HT_ HW_=>?_)
 generalize w37.drew=w38 at BK253 BK260 BK262 HB hHeld⊢
 refine pq 0 (N:=some 43) (lb 13 1) HT_ ?_
 refine pq 1 (N:=some 44) (lb 13 3) HT_ ?_
 refine pq 5 (N:=some 48) (lb 13 35) HT_ ?_
 refine pq 7 (N:=some 50) (lb 13 163) HT_ ?_
 refine take_ (i:=2) (N:=some 45) (v:=?_) (a':=?_) (lb 13 167) rfl rfl (take_ofW HT_.out HW_.out (by kernel_rfl)) (fun _ _ _ h=>h) (Or.inl ⟨by rfl,?_⟩) hHeld ?_ ?_
 rotate_left
 ·rintro w' ⟨s0,s1,s2,s3,s4,s5,s6,s7⟩
  go_simp
  with_reducible rfl
 rotate_left
 ·simp only[ap]
  rfl
 refine take_ (i:=3) (N:=some 46) (v:=?_) (a':=?_) (lb 13 175) rfl rfl (take_ofW HT_.out HW_.out (by kernel_rfl)) (fun _ _ _ h=>h) (Or.inl ⟨by rfl,?_⟩) hHeld ?_ ?_
 rotate_left
 ·rintro w' ⟨s0,s1,s2,s3,s4,s5,s6,s7⟩
  go_simp
  with_reducible rfl
 rotate_left
 ·simp only[ap]
  rfl
 refine take_ (i:=4) (N:=some 47) (v:=?_) (a':=?_) (lb 13 191) rfl rfl (take_ofW HT_.out HW_.out (by kernel_rfl)) (fun _ _ _ h=>h) (Or.inl ⟨by rfl,?_⟩) hHeld ?_ ?_
 rotate_left
 ·rintro w' ⟨s0,s1,s2,s3,s4,s5,s6,s7⟩
  go_simp
  with_reducible rfl
 rotate_left
 ·simp only[ap]
  rfl
 refine take_ (i:=6) (N:=some 49) (v:=?_) (a':=?_) (lb 13 255) rfl rfl (take_ofW HT_.out HW_.out (by kernel_rfl)) (fun _ _ _ h=>h) (Or.inl ⟨by rfl,?_⟩) hHeld ?_ ?_
 rotate_left
 ·rintro w' ⟨s0,s1,s2,s3,s4,s5,s6,s7⟩
  go_simp
  with_reducible rfl
 rotate_left
 ·simp only[ap]
  rfl
 refine take_ (i:=8) (N:=some 51) (v:=?_) (a':=?_) (lb 13 511) rfl rfl (take_ofW HT_.out HW_.out (by kernel_rfl)) (fun _ _ _ h=>h) (Or.inl ⟨by rfl,?_⟩) hHeld ?_ ?_
 rotate_left
 ·rintro w' ⟨s0,s1,s2,s3,s4,s5,s6,s7⟩
  go_simp
  with_reducible rfl
 rotate_left
 ·simp only[ap]
  rfl
 refine one_ (i:=9) (N:=some 52) (lb 13 1023) rfl rfl (one_of HT_.out (by kernel_rfl)) (by decide) (fun K hK=>?_)
 refine goes_ Try.func65 (by kernel_rfl) rfl #[.agg #[.int .i64 a0_0,.bool a0_1],.agg #[.int .i64 ((rd_T63 l1 ((rd_T70 l4 x34_2).f0)).f0),.int .i64 ((rd_T63 l1 ((rd_T70 l4 x34_2).f0)).f1),.int .i64 ((rd_T63 l1 ((rd_T70 l4 x34_2).f0)).f2)],.int .i64 ((rd_T70 l4 x34_2).f1),.int .i64 ((rd_T70 l4 x34_2).f2)] (by rfl) rfl rfl gl ?_
 with_reducible refine(impl_Road_steps.calls a0_0 a0_1 ((rd_T63 l1 ((rd_T70 l4 x34_2).f0)).f0) ((rd_T63 l1 ((rd_T70 l4 x34_2).f0)).f1) ((rd_T63 l1 ((rd_T70 l4 x34_2).f0)).f2) ((rd_T70 l4 x34_2).f1) ((rd_T70 l4 x34_2).f2) t263 _ A29.out).mono ?_
 rintro e w39 ⟨rfl,hb⟩
 refine⟨_,rfl,?_⟩
 replace BK253:=kb BK253 hb
 replace BK260:=kb BK260 hb
 replace BK262:=kb BK262 hb
 replace HB:=ak (below_step (h3 HB.out GE253.out GE260.out GE262.out) hb)
 (try clear hb)
 (try clear hb2)
 (try clear hk)
 (try clear hi)
 refine hK.out _ _ ⟨bc BK262 0 rfl,bc BK262 1 rfl,bc BK262 2 rfl,bc BK253 0 rfl,bc BK253 1 rfl,bc BK260 0 rfl,bc BK260 1 rfl,bc BK260 2 rfl⟩ (fun hHeld=>?_)
 clear hK K
 refine norm_ (a':=?_) ?_ ?_
 rotate_left
 ·show Act.put _ (some 52) _=_
  simp only[ap]
  rfl
 refine pq 10 (N:=some 53) (lb 13 2047) HT_ ?_
 refine pq 11 (N:=some 54) (lb 13 4095) HT_ ?_
 refine pq 12 (N:=some 12) (lb 13 8191) HT_ ?_
 refine done_ (done_of HT_.out (by kernel_rfl)) ?_
 try go_wp2
 go_roundg k2
 case measure=>have:=HJ5.out;have:=HK2.out;omega
 case rel=>exact⟨(wrap64 (x12_2+(wrap64 (((rd_T63 l1 ((rd_T70 l4 x34_2).f0)).f2)*t263)))),(wrap64 (x34_2+1)),fd,fd,H',⟨by have:=HJ5.out;have:=HK2.out;omega⟩,⟨bm BK253.out⟩,⟨h3 HB.out GE253.out GE260.out GE262.out⟩⟩
def spec_l7Arrive.f (a0_0:Int) (a0_1:Bool) (a1_0:Int) (a1_1:Int) (a1_2:Int) (a2:Int) (a3:Int) (a4:Int):Option (Int):=(spec_l2Gap.f a0_0 a0_1 a1_0 a3).bind fun t266=>((spec_l1Most.f a2 t266).bind fun t267=>(some (wrap64 ((wrap64 (t267+a4))-a3))))
set_option maxHeartbeats 8000000 in
set_option maxRecDepth 100000 in
theorem spec_l7Arrive.calls (a0_0:Int) (a0_1:Bool) (a1_0:Int) (a1_1:Int) (a1_2:Int) (a2:Int) (a3:Int) (a4:Int) (r:Int) (w:World) (h:spec_l7Arrive.f a0_0 a0_1 a1_0 a1_1 a1_2 a2 a3 a4=some r):
  Calls Try.prog 69 #[.agg #[.int .i64 a0_0,.bool a0_1],.agg #[.int .i64 a1_0,.int .i64 a1_1,.int .i64 a1_2],.int .i64 a2,.int .i64 a3,.int .i64 a4] w fun e w'=>e= .returned (.int .i64 r)∧Below w.heap.size w w':=by
 have hu28:=Try.underlying28
 have hu63:=Try.underlying63
 have HB:=Aside0.mk (Below.refl w.heap.size w)
 unfold spec_l7Arrive.f at h
 have H:=h
 clear h
 obtain⟨t266,A6,H⟩:=bd H;(try dsimp only at H)
 obtain⟨t267,A7,H⟩:=bd H;(try dsimp only at H)
 obtain rfl:=Option.some.inj H
 go_enter Try.func69,Try.ntmps69
 go_wp2_with (first|(refine bx 5 #[.int .i64 a0_0,.bool a0_1] 28 ?_;intro gb264 hg w8 hbox hb;have BK264:=ak hbox;have GW264:=gw HB hg;have GE264:=gw HB hg;replace HB:=bs HB hb;clear hb hbox hg)|(refine bx 6 #[.int .i64 a1_0,.int .i64 a1_1,.int .i64 a1_2] 63 ?_;intro gb265 hg w9 hbox hb;have BK265:=ak hbox;have GW265:=ak ((by rw[hg];exact(below_size (h1 HB.out GE264.out)):w.heap.size≤gb265));have GE265:=ak ((by rw[hg];exact(below_size (h1 HB.out GE264.out)):w.heap.size≤gb265));replace HB:=ak (below_step (h1 HB.out GE264.out) hb);have NB264_265:=nl BK264 hg;have NB265_264:=ng BK264 hg;replace BK264:=kb BK264 hb;clear hb hbox hg;have hnb10:=NB264_265.out;have hnc10:=NB265_264.out;have hcz11_0:=bc BK264 0 rfl;have hcz11_1:=bc BK264 1 rfl;have hfz11_0:=bf BK264 0;have hfz11_1:=bf BK264 1;have hcz12_0:=bc BK265 0 rfl;have hcz12_1:=bc BK265 1 rfl;have hcz12_2:=bc BK265 2 rfl;have hfz12_0:=bf BK265 0;have hfz12_1:=bf BK265 1;have hfz12_2:=bf BK265 2)|(refine gs 16 Try.func103 #[.agg #[.int .i64 a0_0,.bool a0_1],.int .i64 a1_0,.int .i64 a3] ?_;(with_reducible refine(spec_l2Gap.calls a0_0 a0_1 a1_0 a3 t266 _ A6.out).mono ?_);rintro e w13 ⟨rfl,hb⟩;refine⟨_,rfl,?_⟩;replace BK264:=kb BK264 hb;replace BK265:=kb BK265 hb;replace HB:=ak (below_step (h2 HB.out GE264.out GE265.out) hb);(try clear hb);(try clear hk);(try clear hi))|(refine gs 17 Try.func101 #[.int .i64 a2,.int .i64 t266] ?_;(with_reducible refine(spec_l1Most.calls a2 t266 t267 _ A7.out).mono ?_);rintro e w' ⟨rfl,⟨nd,rfl⟩⟩;refine⟨_,rfl,?_⟩))
 go_ret
 exact⟨fe,h2 HB.out GE264.out GE265.out⟩
end
end Go.Proofs.Ythagkpoinjpmfaa.QFnRelays
