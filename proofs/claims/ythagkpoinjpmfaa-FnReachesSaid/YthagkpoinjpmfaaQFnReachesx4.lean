/- Functions that the law FnReaches comes to, and their walks: no condition but those named. -/
import Derived.Test.YthagkpoinjpmfaaQFnReachesx0
import Derived.Test.YthagkpoinjpmfaaQFnReachesx3
namespace Go.Proofs.Ythagkpoinjpmfaa.QFnReaches
open Go.RowKit Go.Proofs.YthagkpoinjpmfaaW.PrintWords Go.Proofs.YthagkpoinjpmfaaW.PrintLast Go.Proofs.YthagkpoinjpmfaaW.PrintMore Go.Proofs.Ythagkpoinjpmfaa.Short
attribute [local go_sem] max2_int min2_int max_two min_two max_three min_three max_four min_four
set_option linter.unusedVariables false
set_option linter.unusedSimpArgs false
section
open Kd
def impl_Road_has.f (k:Nat) (a0_0:Int) (a0_1:Bool) (l1:List Int):Option (Bool):=(impl_allWithin.f k l1 0 (wrap64 (a0_0-1))).bind fun t159=>(some t159)
theorem impl_Road_has.mono:∀ a0 a1 a2 k,LeO (impl_Road_has.f k a0 a1 a2) (impl_Road_has.f (k+1) a0 a1 a2):=by
 intro a0 a1 a2 k
 unfold impl_Road_has.f
 repeat' (with_reducible first|exact impl_allWithin.mono ..|exact LeO.refl _|exact LeO.none _|refine LeO.ite ?_ ?_|refine LeO.bind ?_ (fun _=>?_))
set_option maxHeartbeats 8000000 in
set_option maxRecDepth 100000 in
theorem impl_Road_has.calls (k:Nat) (a0_0:Int) (a0_1:Bool) (A1:Option Addr) (c1:Nat) (l1:List Int) (r:Bool) (w:World) (hr1:Kd.C (Kd.int .i64) w A1 l1.length l1) (hc1:l1.length≤c1) (h:impl_Road_has.f k a0_0 a0_1 l1=some r):
  Calls Try.prog 88 #[.agg #[.int .i64 a0_0,.bool a0_1],.slice A1 l1.length c1] w fun e w'=>e= .returned (.bool r)∧Below w.heap.size w w':=by
 have hu28:=Try.underlying28
 have HR1:=Aside0.mk hr1
 have HC1:=Aside0.mk hc1
 clear hr1 hc1
 have HB:=Aside0.mk (Below.refl w.heap.size w)
 unfold impl_Road_has.f at h
 have H:=h
 clear h
 obtain⟨t159,A3,H⟩:=bd H;(try dsimp only at H)
 obtain rfl:=Option.some.inj H
 go_enter Try.func88,Try.ntmps88
 go_wp2_with (first|(refine bx 2 #[.int .i64 a0_0,.bool a0_1] 28 ?_;intro gb158 hg w4 hbox hb;have BK158:=ak hbox;have GW158:=gw HB hg;have GE158:=gw HB hg;replace HB:=bs HB hb;clear hb hbox hg;have hcz5_0:=bc BK158 0 rfl;have hcz5_1:=bc BK158 1 rfl;have hfz5_0:=bf BK158 0;have hfz5_1:=bf BK158 1)|(refine gs 9 Try.func83 #[.slice A1 l1.length c1,.int .i64 0,.int .i64 (wrap64 (a0_0-1))] ?_;(with_reducible refine(impl_allWithin.calls k _ _ l1 0 (wrap64 (a0_0-1)) t159 _ ?side1 ?side2 A3.out).mono ?_);(case side1=>exact cm (C_below HR1.out HB.out));(case side2=>exact HC1.out);rintro e w' ⟨rfl,⟨nd,rfl⟩⟩;refine⟨_,rfl,?_⟩))
 go_ret
 exact⟨fe,h1 HB.out GE158.out⟩
def impl_IsRoad.f (a0_0:Int) (a0_1:Bool):Option (Bool):=(impl_within.f a0_0 2 24).bind fun t161=>(if t161=true then(if a0_1=true then(some (decide (a0_0≥3)))else(some true))else(some false))
set_option maxHeartbeats 8000000 in
set_option maxRecDepth 100000 in
theorem impl_IsRoad.calls (a0_0:Int) (a0_1:Bool) (r:Bool) (w:World) (h:impl_IsRoad.f a0_0 a0_1=some r):
  Calls Try.prog 87 #[.agg #[.int .i64 a0_0,.bool a0_1]] w fun e w'=>e= .returned (.bool r)∧Below w.heap.size w w':=by
 have hu28:=Try.underlying28
 have HB:=Aside0.mk (Below.refl w.heap.size w)
 unfold impl_IsRoad.f at h
 have H:=h
 clear h
 obtain⟨t161,A2,H⟩:=bd H;(try dsimp only at H)
 by_cases c3:t161=true
 rotate_left
 ·replace c3:=Bool.eq_false_iff.mpr c3
  subst c3
  rw[if_neg (show ¬(false=true)by decide)]at H
  obtain rfl:=Option.some.inj H
  go_enter Try.func87,Try.ntmps87
  go_wp2_with (first|(refine bx 1 #[.int .i64 a0_0,.bool a0_1] 28 ?_;intro gb160 hg w9 hbox hb;have BK160:=ak hbox;have GW160:=gw HB hg;have GE160:=gw HB hg;replace HB:=bs HB hb;clear hb hbox hg;have hcz10_0:=bc BK160 0 rfl;have hcz10_1:=bc BK160 1 rfl;have hfz10_0:=bf BK160 0;have hfz10_1:=bf BK160 1)|(refine gs 5 Try.func105 #[.int .i64 a0_0,.int .i64 2,.int .i64 24] ?_;(with_reducible refine(impl_within.calls a0_0 2 24 false _ A2.out).mono ?_);rintro e w' ⟨rfl,⟨nd,rfl⟩⟩;refine⟨_,rfl,?_⟩))
  go_ret
  exact⟨fe,h1 HB.out GE160.out⟩
 subst c3
 rw[if_pos rfl]at H
 by_cases c4:a0_1=true
 ·subst c4
  rw[if_pos rfl]at H
  obtain rfl:=Option.some.inj H
  go_enter Try.func87,Try.ntmps87
  go_wp2_with (first|(refine bx 1 #[.int .i64 a0_0,.bool true] 28 ?_;intro gb160 hg w5 hbox hb;have BK160:=ak hbox;have GW160:=gw HB hg;have GE160:=gw HB hg;replace HB:=bs HB hb;clear hb hbox hg;have hcz6_0:=bc BK160 0 rfl;have hcz6_1:=bc BK160 1 rfl;have hfz6_0:=bf BK160 0;have hfz6_1:=bf BK160 1)|(refine gs 5 Try.func105 #[.int .i64 a0_0,.int .i64 2,.int .i64 24] ?_;(with_reducible refine(impl_within.calls a0_0 2 24 true _ A2.out).mono ?_);rintro e w' ⟨rfl,⟨nd,rfl⟩⟩;refine⟨_,rfl,?_⟩))
  go_ret
  exact⟨fe,h1 HB.out GE160.out⟩
 replace c4:=Bool.eq_false_iff.mpr c4
 subst c4
 rw[if_neg (show ¬(false=true)by decide)]at H
 obtain rfl:=Option.some.inj H
 go_enter Try.func87,Try.ntmps87
 go_wp2_with (first|(refine bx 1 #[.int .i64 a0_0,.bool false] 28 ?_;intro gb160 hg w7 hbox hb;have BK160:=ak hbox;have GW160:=gw HB hg;have GE160:=gw HB hg;replace HB:=bs HB hb;clear hb hbox hg;have hcz8_0:=bc BK160 0 rfl;have hcz8_1:=bc BK160 1 rfl;have hfz8_0:=bf BK160 0;have hfz8_1:=bf BK160 1)|(refine gs 5 Try.func105 #[.int .i64 a0_0,.int .i64 2,.int .i64 24] ?_;(with_reducible refine(impl_within.calls a0_0 2 24 true _ A2.out).mono ?_);rintro e w' ⟨rfl,⟨nd,rfl⟩⟩;refine⟨_,rfl,?_⟩))
 go_ret
 exact⟨fe,h1 HB.out GE160.out⟩
def impl_isLine.f (a0_0:Int) (a0_1:Bool):Option (Bool):=(impl_IsRoad.f a0_0 a0_1).bind fun t163=>(if t163=true then(some (!a0_1))else(some false))
set_option maxHeartbeats 8000000 in
set_option maxRecDepth 100000 in
theorem impl_isLine.calls (a0_0:Int) (a0_1:Bool) (r:Bool) (w:World) (h:impl_isLine.f a0_0 a0_1=some r):
  Calls Try.prog 94 #[.agg #[.int .i64 a0_0,.bool a0_1]] w fun e w'=>e= .returned (.bool r)∧Below w.heap.size w w':=by
 have hu28:=Try.underlying28
 have HB:=Aside0.mk (Below.refl w.heap.size w)
 unfold impl_isLine.f at h
 have H:=h
 clear h
 obtain⟨t163,A2,H⟩:=bd H;(try dsimp only at H)
 by_cases c3:t163=true
 rotate_left
 ·replace c3:=Bool.eq_false_iff.mpr c3
  subst c3
  rw[if_neg (show ¬(false=true)by decide)]at H
  obtain rfl:=Option.some.inj H
  go_enter Try.func94,Try.ntmps94
  go_wp2_with (first|(refine bx 1 #[.int .i64 a0_0,.bool a0_1] 28 ?_;intro gb162 hg w8 hbox hb;have BK162:=ak hbox;have GW162:=gw HB hg;have GE162:=gw HB hg;replace HB:=bs HB hb;clear hb hbox hg;have hcz9_0:=bc BK162 0 rfl;have hcz9_1:=bc BK162 1 rfl;have hfz9_0:=bf BK162 0;have hfz9_1:=bf BK162 1)|(refine gs 4 Try.func87 #[.agg #[.int .i64 a0_0,.bool a0_1]] ?_;(with_reducible refine(impl_IsRoad.calls a0_0 a0_1 false _ A2.out).mono ?_);rintro e w10 ⟨rfl,hb⟩;refine⟨_,rfl,?_⟩;replace BK162:=kb BK162 hb;replace HB:=ak (below_step (h1 HB.out GE162.out) hb);(try clear hb);(try clear hk);(try clear hi)))
  go_ret
  exact⟨fe,h1 HB.out GE162.out⟩
 subst c3
 rw[if_pos rfl]at H
 obtain rfl:=Option.some.inj H
 go_enter Try.func94,Try.ntmps94
 go_wp2_with (first|(refine bx 1 #[.int .i64 a0_0,.bool a0_1] 28 ?_;intro gb162 hg w4 hbox hb;have BK162:=ak hbox;have GW162:=gw HB hg;have GE162:=gw HB hg;replace HB:=bs HB hb;clear hb hbox hg;have hcz5_0:=bc BK162 0 rfl;have hcz5_1:=bc BK162 1 rfl;have hfz5_0:=bf BK162 0;have hfz5_1:=bf BK162 1)|(refine gs 4 Try.func87 #[.agg #[.int .i64 a0_0,.bool a0_1]] ?_;(with_reducible refine(impl_IsRoad.calls a0_0 a0_1 true _ A2.out).mono ?_);rintro e w6 ⟨rfl,hb⟩;refine⟨_,rfl,?_⟩;replace BK162:=kb BK162 hb;replace HB:=ak (below_step (h1 HB.out GE162.out) hb);(try clear hb);(try clear hk);(try clear hi);have hcz7_0:=bc BK162 0 rfl;have hcz7_1:=bc BK162 1 rfl;have hfz7_0:=bf BK162 0;have hfz7_1:=bf BK162 1))
 go_ret
 exact⟨fe,h1 HB.out GE162.out⟩
def impl_Road_areCarriers.l0:Nat→List (S63)→List (S63)→Int→Int→Int→Bool→Option (Bool)
 | 0,_,_,_,_,_,_=>none
 | k+1,x1,x7,x8,x9,x165000,x165001=>if x9<x8 then(if 0≤x9 then(if x9<(x7.length:Int)then((impl_Road_has.f k x165000 x165001 (([(rd_T63 x7 x9).f0]:List Int))).bind fun t170=>(if t170=true then((impl_within.f ((rd_T63 x7 x9).f1) 0 48).bind fun t171=>(if t171=true then((impl_within.f ((rd_T63 x7 x9).f2) 0 20).bind fun t172=>(if t172=true then(impl_Road_areCarriers.l0 k x1 x7 x8 (wrap64 (x9+1)) x165000 x165001)else(some false)))else(some false)))else(some false)))else(none))else(none))else(some (decide ((x1.length:Int)≤6)))
def impl_Road_areCarriers.f (k:Nat) (a0_0:Int) (a0_1:Bool) (l1:List (S63)):Option (Bool):=impl_Road_areCarriers.l0 k l1 l1 (l1.length:Int) 0 a0_0 a0_1
theorem impl_Road_areCarriers.mono_l:∀ k,(∀ y0 y1 y2 y3 y4 y5,LeO (impl_Road_areCarriers.l0 k y0 y1 y2 y3 y4 y5) (impl_Road_areCarriers.l0 (k+1) y0 y1 y2 y3 y4 y5))
 | 0=>by
  refine ?_<;>(intros;intro r h;simp[impl_Road_areCarriers.l0]at h)
 | k+1=>by
  have ih0:=impl_Road_areCarriers.mono_l k
  refine ?_<;>intros<;>unfold impl_Road_areCarriers.l0<;>(repeat' (with_reducible first|exact ih0 ..|exact impl_Road_has.mono ..|exact LeO.refl _|exact LeO.none _|refine LeO.ite ?_ ?_|refine LeO.bind ?_ (fun _=>?_)))
theorem impl_Road_areCarriers.mono:∀ a0 a1 a2 k,LeO (impl_Road_areCarriers.f k a0 a1 a2) (impl_Road_areCarriers.f (k+1) a0 a1 a2):=by
 intro a0 a1 a2 k
 have ih0:=impl_Road_areCarriers.mono_l k
 unfold impl_Road_areCarriers.f
 repeat' (with_reducible first|exact ih0 ..|exact impl_Road_has.mono ..|exact LeO.refl _|exact LeO.none _|refine LeO.ite ?_ ?_|refine LeO.bind ?_ (fun _=>?_))
set_option maxHeartbeats 8000000 in
set_option maxRecDepth 100000 in
theorem impl_Road_areCarriers.calls (k:Nat) (a0_0:Int) (a0_1:Bool) (A1:Option Addr) (c1:Nat) (l1:List (S63)) (r:Bool) (w:World) (hr1:Kd.C k63 w A1 l1.length l1) (hc1:l1.length≤c1) (h:impl_Road_areCarriers.f k a0_0 a0_1 l1=some r):
  Calls Try.prog 95 #[.agg #[.int .i64 a0_0,.bool a0_1],.slice A1 l1.length c1] w fun e w'=>e= .returned (.bool r)∧Below w.heap.size w w':=by
 have hu28:=Try.underlying28
 have hu63:=Try.underlying63
 have HR1:=Aside0.mk hr1
 have HC1:=Aside0.mk hc1
 clear hr1 hc1
 have HB:=Aside0.mk (Below.refl w.heap.size w)
 unfold impl_Road_areCarriers.f at h
 have H:=h
 clear h
 have H':=Aside0.mk H
 clear H
 go_enter Try.func95,Try.ntmps95
 go_wp2_with (first|(refine bx 2 #[.int .i64 a0_0,.bool a0_1] 28 ?_;intro gb164 hg w3 hbox hb;have BK164:=ak hbox;have GW164:=gw HB hg;have GE164:=gw HB hg;replace HB:=bs HB hb;clear hb hbox hg))
 go_loopg [9] k (fun kq v9 w'=>∃ (x9_1:Int),v9= .int .i64 x9_1∧Aside0 (impl_Road_areCarriers.l0 kq l1 l1 (l1.length:Int) x9_1 a0_0 a0_1=some r)∧Aside0 (kq≤k)∧Aside0 (w'.heap[gb164]? =some (.cells #[.int .i64 a0_0,.bool a0_1] 28 (0,0)))∧Aside0 (Below w.heap.size w w'))
 case atStart=>exact⟨(0),fd,H',⟨Nat.le_refl _⟩,⟨bm BK164.out⟩,⟨h1 HB.out GE164.out⟩⟩
 clear H'
 try clear c1
 try clear p2
 obtain⟨x9_1,rfl,HA,HK1,BK164,HB⟩:=hrel
 obtain _|k1:=gk;·cases HA.out
 obtain⟨H⟩:=HA
 simp only[impl_Road_areCarriers.l0]at H
 by_cases c4:x9_1<(l1.length:Int)
 rotate_left
 ·rw[if_neg c4]at H
  have c4b0:decide (x9_1<(l1.length:Int))=false:=decide_eq_false c4
  clear c4
  obtain rfl:=Option.some.inj H
  go_wp2
  go_ret
  exact⟨fe,h1 HB.out GE164.out⟩
 rw[if_pos c4]at H
 have c4b0:decide (x9_1<(l1.length:Int))=true:=decide_eq_true c4
 clear c4
 obtain⟨c5,H⟩:=gi H
 have c5b0:decide (0≤x9_1)=true:=decide_eq_true c5
 clear c5
 obtain⟨c6,H⟩:=gi H
 have c6b0:decide (x9_1<(l1.length:Int))=true:=decide_eq_true c6
 clear c6
 generalize hy167: ([(rd_T63 l1 x9_1).f0]:List Int)=y167 at H
 have Ny167:=ak hy167.symm
 clear hy167
 obtain⟨t170,A7,H⟩:=bd H;(try dsimp only at H)
 by_cases c8:t170=true
 rotate_left
 ·replace c8:=Bool.eq_false_iff.mpr c8
  subst c8
  rw[if_neg (show ¬(false=true)by decide)]at H
  obtain rfl:=Option.some.inj H
  have p165:0≤(x9_1:Int):=od
  have q165:x9_1<(l1.length:Int):=od
  obtain⟨ad165,e165,hx165_0,hx165_1,hx165_2⟩:=at_T63 HR1.out x9_1 p165 q165
  cases e165
  replace hx165_0:=hc HB hx165_0
  replace hx165_1:=hc HB hx165_1
  replace hx165_2:=hc HB hx165_2
  replace p165:=eq_true p165
  replace q165:=eq_true q165
  go_wp2_with (first|(refine bx 6 #[.int .i64 0,.int .i64 0,.int .i64 0] 63 ?_;intro gb166 hg w40 hbox hb;have BK166:=ak hbox;have GW166:=ak ((by rw[hg];exact(below_size (h1 HB.out GE164.out)):w.heap.size≤gb166));have GE166:=ak ((by rw[hg];exact(below_size (h1 HB.out GE164.out)):w.heap.size≤gb166));replace HB:=ak (below_step (h1 HB.out GE164.out) hb);have NB164_166:=nl BK164 hg;have NB166_164:=ng BK164 hg;replace BK164:=kb BK164 hb;clear hb hbox hg;have hnb41:=NB166_164.out;have hnc41:=NB164_166.out;have hcz42_0:=bc BK166 0 rfl;have hcz42_1:=bc BK166 1 rfl;have hcz42_2:=bc BK166 2 rfl;have hfz42_0:=bf BK166 0;have hfz42_1:=bf BK166 1;have hfz42_2:=bf BK166 2;have hcz43_0:=bc BK164 0 rfl;have hcz43_1:=bc BK164 1 rfl;have hfz43_0:=bf BK164 0;have hfz43_1:=bf BK164 1)|((with_reducible refine gate_dst (N:=16) rfl ?_);refine R_lit (Kd.int .i64) _ 3 ?hg (N:=16) ?hd (xs:=([(rd_T63 l1 x9_1).f0]:List Int)) (inner:=[.int .i64 ((rd_T63 l1 x9_1).f0)]) (ok:=fun _=>True) (okp:=fun _=>True) ?hr ?hp (fun _ hk=>hk) trivial (Below.refl _ _) (Nat.le_refl _) (by simp) ?_;(case hd=>rfl);(case hg=>rfl);(case hr=>first|(go_simp;done)|(go_simp;rfl));(case hp=>exact(Reps.one (show Kd.M (Kd.int .i64) _ _ _ ((rd_T63 l1 x9_1).f0) [.int .i64 ((rd_T63 l1 x9_1).f0)]from rfl) (Reps.none _ _)));intro v168 w44 ho45 hb hg_ hnew_;clear hg_ hnew_;(first|rw[←Ny167.out]at ho45|(simp only[Int.reduceToNat]at ho45;rw[←Ny167.out]at ho45));have HO169:=ak (R_lower ho45 (below_size (h2 HB.out GE164.out GE166.out)));replace BK164:=ak (blk_below (g:=gb164) (o:=.cells #[.int .i64 a0_0,.bool a0_1] 28 (0,0)) (by(with_reducible repeat(first|apply blk_drewN|apply blk_drew|apply blk_alloc));refine blk_far ?_ NB164_166.out _;(with_reducible repeat(first|apply blk_drewN|apply blk_drew|apply blk_alloc));refine blk_far ?_ NB164_166.out _;(with_reducible repeat(first|apply blk_drewN|apply blk_drew|apply blk_alloc));refine blk_far ?_ NB164_166.out _;exact bm BK164.out) hb);replace BK166:=ak (blk_below (g:=gb166) (o:=.cells #[.int .i64 ((rd_T63 l1 x9_1).f0),.int .i64 ((rd_T63 l1 x9_1).f1),.int .i64 ((rd_T63 l1 x9_1).f2)] 63 (0,0)) (by(with_reducible repeat(first|apply blk_drewN|apply blk_drew|apply blk_alloc));refine blk_put (cs:=#[.int .i64 ((rd_T63 l1 x9_1).f0),.int .i64 ((rd_T63 l1 x9_1).f1),.int .i64 0]) ?_ 2 _ rfl;(with_reducible repeat(first|apply blk_drewN|apply blk_drew|apply blk_alloc));refine blk_put (cs:=#[.int .i64 ((rd_T63 l1 x9_1).f0),.int .i64 0,.int .i64 0]) ?_ 1 _ rfl;(with_reducible repeat(first|apply blk_drewN|apply blk_drew|apply blk_alloc));refine blk_put (cs:=#[.int .i64 0,.int .i64 0,.int .i64 0]) ?_ 0 _ rfl;exact bm BK166.out) hb);replace HB:=ak (below_step (h2 HB.out GE164.out GE166.out) hb);clear hb ho45;obtain⟨Ao46,co46,eo46⟩:=R_slice HO169.out;subst eo46)|(refine gs 17 Try.func88 #[.agg #[.int .i64 a0_0,.bool a0_1],.slice Ao46 y167.length co46] ?_;(with_reducible refine(impl_Road_has.calls k1 a0_0 a0_1 _ _ y167 false _ ?side1 ?side2 A7.out).mono ?_);(case side1=>exact cm (R_reads' HO169.out).2.2);(case side2=>exact(R_reads' HO169.out).2.1);rintro e w47 ⟨rfl,hb⟩;refine⟨_,rfl,?_⟩;replace HO169:=rb HO169 hb;replace BK164:=kb BK164 hb;replace BK166:=kb BK166 hb;replace HB:=ak (below_step (h2 HB.out GE164.out GE166.out) hb);(try clear hb);(try clear hk);(try clear hi)))
  go_ret
  exact⟨fe,h2 HB.out GE164.out GE166.out⟩
 subst c8
 rw[if_pos rfl]at H
 obtain⟨t171,A9,H⟩:=bd H;(try dsimp only at H)
 by_cases c10:t171=true
 rotate_left
 ·replace c10:=Bool.eq_false_iff.mpr c10
  subst c10
  rw[if_neg (show ¬(false=true)by decide)]at H
  obtain rfl:=Option.some.inj H
  have p165:0≤(x9_1:Int):=od
  have q165:x9_1<(l1.length:Int):=od
  obtain⟨ad165,e165,hx165_0,hx165_1,hx165_2⟩:=at_T63 HR1.out x9_1 p165 q165
  cases e165
  replace hx165_0:=hc HB hx165_0
  replace hx165_1:=hc HB hx165_1
  replace hx165_2:=hc HB hx165_2
  replace p165:=eq_true p165
  replace q165:=eq_true q165
  go_wp2_with (first|(refine bx 6 #[.int .i64 0,.int .i64 0,.int .i64 0] 63 ?_;intro gb166 hg w31 hbox hb;have BK166:=ak hbox;have GW166:=ak ((by rw[hg];exact(below_size (h1 HB.out GE164.out)):w.heap.size≤gb166));have GE166:=ak ((by rw[hg];exact(below_size (h1 HB.out GE164.out)):w.heap.size≤gb166));replace HB:=ak (below_step (h1 HB.out GE164.out) hb);have NB164_166:=nl BK164 hg;have NB166_164:=ng BK164 hg;replace BK164:=kb BK164 hb;clear hb hbox hg;have hnb32:=NB166_164.out;have hnc32:=NB164_166.out;have hcz33_0:=bc BK166 0 rfl;have hcz33_1:=bc BK166 1 rfl;have hcz33_2:=bc BK166 2 rfl;have hfz33_0:=bf BK166 0;have hfz33_1:=bf BK166 1;have hfz33_2:=bf BK166 2;have hcz34_0:=bc BK164 0 rfl;have hcz34_1:=bc BK164 1 rfl;have hfz34_0:=bf BK164 0;have hfz34_1:=bf BK164 1)|((with_reducible refine gate_dst (N:=16) rfl ?_);refine R_lit (Kd.int .i64) _ 3 ?hg (N:=16) ?hd (xs:=([(rd_T63 l1 x9_1).f0]:List Int)) (inner:=[.int .i64 ((rd_T63 l1 x9_1).f0)]) (ok:=fun _=>True) (okp:=fun _=>True) ?hr ?hp (fun _ hk=>hk) trivial (Below.refl _ _) (Nat.le_refl _) (by simp) ?_;(case hd=>rfl);(case hg=>rfl);(case hr=>first|(go_simp;done)|(go_simp;rfl));(case hp=>exact(Reps.one (show Kd.M (Kd.int .i64) _ _ _ ((rd_T63 l1 x9_1).f0) [.int .i64 ((rd_T63 l1 x9_1).f0)]from rfl) (Reps.none _ _)));intro v168 w35 ho36 hb hg_ hnew_;clear hg_ hnew_;(first|rw[←Ny167.out]at ho36|(simp only[Int.reduceToNat]at ho36;rw[←Ny167.out]at ho36));have HO169:=ak (R_lower ho36 (below_size (h2 HB.out GE164.out GE166.out)));replace BK164:=ak (blk_below (g:=gb164) (o:=.cells #[.int .i64 a0_0,.bool a0_1] 28 (0,0)) (by(with_reducible repeat(first|apply blk_drewN|apply blk_drew|apply blk_alloc));refine blk_far ?_ NB164_166.out _;(with_reducible repeat(first|apply blk_drewN|apply blk_drew|apply blk_alloc));refine blk_far ?_ NB164_166.out _;(with_reducible repeat(first|apply blk_drewN|apply blk_drew|apply blk_alloc));refine blk_far ?_ NB164_166.out _;exact bm BK164.out) hb);replace BK166:=ak (blk_below (g:=gb166) (o:=.cells #[.int .i64 ((rd_T63 l1 x9_1).f0),.int .i64 ((rd_T63 l1 x9_1).f1),.int .i64 ((rd_T63 l1 x9_1).f2)] 63 (0,0)) (by(with_reducible repeat(first|apply blk_drewN|apply blk_drew|apply blk_alloc));refine blk_put (cs:=#[.int .i64 ((rd_T63 l1 x9_1).f0),.int .i64 ((rd_T63 l1 x9_1).f1),.int .i64 0]) ?_ 2 _ rfl;(with_reducible repeat(first|apply blk_drewN|apply blk_drew|apply blk_alloc));refine blk_put (cs:=#[.int .i64 ((rd_T63 l1 x9_1).f0),.int .i64 0,.int .i64 0]) ?_ 1 _ rfl;(with_reducible repeat(first|apply blk_drewN|apply blk_drew|apply blk_alloc));refine blk_put (cs:=#[.int .i64 0,.int .i64 0,.int .i64 0]) ?_ 0 _ rfl;exact bm BK166.out) hb);replace HB:=ak (below_step (h2 HB.out GE164.out GE166.out) hb);clear hb ho36;obtain⟨Ao37,co37,eo37⟩:=R_slice HO169.out;subst eo37)|(refine gs 17 Try.func88 #[.agg #[.int .i64 a0_0,.bool a0_1],.slice Ao37 y167.length co37] ?_;(with_reducible refine(impl_Road_has.calls k1 a0_0 a0_1 _ _ y167 true _ ?side1 ?side2 A7.out).mono ?_);(case side1=>exact cm (R_reads' HO169.out).2.2);(case side2=>exact(R_reads' HO169.out).2.1);rintro e w38 ⟨rfl,hb⟩;refine⟨_,rfl,?_⟩;replace HO169:=rb HO169 hb;replace BK164:=kb BK164 hb;replace BK166:=kb BK166 hb;replace HB:=ak (below_step (h2 HB.out GE164.out GE166.out) hb);(try clear hb);(try clear hk);(try clear hi);have hcz39_0:=bc BK166 0 rfl;have hcz39_1:=bc BK166 1 rfl;have hcz39_2:=bc BK166 2 rfl;have hfz39_0:=bf BK166 0;have hfz39_1:=bf BK166 1;have hfz39_2:=bf BK166 2)|(go_at_call 105;(with_reducible refine(impl_within.calls ((rd_T63 l1 x9_1).f1) 0 48 false _ A9.out).mono ?_);rintro e w' ⟨rfl,⟨nd,rfl⟩⟩))
  go_ret
  exact⟨fe,h2 HB.out GE164.out GE166.out⟩
 subst c10
 rw[if_pos rfl]at H
 obtain⟨t172,A11,H⟩:=bd H;(try dsimp only at H)
 by_cases c12:t172=true
 rotate_left
 ·replace c12:=Bool.eq_false_iff.mpr c12
  subst c12
  rw[if_neg (show ¬(false=true)by decide)]at H
  obtain rfl:=Option.some.inj H
  have p165:0≤(x9_1:Int):=od
  have q165:x9_1<(l1.length:Int):=od
  obtain⟨ad165,e165,hx165_0,hx165_1,hx165_2⟩:=at_T63 HR1.out x9_1 p165 q165
  cases e165
  replace hx165_0:=hc HB hx165_0
  replace hx165_1:=hc HB hx165_1
  replace hx165_2:=hc HB hx165_2
  replace p165:=eq_true p165
  replace q165:=eq_true q165
  go_wp2_with (first|(refine bx 6 #[.int .i64 0,.int .i64 0,.int .i64 0] 63 ?_;intro gb166 hg w22 hbox hb;have BK166:=ak hbox;have GW166:=ak ((by rw[hg];exact(below_size (h1 HB.out GE164.out)):w.heap.size≤gb166));have GE166:=ak ((by rw[hg];exact(below_size (h1 HB.out GE164.out)):w.heap.size≤gb166));replace HB:=ak (below_step (h1 HB.out GE164.out) hb);have NB164_166:=nl BK164 hg;have NB166_164:=ng BK164 hg;replace BK164:=kb BK164 hb;clear hb hbox hg;have hnb23:=NB166_164.out;have hnc23:=NB164_166.out;have hcz24_0:=bc BK166 0 rfl;have hcz24_1:=bc BK166 1 rfl;have hcz24_2:=bc BK166 2 rfl;have hfz24_0:=bf BK166 0;have hfz24_1:=bf BK166 1;have hfz24_2:=bf BK166 2;have hcz25_0:=bc BK164 0 rfl;have hcz25_1:=bc BK164 1 rfl;have hfz25_0:=bf BK164 0;have hfz25_1:=bf BK164 1)|((with_reducible refine gate_dst (N:=16) rfl ?_);refine R_lit (Kd.int .i64) _ 3 ?hg (N:=16) ?hd (xs:=([(rd_T63 l1 x9_1).f0]:List Int)) (inner:=[.int .i64 ((rd_T63 l1 x9_1).f0)]) (ok:=fun _=>True) (okp:=fun _=>True) ?hr ?hp (fun _ hk=>hk) trivial (Below.refl _ _) (Nat.le_refl _) (by simp) ?_;(case hd=>rfl);(case hg=>rfl);(case hr=>first|(go_simp;done)|(go_simp;rfl));(case hp=>exact(Reps.one (show Kd.M (Kd.int .i64) _ _ _ ((rd_T63 l1 x9_1).f0) [.int .i64 ((rd_T63 l1 x9_1).f0)]from rfl) (Reps.none _ _)));intro v168 w26 ho27 hb hg_ hnew_;clear hg_ hnew_;(first|rw[←Ny167.out]at ho27|(simp only[Int.reduceToNat]at ho27;rw[←Ny167.out]at ho27));have HO169:=ak (R_lower ho27 (below_size (h2 HB.out GE164.out GE166.out)));replace BK164:=ak (blk_below (g:=gb164) (o:=.cells #[.int .i64 a0_0,.bool a0_1] 28 (0,0)) (by(with_reducible repeat(first|apply blk_drewN|apply blk_drew|apply blk_alloc));refine blk_far ?_ NB164_166.out _;(with_reducible repeat(first|apply blk_drewN|apply blk_drew|apply blk_alloc));refine blk_far ?_ NB164_166.out _;(with_reducible repeat(first|apply blk_drewN|apply blk_drew|apply blk_alloc));refine blk_far ?_ NB164_166.out _;exact bm BK164.out) hb);replace BK166:=ak (blk_below (g:=gb166) (o:=.cells #[.int .i64 ((rd_T63 l1 x9_1).f0),.int .i64 ((rd_T63 l1 x9_1).f1),.int .i64 ((rd_T63 l1 x9_1).f2)] 63 (0,0)) (by(with_reducible repeat(first|apply blk_drewN|apply blk_drew|apply blk_alloc));refine blk_put (cs:=#[.int .i64 ((rd_T63 l1 x9_1).f0),.int .i64 ((rd_T63 l1 x9_1).f1),.int .i64 0]) ?_ 2 _ rfl;(with_reducible repeat(first|apply blk_drewN|apply blk_drew|apply blk_alloc));refine blk_put (cs:=#[.int .i64 ((rd_T63 l1 x9_1).f0),.int .i64 0,.int .i64 0]) ?_ 1 _ rfl;(with_reducible repeat(first|apply blk_drewN|apply blk_drew|apply blk_alloc));refine blk_put (cs:=#[.int .i64 0,.int .i64 0,.int .i64 0]) ?_ 0 _ rfl;exact bm BK166.out) hb);replace HB:=ak (below_step (h2 HB.out GE164.out GE166.out) hb);clear hb ho27;obtain⟨Ao28,co28,eo28⟩:=R_slice HO169.out;subst eo28)|(refine gs 17 Try.func88 #[.agg #[.int .i64 a0_0,.bool a0_1],.slice Ao28 y167.length co28] ?_;(with_reducible refine(impl_Road_has.calls k1 a0_0 a0_1 _ _ y167 true _ ?side1 ?side2 A7.out).mono ?_);(case side1=>exact cm (R_reads' HO169.out).2.2);(case side2=>exact(R_reads' HO169.out).2.1);rintro e w29 ⟨rfl,hb⟩;refine⟨_,rfl,?_⟩;replace HO169:=rb HO169 hb;replace BK164:=kb BK164 hb;replace BK166:=kb BK166 hb;replace HB:=ak (below_step (h2 HB.out GE164.out GE166.out) hb);(try clear hb);(try clear hk);(try clear hi);have hcz30_0:=bc BK166 0 rfl;have hcz30_1:=bc BK166 1 rfl;have hcz30_2:=bc BK166 2 rfl;have hfz30_0:=bf BK166 0;have hfz30_1:=bf BK166 1;have hfz30_2:=bf BK166 2)|(go_at_call 105;(with_reducible refine(impl_within.calls ((rd_T63 l1 x9_1).f1) 0 48 true _ A9.out).mono ?_);rintro e w' ⟨rfl,⟨nd,rfl⟩⟩)|(go_at_call 105;(with_reducible refine(impl_within.calls ((rd_T63 l1 x9_1).f2) 0 20 false _ A11.out).mono ?_);rintro e w' ⟨rfl,⟨nd,rfl⟩⟩))
  go_ret
  exact⟨fe,h2 HB.out GE164.out GE166.out⟩
 subst c12
 rw[if_pos rfl]at H
 have H':=Aside0.mk H
 clear H
 have p165:0≤(x9_1:Int):=od
 have q165:x9_1<(l1.length:Int):=od
 obtain⟨ad165,e165,hx165_0,hx165_1,hx165_2⟩:=at_T63 HR1.out x9_1 p165 q165
 cases e165
 replace hx165_0:=hc HB hx165_0
 replace hx165_1:=hc HB hx165_1
 replace hx165_2:=hc HB hx165_2
 replace p165:=eq_true p165
 replace q165:=eq_true q165
 go_wp2_with (first|(refine bx 6 #[.int .i64 0,.int .i64 0,.int .i64 0] 63 ?_;intro gb166 hg w13 hbox hb;have BK166:=ak hbox;have GW166:=ak ((by rw[hg];exact(below_size (h1 HB.out GE164.out)):w.heap.size≤gb166));have GE166:=ak ((by rw[hg];exact(below_size (h1 HB.out GE164.out)):w.heap.size≤gb166));replace HB:=ak (below_step (h1 HB.out GE164.out) hb);have NB164_166:=nl BK164 hg;have NB166_164:=ng BK164 hg;replace BK164:=kb BK164 hb;clear hb hbox hg;have hnb14:=NB166_164.out;have hnc14:=NB164_166.out;have hcz15_0:=bc BK166 0 rfl;have hcz15_1:=bc BK166 1 rfl;have hcz15_2:=bc BK166 2 rfl;have hfz15_0:=bf BK166 0;have hfz15_1:=bf BK166 1;have hfz15_2:=bf BK166 2;have hcz16_0:=bc BK164 0 rfl;have hcz16_1:=bc BK164 1 rfl;have hfz16_0:=bf BK164 0;have hfz16_1:=bf BK164 1)|((with_reducible refine gate_dst (N:=16) rfl ?_);refine R_lit (Kd.int .i64) _ 3 ?hg (N:=16) ?hd (xs:=([(rd_T63 l1 x9_1).f0]:List Int)) (inner:=[.int .i64 ((rd_T63 l1 x9_1).f0)]) (ok:=fun _=>True) (okp:=fun _=>True) ?hr ?hp (fun _ hk=>hk) trivial (Below.refl _ _) (Nat.le_refl _) (by simp) ?_;(case hd=>rfl);(case hg=>rfl);(case hr=>first|(go_simp;done)|(go_simp;rfl));(case hp=>exact(Reps.one (show Kd.M (Kd.int .i64) _ _ _ ((rd_T63 l1 x9_1).f0) [.int .i64 ((rd_T63 l1 x9_1).f0)]from rfl) (Reps.none _ _)));intro v168 w17 ho18 hb hg_ hnew_;clear hg_ hnew_;(first|rw[←Ny167.out]at ho18|(simp only[Int.reduceToNat]at ho18;rw[←Ny167.out]at ho18));have HO169:=ak (R_lower ho18 (below_size (h2 HB.out GE164.out GE166.out)));replace BK164:=ak (blk_below (g:=gb164) (o:=.cells #[.int .i64 a0_0,.bool a0_1] 28 (0,0)) (by(with_reducible repeat(first|apply blk_drewN|apply blk_drew|apply blk_alloc));refine blk_far ?_ NB164_166.out _;(with_reducible repeat(first|apply blk_drewN|apply blk_drew|apply blk_alloc));refine blk_far ?_ NB164_166.out _;(with_reducible repeat(first|apply blk_drewN|apply blk_drew|apply blk_alloc));refine blk_far ?_ NB164_166.out _;exact bm BK164.out) hb);replace BK166:=ak (blk_below (g:=gb166) (o:=.cells #[.int .i64 ((rd_T63 l1 x9_1).f0),.int .i64 ((rd_T63 l1 x9_1).f1),.int .i64 ((rd_T63 l1 x9_1).f2)] 63 (0,0)) (by(with_reducible repeat(first|apply blk_drewN|apply blk_drew|apply blk_alloc));refine blk_put (cs:=#[.int .i64 ((rd_T63 l1 x9_1).f0),.int .i64 ((rd_T63 l1 x9_1).f1),.int .i64 0]) ?_ 2 _ rfl;(with_reducible repeat(first|apply blk_drewN|apply blk_drew|apply blk_alloc));refine blk_put (cs:=#[.int .i64 ((rd_T63 l1 x9_1).f0),.int .i64 0,.int .i64 0]) ?_ 1 _ rfl;(with_reducible repeat(first|apply blk_drewN|apply blk_drew|apply blk_alloc));refine blk_put (cs:=#[.int .i64 0,.int .i64 0,.int .i64 0]) ?_ 0 _ rfl;exact bm BK166.out) hb);replace HB:=ak (below_step (h2 HB.out GE164.out GE166.out) hb);clear hb ho18;obtain⟨Ao19,co19,eo19⟩:=R_slice HO169.out;subst eo19)|(refine gs 17 Try.func88 #[.agg #[.int .i64 a0_0,.bool a0_1],.slice Ao19 y167.length co19] ?_;(with_reducible refine(impl_Road_has.calls k1 a0_0 a0_1 _ _ y167 true _ ?side1 ?side2 A7.out).mono ?_);(case side1=>exact cm (R_reads' HO169.out).2.2);(case side2=>exact(R_reads' HO169.out).2.1);rintro e w20 ⟨rfl,hb⟩;refine⟨_,rfl,?_⟩;replace HO169:=rb HO169 hb;replace BK164:=kb BK164 hb;replace BK166:=kb BK166 hb;replace HB:=ak (below_step (h2 HB.out GE164.out GE166.out) hb);(try clear hb);(try clear hk);(try clear hi);have hcz21_0:=bc BK166 0 rfl;have hcz21_1:=bc BK166 1 rfl;have hcz21_2:=bc BK166 2 rfl;have hfz21_0:=bf BK166 0;have hfz21_1:=bf BK166 1;have hfz21_2:=bf BK166 2)|(go_at_call 105;(with_reducible refine(impl_within.calls ((rd_T63 l1 x9_1).f1) 0 48 true _ A9.out).mono ?_);rintro e w' ⟨rfl,⟨nd,rfl⟩⟩)|(go_at_call 105;(with_reducible refine(impl_within.calls ((rd_T63 l1 x9_1).f2) 0 20 true _ A11.out).mono ?_);rintro e w' ⟨rfl,⟨nd,rfl⟩⟩))
 go_roundg k1
 case measure=>have:=HK1.out;omega
 case rel=>exact⟨(wrap64 (x9_1+1)),fd,H',⟨by have:=HK1.out;omega⟩,⟨bm BK164.out⟩,⟨h2 HB.out GE164.out GE166.out⟩⟩
def cmp_isNaN_int.f (a0:Int):Option (Bool):=some (a0 !=a0)
set_option maxHeartbeats 8000000 in
set_option maxRecDepth 100000 in
theorem cmp_isNaN_int.calls (a0:Int) (r:Bool) (w:World) (h:cmp_isNaN_int.f a0=some r):
  Calls Try.prog 116 #[.int .i64 a0] w fun e w'=>e= .returned (.bool r)∧Drawn0 w w':=by
 unfold cmp_isNaN_int.f at h
 have H:=h
 clear h
 obtain rfl:=Option.some.inj H
 go_enter Try.func116,Try.ntmps116
 go_wp2
 go_ret
 exact⟨by first|rfl|(simp;done)|(simp[*];done),by repeat(first|exact Drawn0.refl _|apply Drawn0.step)⟩
def cmp_Less_int.f (a0:Int) (a1:Int):Option (Bool):=(cmp_isNaN_int.f a0).bind fun t173=>(if t173=true then((cmp_isNaN_int.f a1).bind fun t174=>(if t174=true then(some (decide (a0<a1)))else(some true)))else(some (decide (a0<a1))))
set_option maxHeartbeats 8000000 in
set_option maxRecDepth 100000 in
theorem cmp_Less_int.calls (a0:Int) (a1:Int) (r:Bool) (w:World) (h:cmp_Less_int.f a0 a1=some r):
  Calls Try.prog 114 #[.int .i64 a0,.int .i64 a1] w fun e w'=>e= .returned (.bool r)∧Drawn0 w w':=by
 unfold cmp_Less_int.f at h
 have H:=h
 clear h
 obtain⟨t173,A3,H⟩:=bd H;(try dsimp only at H)
 by_cases c4:t173=true
 rotate_left
 ·replace c4:=Bool.eq_false_iff.mpr c4
  subst c4
  rw[if_neg (show ¬(false=true)by decide)]at H
  obtain rfl:=Option.some.inj H
  go_enter Try.func114,Try.ntmps114
  go_wp2_with (first|(refine gs 6 Try.func116 #[.int .i64 a0] ?_;(with_reducible refine(cmp_isNaN_int.calls a0 false _ A3.out).mono ?_);rintro e w' ⟨rfl,⟨nd,rfl⟩⟩;refine⟨_,rfl,?_⟩))
  go_ret
  exact⟨by first|rfl|(simp;done)|(simp[*];done),by repeat(first|exact Drawn0.refl _|apply Drawn0.step)⟩
 subst c4
 rw[if_pos rfl]at H
 obtain⟨t174,A5,H⟩:=bd H;(try dsimp only at H)
 by_cases c6:t174=true
 ·subst c6
  rw[if_pos rfl]at H
  obtain rfl:=Option.some.inj H
  go_enter Try.func114,Try.ntmps114
  go_wp2_with (first|(refine gs 6 Try.func116 #[.int .i64 a0] ?_;(with_reducible refine(cmp_isNaN_int.calls a0 true _ A3.out).mono ?_);rintro e w' ⟨rfl,⟨nd,rfl⟩⟩;refine⟨_,rfl,?_⟩)|(go_at_call 116;(with_reducible refine(cmp_isNaN_int.calls a1 true _ A5.out).mono ?_);rintro e w' ⟨rfl,⟨nd,rfl⟩⟩))
  go_ret
  exact⟨by first|rfl|(simp;done)|(simp[*];done),by repeat(first|exact Drawn0.refl _|apply Drawn0.step)⟩
 replace c6:=Bool.eq_false_iff.mpr c6
 subst c6
 rw[if_neg (show ¬(false=true)by decide)]at H
 obtain rfl:=Option.some.inj H
 go_enter Try.func114,Try.ntmps114
 go_wp2_with (first|(refine gs 6 Try.func116 #[.int .i64 a0] ?_;(with_reducible refine(cmp_isNaN_int.calls a0 true _ A3.out).mono ?_);rintro e w' ⟨rfl,⟨nd,rfl⟩⟩;refine⟨_,rfl,?_⟩)|(go_at_call 116;(with_reducible refine(cmp_isNaN_int.calls a1 false _ A5.out).mono ?_);rintro e w' ⟨rfl,⟨nd,rfl⟩⟩))
 go_ret
 exact⟨by first|rfl|(simp;done)|(simp[*];done),by repeat(first|exact Drawn0.refl _|apply Drawn0.step)⟩
def slices_IsSorted_int_int.l0:Nat→List Int→Int→Option (Bool)
 | 0,_,_=>none
 | k+1,x0,x3=>if x3>0 then(if 0≤x3 then(if x3<(x0.length:Int)then(if 0≤(wrap64 (x3-1))then(if(wrap64 (x3-1))<(x0.length:Int)then((cmp_Less_int.f (rd x0 x3) (rd x0 (wrap64 (x3-1)))).bind fun t177=>(if t177=true then(some false)else(slices_IsSorted_int_int.l0 k x0 (wrap64 (x3-1)))))else(none))else(none))else(none))else(none))else(some true)
def slices_IsSorted_int_int.f (k:Nat) (l0:List Int):Option (Bool):=slices_IsSorted_int_int.l0 k l0 (wrap64 ((l0.length:Int)-1))
theorem slices_IsSorted_int_int.mono_l:∀ k,(∀ y0 y1,LeO (slices_IsSorted_int_int.l0 k y0 y1) (slices_IsSorted_int_int.l0 (k+1) y0 y1))
 | 0=>by
  refine ?_<;>(intros;intro r h;simp[slices_IsSorted_int_int.l0]at h)
 | k+1=>by
  have ih0:=slices_IsSorted_int_int.mono_l k
  refine ?_<;>intros<;>unfold slices_IsSorted_int_int.l0<;>(repeat' (with_reducible first|exact ih0 ..|exact LeO.refl _|exact LeO.none _|refine LeO.ite ?_ ?_|refine LeO.bind ?_ (fun _=>?_)))
theorem slices_IsSorted_int_int.mono:∀ a0 k,LeO (slices_IsSorted_int_int.f k a0) (slices_IsSorted_int_int.f (k+1) a0):=by
 intro a0 k
 have ih0:=slices_IsSorted_int_int.mono_l k
 unfold slices_IsSorted_int_int.f
 repeat' (with_reducible first|exact ih0 ..|exact LeO.refl _|exact LeO.none _|refine LeO.ite ?_ ?_|refine LeO.bind ?_ (fun _=>?_))
set_option maxHeartbeats 8000000 in
set_option maxRecDepth 100000 in
theorem slices_IsSorted_int_int.calls (k:Nat) (A0:Option Addr) (c0:Nat) (l0:List Int) (r:Bool) (w:World) (hr0:Kd.C (Kd.int .i64) w A0 l0.length l0) (hc0:l0.length≤c0) (h:slices_IsSorted_int_int.f k l0=some r):
  Calls Try.prog 104 #[.slice A0 l0.length c0] w fun e w'=>e= .returned (.bool r)∧Drawn0 w w':=by
 have HR0:=Aside0.mk hr0
 have HC0:=Aside0.mk hc0
 clear hr0 hc0
 unfold slices_IsSorted_int_int.f at h
 have H:=h
 clear h
 have H':=Aside0.mk H
 clear H
 go_enter Try.func104,Try.ntmps104
 go_wp2
 repeat(go_quiet (fail);try go_wp2)
 go_loopg [3] k (fun kq v3 w'=>∃ (x3_1:Int),v3= .int .i64 x3_1∧Aside0 (slices_IsSorted_int_int.l0 kq l0 x3_1=some r)∧Aside0 (kq≤k)∧Drawn0 w w')
 case atStart=>exact⟨(wrap64 ((l0.length:Int)-1)),fd,H',⟨Nat.le_refl _⟩,by repeat(first|exact Drawn0.refl _|apply Drawn0.step)⟩
 clear H'
 try clear c1
 obtain⟨x3_1,rfl,HA,HK1,⟨m1,rfl⟩⟩:=hrel
 obtain _|k1:=gk;·cases HA.out
 obtain⟨H⟩:=HA
 simp only[slices_IsSorted_int_int.l0]at H
 by_cases c2:x3_1>0
 rotate_left
 ·rw[if_neg c2]at H
  have c2b0:decide (0<x3_1)=false:=decide_eq_false c2
  clear c2
  obtain rfl:=Option.some.inj H
  go_wp2
  repeat(go_quiet (fail);try go_wp2)
  go_ret
  exact⟨by first|rfl|(simp;done)|(simp[*];done),by repeat(first|exact Drawn0.refl _|apply Drawn0.step)⟩
 rw[if_pos c2]at H
 have c2b0:decide (0<x3_1)=true:=decide_eq_true c2
 clear c2
 obtain⟨c3,H⟩:=gi H
 have c3b0:decide (0≤x3_1)=true:=decide_eq_true c3
 clear c3
 obtain⟨c4,H⟩:=gi H
 have c4b0:decide (x3_1<(l0.length:Int))=true:=decide_eq_true c4
 clear c4
 generalize hji5: (wrap64 (x3_1-1))=ji5 at H
 have hji5w: (IntKind.i64.wrap (x3_1-1))=ji5:=(i64_w _).trans hji5
 obtain⟨c6,H⟩:=gi H
 have c6b0:decide (0≤(ji5))=true:=decide_eq_true c6
 clear c6
 obtain⟨c7,H⟩:=gi H
 have c7b0:decide ((ji5)<(l0.length:Int))=true:=decide_eq_true c7
 clear c7
 obtain⟨t177,A8,H⟩:=bd H;(try dsimp only at H)
 by_cases c9:t177=true
 ·subst c9
  rw[if_pos rfl]at H
  obtain rfl:=Option.some.inj H
  have p175:0≤(x3_1:Int):=od
  have q175:x3_1<(l0.length:Int):=od
  obtain⟨ad175,e175,hx175_0⟩:=Kd.at_int HR0.out x3_1 p175 q175
  cases e175
  replace p175:=eq_true p175
  replace q175:=eq_true q175
  have p176:0≤((ji5):Int):=od
  have q176: (ji5)<(l0.length:Int):=od
  obtain⟨ad176,e176,hx176_0⟩:=Kd.at_int HR0.out (ji5) p176 q176
  obtain rfl:ad175=ad176:=(by injection e176)
  replace p176:=eq_true p176
  replace q176:=eq_true q176
  have go_:=trivial;repeat((first|clear go_|go_quiet (first|(go_at_call 114;(with_reducible refine(cmp_Less_int.calls (rd l0 x3_1) (rd l0 (ji5)) true _ A8.out).mono ?_);rintro e w' ⟨rfl,⟨nd,rfl⟩⟩;(try first|exact⟨rfl,_,World.drewN_drewN _ _ _⟩|exact⟨rfl,_,Eq.trans (World.drewN_drewN _ _ _) (congrArg (World.drewN _) (Nat.add_assoc _ _ _))⟩))));try go_wp2_with (first|(go_at_call 114;(with_reducible refine(cmp_Less_int.calls (rd l0 x3_1) (rd l0 (ji5)) true _ A8.out).mono ?_);rintro e w' ⟨rfl,⟨nd,rfl⟩⟩;(try first|exact⟨rfl,_,World.drewN_drewN _ _ _⟩|exact⟨rfl,_,Eq.trans (World.drewN_drewN _ _ _) (congrArg (World.drewN _) (Nat.add_assoc _ _ _))⟩))))
  go_ret
  exact⟨by first|rfl|(simp;done)|(simp only[←hji5]<;>(first|rfl|simp))|(simp[*];done),by repeat(first|exact Drawn0.refl _|apply Drawn0.step)⟩
 replace c9:=Bool.eq_false_iff.mpr c9
 subst c9
 rw[if_neg (show ¬(false=true)by decide)]at H
 have H':=Aside0.mk H
 clear H
 have p175:0≤(x3_1:Int):=od
 have q175:x3_1<(l0.length:Int):=od
 obtain⟨ad175,e175,hx175_0⟩:=Kd.at_int HR0.out x3_1 p175 q175
 cases e175
 replace p175:=eq_true p175
 replace q175:=eq_true q175
 have p176:0≤((ji5):Int):=od
 have q176: (ji5)<(l0.length:Int):=od
 obtain⟨ad176,e176,hx176_0⟩:=Kd.at_int HR0.out (ji5) p176 q176
 obtain rfl:ad175=ad176:=(by injection e176)
 replace p176:=eq_true p176
 replace q176:=eq_true q176
 have go_:=trivial;repeat((first|clear go_|go_quiet (first|(go_at_call 114;(with_reducible refine(cmp_Less_int.calls (rd l0 x3_1) (rd l0 (ji5)) false _ A8.out).mono ?_);rintro e w' ⟨rfl,⟨nd,rfl⟩⟩;(try first|exact⟨rfl,_,World.drewN_drewN _ _ _⟩|exact⟨rfl,_,Eq.trans (World.drewN_drewN _ _ _) (congrArg (World.drewN _) (Nat.add_assoc _ _ _))⟩))));try go_wp2_with (first|(go_at_call 114;(with_reducible refine(cmp_Less_int.calls (rd l0 x3_1) (rd l0 (ji5)) false _ A8.out).mono ?_);rintro e w' ⟨rfl,⟨nd,rfl⟩⟩;(try first|exact⟨rfl,_,World.drewN_drewN _ _ _⟩|exact⟨rfl,_,Eq.trans (World.drewN_drewN _ _ _) (congrArg (World.drewN _) (Nat.add_assoc _ _ _))⟩))))
 go_roundg k1
 case measure=>have:=HK1.out;omega
 case rel=>exact⟨(ji5),(by first|rfl|(simp;done)|(simp only[←hji5]<;>(first|rfl|simp))|(simp[*];done)),H',⟨by have:=HK1.out;omega⟩,by repeat(first|exact Drawn0.refl _|apply Drawn0.step)⟩
def impl_isCarried.f (k:Nat) (a0_0:Int) (a0_1:Bool) (l1:List (S63)) (l2:List Int):Option (Bool):=(impl_isLine.f a0_0 a0_1).bind fun t179=>(if t179=true then((impl_Road_areCarriers.f k a0_0 a0_1 l1).bind fun t180=>(if t180=true then((impl_Road_has.f k a0_0 a0_1 l2).bind fun t181=>(if t181=true then((slices_IsSorted_int_int.f k l2).bind fun t182=>(some t182))else(some false)))else(some false)))else(some false))
theorem impl_isCarried.mono:∀ a0 a1 a2 a3 k,LeO (impl_isCarried.f k a0 a1 a2 a3) (impl_isCarried.f (k+1) a0 a1 a2 a3):=by
 intro a0 a1 a2 a3 k
 unfold impl_isCarried.f
 repeat' (with_reducible first|exact impl_Road_areCarriers.mono ..|exact impl_Road_has.mono ..|exact slices_IsSorted_int_int.mono ..|exact LeO.refl _|exact LeO.none _|refine LeO.ite ?_ ?_|refine LeO.bind ?_ (fun _=>?_))
set_option maxHeartbeats 8000000 in
set_option maxRecDepth 100000 in
theorem impl_isCarried.calls (k:Nat) (a0_0:Int) (a0_1:Bool) (A1:Option Addr) (c1:Nat) (l1:List (S63)) (A2:Option Addr) (c2:Nat) (l2:List Int) (r:Bool) (w:World) (hr1:Kd.C k63 w A1 l1.length l1) (hc1:l1.length≤c1) (hr2:Kd.C (Kd.int .i64) w A2 l2.length l2) (hc2:l2.length≤c2) (h:impl_isCarried.f k a0_0 a0_1 l1 l2=some r):
  Calls Try.prog 63 #[.agg #[.int .i64 a0_0,.bool a0_1],.slice A1 l1.length c1,.slice A2 l2.length c2] w fun e w'=>e= .returned (.bool r)∧Below w.heap.size w w':=by
 have hu28:=Try.underlying28
 have HR1:=Aside0.mk hr1
 have HC1:=Aside0.mk hc1
 clear hr1 hc1
 have HR2:=Aside0.mk hr2
 have HC2:=Aside0.mk hc2
 clear hr2 hc2
 have HB:=Aside0.mk (Below.refl w.heap.size w)
 unfold impl_isCarried.f at h
 have H:=h
 clear h
 obtain⟨t179,A4,H⟩:=bd H;(try dsimp only at H)
 by_cases c5:t179=true
 rotate_left
 ·replace c5:=Bool.eq_false_iff.mpr c5
  subst c5
  rw[if_neg (show ¬(false=true)by decide)]at H
  obtain rfl:=Option.some.inj H
  go_enter Try.func63,Try.ntmps63
  go_wp2_with (first|(refine bx 3 #[.int .i64 a0_0,.bool a0_1] 28 ?_;intro gb178 hg w30 hbox hb;have BK178:=ak hbox;have GW178:=gw HB hg;have GE178:=gw HB hg;replace HB:=bs HB hb;clear hb hbox hg;have hcz31_0:=bc BK178 0 rfl;have hcz31_1:=bc BK178 1 rfl;have hfz31_0:=bf BK178 0;have hfz31_1:=bf BK178 1)|(refine gs 8 Try.func94 #[.agg #[.int .i64 a0_0,.bool a0_1]] ?_;(with_reducible refine(impl_isLine.calls a0_0 a0_1 false _ A4.out).mono ?_);rintro e w32 ⟨rfl,hb⟩;refine⟨_,rfl,?_⟩;replace BK178:=kb BK178 hb;replace HB:=ak (below_step (h1 HB.out GE178.out) hb);(try clear hb);(try clear hk);(try clear hi)))
  go_ret
  exact⟨fe,h1 HB.out GE178.out⟩
 subst c5
 rw[if_pos rfl]at H
 obtain⟨t180,A6,H⟩:=bd H;(try dsimp only at H)
 by_cases c7:t180=true
 rotate_left
 ·replace c7:=Bool.eq_false_iff.mpr c7
  subst c7
  rw[if_neg (show ¬(false=true)by decide)]at H
  obtain rfl:=Option.some.inj H
  go_enter Try.func63,Try.ntmps63
  go_wp2_with (first|(refine bx 3 #[.int .i64 a0_0,.bool a0_1] 28 ?_;intro gb178 hg w25 hbox hb;have BK178:=ak hbox;have GW178:=gw HB hg;have GE178:=gw HB hg;replace HB:=bs HB hb;clear hb hbox hg;have hcz26_0:=bc BK178 0 rfl;have hcz26_1:=bc BK178 1 rfl;have hfz26_0:=bf BK178 0;have hfz26_1:=bf BK178 1)|(refine gs 8 Try.func94 #[.agg #[.int .i64 a0_0,.bool a0_1]] ?_;(with_reducible refine(impl_isLine.calls a0_0 a0_1 true _ A4.out).mono ?_);rintro e w27 ⟨rfl,hb⟩;refine⟨_,rfl,?_⟩;replace BK178:=kb BK178 hb;replace HB:=ak (below_step (h1 HB.out GE178.out) hb);(try clear hb);(try clear hk);(try clear hi);have hcz28_0:=bc BK178 0 rfl;have hcz28_1:=bc BK178 1 rfl;have hfz28_0:=bf BK178 0;have hfz28_1:=bf BK178 1)|(go_at_call 95;(with_reducible refine(impl_Road_areCarriers.calls k a0_0 a0_1 _ _ l1 false _ ?side1 ?side2 A6.out).mono ?_);(case side1=>exact cm (C_below HR1.out HB.out));(case side2=>exact HC1.out);rintro e w29 ⟨rfl,hb⟩;replace BK178:=kb BK178 hb;replace HB:=ak (below_step (h1 HB.out GE178.out) hb);(try clear hb);(try clear hk);(try clear hi)))
  go_ret
  exact⟨fe,h1 HB.out GE178.out⟩
 subst c7
 rw[if_pos rfl]at H
 obtain⟨t181,A8,H⟩:=bd H;(try dsimp only at H)
 by_cases c9:t181=true
 rotate_left
 ·replace c9:=Bool.eq_false_iff.mpr c9
  subst c9
  rw[if_neg (show ¬(false=true)by decide)]at H
  obtain rfl:=Option.some.inj H
  go_enter Try.func63,Try.ntmps63
  go_wp2_with (first|(refine bx 3 #[.int .i64 a0_0,.bool a0_1] 28 ?_;intro gb178 hg w18 hbox hb;have BK178:=ak hbox;have GW178:=gw HB hg;have GE178:=gw HB hg;replace HB:=bs HB hb;clear hb hbox hg;have hcz19_0:=bc BK178 0 rfl;have hcz19_1:=bc BK178 1 rfl;have hfz19_0:=bf BK178 0;have hfz19_1:=bf BK178 1)|(refine gs 8 Try.func94 #[.agg #[.int .i64 a0_0,.bool a0_1]] ?_;(with_reducible refine(impl_isLine.calls a0_0 a0_1 true _ A4.out).mono ?_);rintro e w20 ⟨rfl,hb⟩;refine⟨_,rfl,?_⟩;replace BK178:=kb BK178 hb;replace HB:=ak (below_step (h1 HB.out GE178.out) hb);(try clear hb);(try clear hk);(try clear hi);have hcz21_0:=bc BK178 0 rfl;have hcz21_1:=bc BK178 1 rfl;have hfz21_0:=bf BK178 0;have hfz21_1:=bf BK178 1)|(go_at_call 95;(with_reducible refine(impl_Road_areCarriers.calls k a0_0 a0_1 _ _ l1 true _ ?side1 ?side2 A6.out).mono ?_);(case side1=>exact cm (C_below HR1.out HB.out));(case side2=>exact HC1.out);rintro e w22 ⟨rfl,hb⟩;replace BK178:=kb BK178 hb;replace HB:=ak (below_step (h1 HB.out GE178.out) hb);(try clear hb);(try clear hk);(try clear hi);have hcz23_0:=bc BK178 0 rfl;have hcz23_1:=bc BK178 1 rfl;have hfz23_0:=bf BK178 0;have hfz23_1:=bf BK178 1)|(go_at_call 88;(with_reducible refine(impl_Road_has.calls k a0_0 a0_1 _ _ l2 false _ ?side1 ?side2 A8.out).mono ?_);(case side1=>exact cm (C_below HR2.out HB.out));(case side2=>exact HC2.out);rintro e w24 ⟨rfl,hb⟩;replace BK178:=kb BK178 hb;replace HB:=ak (below_step (h1 HB.out GE178.out) hb);(try clear hb);(try clear hk);(try clear hi)))
  go_ret
  exact⟨fe,h1 HB.out GE178.out⟩
 subst c9
 rw[if_pos rfl]at H
 obtain⟨t182,A10,H⟩:=bd H;(try dsimp only at H)
 obtain rfl:=Option.some.inj H
 go_enter Try.func63,Try.ntmps63
 go_wp2_with (first|(refine bx 3 #[.int .i64 a0_0,.bool a0_1] 28 ?_;intro gb178 hg w11 hbox hb;have BK178:=ak hbox;have GW178:=gw HB hg;have GE178:=gw HB hg;replace HB:=bs HB hb;clear hb hbox hg;have hcz12_0:=bc BK178 0 rfl;have hcz12_1:=bc BK178 1 rfl;have hfz12_0:=bf BK178 0;have hfz12_1:=bf BK178 1)|(refine gs 8 Try.func94 #[.agg #[.int .i64 a0_0,.bool a0_1]] ?_;(with_reducible refine(impl_isLine.calls a0_0 a0_1 true _ A4.out).mono ?_);rintro e w13 ⟨rfl,hb⟩;refine⟨_,rfl,?_⟩;replace BK178:=kb BK178 hb;replace HB:=ak (below_step (h1 HB.out GE178.out) hb);(try clear hb);(try clear hk);(try clear hi);have hcz14_0:=bc BK178 0 rfl;have hcz14_1:=bc BK178 1 rfl;have hfz14_0:=bf BK178 0;have hfz14_1:=bf BK178 1)|(go_at_call 95;(with_reducible refine(impl_Road_areCarriers.calls k a0_0 a0_1 _ _ l1 true _ ?side1 ?side2 A6.out).mono ?_);(case side1=>exact cm (C_below HR1.out HB.out));(case side2=>exact HC1.out);rintro e w15 ⟨rfl,hb⟩;replace BK178:=kb BK178 hb;replace HB:=ak (below_step (h1 HB.out GE178.out) hb);(try clear hb);(try clear hk);(try clear hi);have hcz16_0:=bc BK178 0 rfl;have hcz16_1:=bc BK178 1 rfl;have hfz16_0:=bf BK178 0;have hfz16_1:=bf BK178 1)|(go_at_call 88;(with_reducible refine(impl_Road_has.calls k a0_0 a0_1 _ _ l2 true _ ?side1 ?side2 A8.out).mono ?_);(case side1=>exact cm (C_below HR2.out HB.out));(case side2=>exact HC2.out);rintro e w17 ⟨rfl,hb⟩;replace BK178:=kb BK178 hb;replace HB:=ak (below_step (h1 HB.out GE178.out) hb);(try clear hb);(try clear hk);(try clear hi))|(go_at_call 104;(with_reducible refine(slices_IsSorted_int_int.calls k _ _ l2 t182 _ ?side1 ?side2 A10.out).mono ?_);(case side1=>exact cm (C_below HR2.out HB.out));(case side2=>exact HC2.out);rintro e w' ⟨rfl,⟨nd,rfl⟩⟩))
 go_ret
 exact⟨fe,h1 HB.out GE178.out⟩
def slices_Index_int_int.l0:Nat→List Int→Int→Int→Int→Option (Int)
 | 0,_,_,_,_=>none
 | k+1,x0,x1,x7,x8=>if x8<x7 then(if 0≤x8 then(if x8<(x0.length:Int)then(if x1=(rd x0 x8)then(some x8)else(slices_Index_int_int.l0 k x0 x1 x7 (wrap64 (x8+1))))else(none))else(none))else(some (-1))
def slices_Index_int_int.f (k:Nat) (l0:List Int) (a1:Int):Option (Int):=slices_Index_int_int.l0 k l0 a1 (l0.length:Int) 0
theorem slices_Index_int_int.mono_l:∀ k,(∀ y0 y1 y2 y3,LeO (slices_Index_int_int.l0 k y0 y1 y2 y3) (slices_Index_int_int.l0 (k+1) y0 y1 y2 y3))
 | 0=>by
  refine ?_<;>(intros;intro r h;simp[slices_Index_int_int.l0]at h)
 | k+1=>by
  have ih0:=slices_Index_int_int.mono_l k
  refine ?_<;>intros<;>unfold slices_Index_int_int.l0<;>(repeat' (with_reducible first|exact ih0 ..|exact LeO.refl _|exact LeO.none _|refine LeO.ite ?_ ?_|refine LeO.bind ?_ (fun _=>?_)))
theorem slices_Index_int_int.mono:∀ a0 a1 k,LeO (slices_Index_int_int.f k a0 a1) (slices_Index_int_int.f (k+1) a0 a1):=by
 intro a0 a1 k
 have ih0:=slices_Index_int_int.mono_l k
 unfold slices_Index_int_int.f
 repeat' (with_reducible first|exact ih0 ..|exact LeO.refl _|exact LeO.none _|refine LeO.ite ?_ ?_|refine LeO.bind ?_ (fun _=>?_))
set_option maxHeartbeats 8000000 in
set_option maxRecDepth 100000 in
theorem slices_Index_int_int.calls (k:Nat) (A0:Option Addr) (c0:Nat) (l0:List Int) (a1:Int) (r:Int) (w:World) (hr0:Kd.C (Kd.int .i64) w A0 l0.length l0) (hc0:l0.length≤c0) (h:slices_Index_int_int.f k l0 a1=some r):
  Calls Try.prog 111 #[.slice A0 l0.length c0,.int .i64 a1] w fun e w'=>e= .returned (.int .i64 r)∧Drawn0 w w':=by
 have HR0:=Aside0.mk hr0
 have HC0:=Aside0.mk hc0
 clear hr0 hc0
 unfold slices_Index_int_int.f at h
 have H:=h
 clear h
 have H':=Aside0.mk H
 clear H
 go_enter Try.func111,Try.ntmps111
 go_wp2
 go_loopg [8] k (fun kq v8 w'=>∃ (x8_1:Int),v8= .int .i64 x8_1∧Aside0 (slices_Index_int_int.l0 kq l0 a1 (l0.length:Int) x8_1=some r)∧Aside0 (kq≤k)∧Drawn0 w w')
 case atStart=>exact⟨(0),fd,H',⟨Nat.le_refl _⟩,by repeat(first|exact Drawn0.refl _|apply Drawn0.step)⟩
 clear H'
 try clear c1
 try clear p2
 obtain⟨x8_1,rfl,HA,HK1,⟨m1,rfl⟩⟩:=hrel
 obtain _|k1:=gk;·cases HA.out
 obtain⟨H⟩:=HA
 simp only[slices_Index_int_int.l0]at H
 by_cases c3:x8_1<(l0.length:Int)
 rotate_left
 ·rw[if_neg c3]at H
  have c3b0:decide (x8_1<(l0.length:Int))=false:=decide_eq_false c3
  clear c3
  obtain rfl:=Option.some.inj H
  go_wp2
  go_ret
  exact⟨by first|rfl|(simp;done)|(simp[*];done),by repeat(first|exact Drawn0.refl _|apply Drawn0.step)⟩
 rw[if_pos c3]at H
 have c3b0:decide (x8_1<(l0.length:Int))=true:=decide_eq_true c3
 clear c3
 obtain⟨c4,H⟩:=gi H
 have c4b0:decide (0≤x8_1)=true:=decide_eq_true c4
 clear c4
 obtain⟨c5,H⟩:=gi H
 have c5b0:decide (x8_1<(l0.length:Int))=true:=decide_eq_true c5
 clear c5
 by_cases c6:a1=(rd l0 x8_1)
 ·rw[if_pos c6]at H
  have c6b0: (a1==(rd l0 x8_1))=true:=beq_iff_eq.mpr c6
  have c6b1: (a1 !=(rd l0 x8_1))=false:=bne_eq_false_iff_eq.mpr c6
  clear c6
  obtain rfl:=Option.some.inj H
  have p183:0≤(x8_1:Int):=od
  have q183:x8_1<(l0.length:Int):=od
  obtain⟨ad183,e183,hx183_0⟩:=Kd.at_int HR0.out x8_1 p183 q183
  cases e183
  replace p183:=eq_true p183
  replace q183:=eq_true q183
  go_wp2
  go_ret
  exact⟨by first|rfl|(simp;done)|(simp[*];done),by repeat(first|exact Drawn0.refl _|apply Drawn0.step)⟩
 rw[if_neg c6]at H
 have c6b0: (a1==(rd l0 x8_1))=false:=beq_eq_false_iff_ne.mpr c6
 have c6b1: (a1 !=(rd l0 x8_1))=true:=bne_iff_ne.mpr c6
 have H':=Aside0.mk H
 clear H
 have p183:0≤(x8_1:Int):=od
 have q183:x8_1<(l0.length:Int):=od
 obtain⟨ad183,e183,hx183_0⟩:=Kd.at_int HR0.out x8_1 p183 q183
 cases e183
 replace p183:=eq_true p183
 replace q183:=eq_true q183
 go_wp2
 go_roundg k1
 case measure=>have:=HK1.out;omega
 case rel=>exact⟨(wrap64 (x8_1+1)),fd,H',⟨by have:=HK1.out;omega⟩,by repeat(first|exact Drawn0.refl _|apply Drawn0.step)⟩
def slices_Contains_int_int.f (k:Nat) (l0:List Int) (a1:Int):Option (Bool):=(slices_Index_int_int.f k l0 a1).bind fun t184=>(some (decide (t184≥0)))
theorem slices_Contains_int_int.mono:∀ a0 a1 k,LeO (slices_Contains_int_int.f k a0 a1) (slices_Contains_int_int.f (k+1) a0 a1):=by
 intro a0 a1 k
 unfold slices_Contains_int_int.f
 repeat' (with_reducible first|exact slices_Index_int_int.mono ..|exact LeO.refl _|exact LeO.none _|refine LeO.ite ?_ ?_|refine LeO.bind ?_ (fun _=>?_))
set_option maxHeartbeats 8000000 in
set_option maxRecDepth 100000 in
theorem slices_Contains_int_int.calls (k:Nat) (A0:Option Addr) (c0:Nat) (l0:List Int) (a1:Int) (r:Bool) (w:World) (hr0:Kd.C (Kd.int .i64) w A0 l0.length l0) (hc0:l0.length≤c0) (h:slices_Contains_int_int.f k l0 a1=some r):
  Calls Try.prog 84 #[.slice A0 l0.length c0,.int .i64 a1] w fun e w'=>e= .returned (.bool r)∧Drawn0 w w':=by
 have HR0:=Aside0.mk hr0
 have HC0:=Aside0.mk hc0
 clear hr0 hc0
 unfold slices_Contains_int_int.f at h
 have H:=h
 clear h
 obtain⟨t184,A3,H⟩:=bd H;(try dsimp only at H)
 obtain rfl:=Option.some.inj H
 go_enter Try.func84,Try.ntmps84
 go_wp2_with (first|(refine gs 7 Try.func111 #[.slice A0 l0.length c0,.int .i64 a1] ?_;(with_reducible refine(slices_Index_int_int.calls k _ _ l0 a1 t184 _ ?side1 ?side2 A3.out).mono ?_);(case side1=>repeat(first|exact HR0.out|(with_reducible refine C_alloc ?_ _)|(with_reducible refine C_drewN ?_ _)|(with_reducible refine C_drew ?_)));(case side2=>exact HC0.out);rintro e w' ⟨rfl,⟨nd,rfl⟩⟩;refine⟨_,rfl,?_⟩))
 go_ret
 exact⟨by first|rfl|(simp;done)|(simp[*];done),by repeat(first|exact Drawn0.refl _|apply Drawn0.step)⟩
def impl_Road_gap.f (a0_0:Int) (a0_1:Bool) (a1:Int) (a2:Int):Option (Int):=if a0_1=true then(some (mn (mx (wrap64 (a1-a2)) (wrap64 (a2-a1))) (wrap64 (a0_0-(mx (wrap64 (a1-a2)) (wrap64 (a2-a1)))))))else(some (mx (wrap64 (a1-a2)) (wrap64 (a2-a1))))
set_option maxHeartbeats 8000000 in
set_option maxRecDepth 100000 in
theorem impl_Road_gap.calls (a0_0:Int) (a0_1:Bool) (a1:Int) (a2:Int) (r:Int) (w:World) (h:impl_Road_gap.f a0_0 a0_1 a1 a2=some r):
  Calls Try.prog 89 #[.agg #[.int .i64 a0_0,.bool a0_1],.int .i64 a1,.int .i64 a2] w fun e w'=>e= .returned (.int .i64 r)∧Below w.heap.size w w':=by
 have hu28:=Try.underlying28
 have HB:=Aside0.mk (Below.refl w.heap.size w)
 unfold impl_Road_gap.f at h
 have H:=h
 clear h
 generalize hji4: (mx (wrap64 (a1-a2)) (wrap64 (a2-a1)))=ji4 at H
 have hji4_: (if(wrap64 (a1-a2))<(wrap64 (a2-a1))then(wrap64 (a2-a1))else(wrap64 (a1-a2)))=ji4:=hji4
 by_cases c5:a0_1=true
 rotate_left
 ·replace c5:=Bool.eq_false_iff.mpr c5
  subst c5
  rw[if_neg (show ¬(false=true)by decide)]at H
  obtain rfl:=Option.some.inj H
  go_enter Try.func89,Try.ntmps89
  go_wp2_with (first|(refine bx 3 #[.int .i64 a0_0,.bool false] 28 ?_;intro gb185 hg w9 hbox hb;have BK185:=ak hbox;have GW185:=gw HB hg;have GE185:=gw HB hg;replace HB:=bs HB hb;clear hb hbox hg;have hcz10_0:=bc BK185 0 rfl;have hcz10_1:=bc BK185 1 rfl;have hfz10_0:=bf BK185 0;have hfz10_1:=bf BK185 1))
  go_ret
  exact⟨by first|rfl|(simp[errW_none,errW_some]<;>rfl)|(simp only[←hji4];first|rfl|(simp[errW_none,errW_some]<;>rfl))|(simp[*,errW_none,errW_some]<;>rfl),h1 HB.out GE185.out⟩
 subst c5
 rw[if_pos rfl]at H
 generalize hji6: (mn (ji4) (wrap64 (a0_0-(ji4))))=ji6 at H
 have hji6_: (if(wrap64 (a0_0-(ji4)))<(ji4)then(wrap64 (a0_0-(ji4)))else(ji4))=ji6:=hji6
 obtain rfl:=Option.some.inj H
 go_enter Try.func89,Try.ntmps89
 go_wp2_with (first|(refine bx 3 #[.int .i64 a0_0,.bool true] 28 ?_;intro gb185 hg w7 hbox hb;have BK185:=ak hbox;have GW185:=gw HB hg;have GE185:=gw HB hg;replace HB:=bs HB hb;clear hb hbox hg;have hcz8_0:=bc BK185 0 rfl;have hcz8_1:=bc BK185 1 rfl;have hfz8_0:=bf BK185 0;have hfz8_1:=bf BK185 1))
 go_ret
 exact⟨by first|rfl|(simp[errW_none,errW_some]<;>rfl)|(simp only[←hji4,←hji6];first|rfl|(simp[errW_none,errW_some]<;>rfl))|(simp[*,errW_none,errW_some]<;>rfl),h1 HB.out GE185.out⟩
end
end Go.Proofs.Ythagkpoinjpmfaa.QFnReaches
