/- Functions that the law FnMoves comes to, and their walks: no condition but those named. -/
import Derived.Test.YtanfamfgdgcjpaaQFnMovesx0
import Derived.Test.YtanfamfgdgcjpaaQFnMovesx2
namespace Go.Proofs.Ytanfamfgdgcjpaa.QFnMoves
open Go.RowKit Go.Proofs.YtanfamfgdgcjpaaW.PrintWords Go.Proofs.YtanfamfgdgcjpaaW.PrintLast Go.Proofs.YtanfamfgdgcjpaaW.PrintMore Go.Proofs.Ytanfamfgdgcjpaa.Short
attribute [local go_sem] max2_int min2_int max_two min_two max_three min_three max_four min_four
set_option linter.unusedVariables false
set_option linter.unusedSimpArgs false
section
open Kd
def impl_allWithin.l0:Nat→Int→Int→List Int→Int→Int→Option (Bool)
 | 0,_,_,_,_,_=>none
 | k+1,x1,x2,x9,x10,x11=>if x11<x10 then(if 0≤x11 then(if x11<(x9.length:Int)then((impl_within.f (rd x9 x11) x1 x2).bind fun t164=>(if t164=true then(impl_allWithin.l0 k x1 x2 x9 x10 (wrap64 (x11+1)))else(some false)))else(none))else(none))else(some true)
def impl_allWithin.f (k:Nat) (l0:List Int) (a1:Int) (a2:Int):Option (Bool):=impl_allWithin.l0 k a1 a2 l0 (l0.length:Int) 0
theorem impl_allWithin.mono_l:∀ k,(∀ y0 y1 y2 y3 y4,LeO (impl_allWithin.l0 k y0 y1 y2 y3 y4) (impl_allWithin.l0 (k+1) y0 y1 y2 y3 y4))
 | 0=>by
  refine ?_<;>(intros;intro r h;simp[impl_allWithin.l0]at h)
 | k+1=>by
  have ih0:=impl_allWithin.mono_l k
  refine ?_<;>intros<;>unfold impl_allWithin.l0<;>(repeat' (with_reducible first|exact ih0 ..|exact LeO.refl _|exact LeO.none _|refine LeO.ite ?_ ?_|refine LeO.bind ?_ (fun _=>?_)))
theorem impl_allWithin.mono:∀ a0 a1 a2 k,LeO (impl_allWithin.f k a0 a1 a2) (impl_allWithin.f (k+1) a0 a1 a2):=by
 intro a0 a1 a2 k
 have ih0:=impl_allWithin.mono_l k
 unfold impl_allWithin.f
 repeat' (with_reducible first|exact ih0 ..|exact LeO.refl _|exact LeO.none _|refine LeO.ite ?_ ?_|refine LeO.bind ?_ (fun _=>?_))
set_option maxHeartbeats 8000000 in
set_option maxRecDepth 100000 in
theorem impl_allWithin.calls (k:Nat) (A0:Option Addr) (c0:Nat) (l0:List Int) (a1:Int) (a2:Int) (r:Bool) (w:World) (hr0:Kd.C (Kd.int .i64) w A0 l0.length l0) (hc0:l0.length≤c0) (h:impl_allWithin.f k l0 a1 a2=some r):
  Calls Try.prog 81 #[.slice A0 l0.length c0,.int .i64 a1,.int .i64 a2] w fun e w'=>e= .returned (.bool r)∧Drawn0 w w':=by
 have HR0:=Aside0.mk hr0
 clear hr0 hc0
 unfold impl_allWithin.f at h
 have H:=h
 clear h
 have H':=Aside0.mk H
 clear H
 go_enter Try.func81,Try.ntmps81
 go_wp2
 go_loopg [11] k (fun kq v11 w'=>∃ (x11_1:Int),v11= .int .i64 x11_1∧Aside0 (impl_allWithin.l0 kq a1 a2 l0 (l0.length:Int) x11_1=some r)∧Aside0 (kq≤k)∧Drawn0 w w')
 case atStart=>exact⟨(0),fd,H',⟨Nat.le_refl _⟩,by repeat(first|exact Drawn0.refl _|apply Drawn0.step)⟩
 clear H'
 obtain⟨x11_1,rfl,HA,HK1,⟨m1,rfl⟩⟩:=hrel
 obtain _|k1:=gk;·cases HA.out
 obtain⟨H⟩:=HA
 simp only[impl_allWithin.l0]at H
 by_cases c4:x11_1<(l0.length:Int)
 rotate_left
 ·rw[if_neg c4]at H
  have c4b0:decide (x11_1<(l0.length:Int))=false:=decide_eq_false c4
  clear c4
  obtain rfl:=Option.some.inj H
  go_wp2
  go_ret
  exact⟨by first|rfl|(simp;done)|(simp[*];done),by repeat(first|exact Drawn0.refl _|apply Drawn0.step)⟩
 rw[if_pos c4]at H
 clear c4
 obtain⟨c5,H⟩:=gi H
 have c5b0:decide (0≤x11_1)=true:=decide_eq_true c5
 clear c5
 obtain⟨c6,H⟩:=gi H
 have c6b0:decide (x11_1<(l0.length:Int))=true:=decide_eq_true c6
 clear c6
 obtain⟨t164,A7,H⟩:=bd H;(try dsimp only at H)
 by_cases c8:t164=true
 rotate_left
 ·replace c8:=Bool.eq_false_iff.mpr c8
  subst c8
  rw[if_neg (show ¬(false=true)by decide)]at H
  obtain rfl:=Option.some.inj H
  have p163:0≤(x11_1:Int):=od
  have q163:x11_1<(l0.length:Int):=od
  obtain⟨ad163,e163,hx163_0⟩:=Kd.at_int HR0.out x11_1 p163 q163
  cases e163
  replace p163:=eq_true p163
  replace q163:=eq_true q163
  go_wp2_with (first|(refine gs 18 Try.func46 #[.int .i64 (rd l0 x11_1),.int .i64 a1,.int .i64 a2] ?_;(with_reducible refine(impl_within.calls (rd l0 x11_1) a1 a2 false _ A7.out).mono ?_);rintro e w' ⟨rfl,⟨nd,rfl⟩⟩;refine⟨_,rfl,?_⟩))
  go_ret
  exact⟨by first|rfl|(simp;done)|(simp[*];done),by repeat(first|exact Drawn0.refl _|apply Drawn0.step)⟩
 subst c8
 rw[if_pos rfl]at H
 have H':=Aside0.mk H
 clear H
 have p163:0≤(x11_1:Int):=od
 have q163:x11_1<(l0.length:Int):=od
 obtain⟨ad163,e163,hx163_0⟩:=Kd.at_int HR0.out x11_1 p163 q163
 cases e163
 replace p163:=eq_true p163
 replace q163:=eq_true q163
 go_wp2_with (first|(refine gs 18 Try.func46 #[.int .i64 (rd l0 x11_1),.int .i64 a1,.int .i64 a2] ?_;(with_reducible refine(impl_within.calls (rd l0 x11_1) a1 a2 true _ A7.out).mono ?_);rintro e w' ⟨rfl,⟨nd,rfl⟩⟩;refine⟨_,rfl,?_⟩))
 go_roundg k1
 case measure=>have:=HK1.out;omega
 case rel=>exact⟨(wrap64 (x11_1+1)),fd,H',⟨by have:=HK1.out;omega⟩,by repeat(first|exact Drawn0.refl _|apply Drawn0.step)⟩
def impl_Road_has.f (k:Nat) (a0_0:Int) (a0_1:Bool) (l1:List Int):Option (Bool):=(impl_allWithin.f k l1 0 (wrap64 (a0_0-1))).bind fun t166=>(some t166)
theorem impl_Road_has.mono:∀ a0 a1 a2 k,LeO (impl_Road_has.f k a0 a1 a2) (impl_Road_has.f (k+1) a0 a1 a2):=by
 intro a0 a1 a2 k
 unfold impl_Road_has.f
 repeat' (with_reducible first|exact impl_allWithin.mono ..|exact LeO.refl _|exact LeO.none _|refine LeO.ite ?_ ?_|refine LeO.bind ?_ (fun _=>?_))
set_option maxHeartbeats 8000000 in
set_option maxRecDepth 100000 in
theorem impl_Road_has.calls (k:Nat) (a0_0:Int) (a0_1:Bool) (A1:Option Addr) (c1:Nat) (l1:List Int) (r:Bool) (w:World) (hr1:Kd.C (Kd.int .i64) w A1 l1.length l1) (hc1:l1.length≤c1) (h:impl_Road_has.f k a0_0 a0_1 l1=some r):
  Calls Try.prog 56 #[.agg #[.int .i64 a0_0,.bool a0_1],.slice A1 l1.length c1] w fun e w'=>e= .returned (.bool r)∧Below w.heap.size w w':=by
 have HR1:=Aside0.mk hr1
 have HC1:=Aside0.mk hc1
 clear hr1 hc1
 have HB:=Aside0.mk (Below.refl w.heap.size w)
 unfold impl_Road_has.f at h
 have H:=h
 clear h
 obtain⟨t166,A3,H⟩:=bd H;(try dsimp only at H)
 obtain rfl:=Option.some.inj H
 go_enter Try.func56,Try.ntmps56
 go_wp2_with (first|(refine bx 2 #[.int .i64 a0_0,.bool a0_1] 27 ?_;intro gb165 hg w4 hbox hb;have BK165:=ak hbox;have GE165:=gw HB hg;replace HB:=bs HB hb;clear hb hbox hg;have hcz5_0:=bc BK165 0 rfl)|(refine gs 9 Try.func81 #[.slice A1 l1.length c1,.int .i64 0,.int .i64 (wrap64 (a0_0-1))] ?_;(with_reducible refine(impl_allWithin.calls k _ _ l1 0 (wrap64 (a0_0-1)) t166 _ ?side1 ?side2 A3.out).mono ?_);(case side1=>exact cm (C_below HR1.out HB.out));(case side2=>exact HC1.out);rintro e w' ⟨rfl,⟨nd,rfl⟩⟩;refine⟨_,rfl,?_⟩))
 go_ret
 exact⟨fe,h1 HB.out GE165.out⟩
def impl_Road_areSensors.l0:Nat→List (S58)→List (S58)→Int→Int→Int→Bool→Option (Bool)
 | 0,_,_,_,_,_,_=>none
 | k+1,x1,x7,x8,x9,x168000,x168001=>if x9<x8 then(if 0≤x9 then(if x9<(x7.length:Int)then((impl_Road_has.f k x168000 x168001 (([(rd_T58 x7 x9).f0]:List Int))).bind fun t173=>(if t173=true then((impl_within.f ((rd_T58 x7 x9).f1) 0 12).bind fun t174=>(if t174=true then(impl_Road_areSensors.l0 k x1 x7 x8 (wrap64 (x9+1)) x168000 x168001)else(some false)))else(some false)))else(none))else(none))else(some (decide ((x1.length:Int)≤6)))
def impl_Road_areSensors.f (k:Nat) (a0_0:Int) (a0_1:Bool) (l1:List (S58)):Option (Bool):=impl_Road_areSensors.l0 k l1 l1 (l1.length:Int) 0 a0_0 a0_1
theorem impl_Road_areSensors.mono_l:∀ k,(∀ y0 y1 y2 y3 y4 y5,LeO (impl_Road_areSensors.l0 k y0 y1 y2 y3 y4 y5) (impl_Road_areSensors.l0 (k+1) y0 y1 y2 y3 y4 y5))
 | 0=>by
  refine ?_<;>(intros;intro r h;simp[impl_Road_areSensors.l0]at h)
 | k+1=>by
  have ih0:=impl_Road_areSensors.mono_l k
  refine ?_<;>intros<;>unfold impl_Road_areSensors.l0<;>(repeat' (with_reducible first|exact ih0 ..|exact impl_Road_has.mono ..|exact LeO.refl _|exact LeO.none _|refine LeO.ite ?_ ?_|refine LeO.bind ?_ (fun _=>?_)))
theorem impl_Road_areSensors.mono:∀ a0 a1 a2 k,LeO (impl_Road_areSensors.f k a0 a1 a2) (impl_Road_areSensors.f (k+1) a0 a1 a2):=by
 intro a0 a1 a2 k
 have ih0:=impl_Road_areSensors.mono_l k
 unfold impl_Road_areSensors.f
 repeat' (with_reducible first|exact ih0 ..|exact impl_Road_has.mono ..|exact LeO.refl _|exact LeO.none _|refine LeO.ite ?_ ?_|refine LeO.bind ?_ (fun _=>?_))
set_option maxHeartbeats 8000000 in
set_option maxRecDepth 100000 in
theorem impl_Road_areSensors.calls (k:Nat) (a0_0:Int) (a0_1:Bool) (A1:Option Addr) (c1:Nat) (l1:List (S58)) (r:Bool) (w:World) (hr1:Kd.C k58 w A1 l1.length l1) (hc1:l1.length≤c1) (h:impl_Road_areSensors.f k a0_0 a0_1 l1=some r):
  Calls Try.prog 79 #[.agg #[.int .i64 a0_0,.bool a0_1],.slice A1 l1.length c1] w fun e w'=>e= .returned (.bool r)∧Below w.heap.size w w':=by
 have HR1:=Aside0.mk hr1
 clear hr1 hc1
 have HB:=Aside0.mk (Below.refl w.heap.size w)
 unfold impl_Road_areSensors.f at h
 have H:=h
 clear h
 have H':=Aside0.mk H
 clear H
 go_enter Try.func79,Try.ntmps79
 go_wp2_with (first|(refine bx 2 #[.int .i64 a0_0,.bool a0_1] 27 ?_;intro gb167 hg w3 hbox hb;have BK167:=ak hbox;have GE167:=gw HB hg;replace HB:=bs HB hb;clear hb hbox hg))
 go_loopg [9] k (fun kq v9 w'=>∃ (x9_1:Int),v9= .int .i64 x9_1∧Aside0 (impl_Road_areSensors.l0 kq l1 l1 (l1.length:Int) x9_1 a0_0 a0_1=some r)∧Aside0 (kq≤k)∧Aside0 (w'.heap[gb167]? =some (.cells #[.int .i64 a0_0,.bool a0_1] 27 (0,0)))∧Aside0 (Below w.heap.size w w'))
 case atStart=>exact⟨(0),fd,H',⟨Nat.le_refl _⟩,⟨bm BK167.out⟩,⟨h1 HB.out GE167.out⟩⟩
 clear H'
 obtain⟨x9_1,rfl,HA,HK1,BK167,HB⟩:=hrel
 obtain _|k1:=gk;·cases HA.out
 obtain⟨H⟩:=HA
 simp only[impl_Road_areSensors.l0]at H
 by_cases c4:x9_1<(l1.length:Int)
 rotate_left
 ·rw[if_neg c4]at H
  have c4b0:decide (x9_1<(l1.length:Int))=false:=decide_eq_false c4
  clear c4
  obtain rfl:=Option.some.inj H
  go_wp2
  go_ret
  exact⟨fe,h1 HB.out GE167.out⟩
 rw[if_pos c4]at H
 clear c4
 obtain⟨c5,H⟩:=gi H
 have c5b0:decide (0≤x9_1)=true:=decide_eq_true c5
 clear c5
 obtain⟨c6,H⟩:=gi H
 have c6b0:decide (x9_1<(l1.length:Int))=true:=decide_eq_true c6
 clear c6
 generalize hy170: ([(rd_T58 l1 x9_1).f0]:List Int)=y170 at H
 have Ny170:=ak hy170.symm
 clear hy170
 obtain⟨t173,A7,H⟩:=bd H;(try dsimp only at H)
 by_cases c8:t173=true
 rotate_left
 ·replace c8:=Bool.eq_false_iff.mpr c8
  subst c8
  rw[if_neg (show ¬(false=true)by decide)]at H
  obtain rfl:=Option.some.inj H
  have p168:0≤(x9_1:Int):=od
  have q168:x9_1<(l1.length:Int):=od
  obtain⟨ad168,e168,hx168_0,hx168_1⟩:=at_T58 HR1.out x9_1 p168 q168
  cases e168
  replace hx168_0:=hc HB hx168_0
  replace hx168_1:=hc HB hx168_1
  replace p168:=eq_true p168
  replace q168:=eq_true q168
  go_wp2_with (first|(refine bx 6 #[.int .i64 0,.int .i64 0] 58 ?_;intro gb169 hg w29 hbox hb;have BK169:=ak hbox;have GE169:=ak ((by rw[hg];exact(below_size (h1 HB.out GE167.out)):w.heap.size≤gb169));replace HB:=ak (below_step (h1 HB.out GE167.out) hb);have NB167_169:=nl BK167 hg;have NB169_167:=ng BK167 hg;replace BK167:=kb BK167 hb;clear hb hbox hg;have hnc30:=NB167_169.out;have hcz31_0:=bc BK169 0 rfl;have hcz31_1:=bc BK169 1 rfl;have hfz31_0:=bf BK169 0;have hfz31_1:=bf BK169 1;have hcz32_0:=bc BK167 0 rfl;have hcz32_1:=bc BK167 1 rfl)|((with_reducible refine gate_dst (N:=16) rfl ?_);refine R_lit (Kd.int .i64) _ 3 ?hg (N:=16) ?hd (xs:=([(rd_T58 l1 x9_1).f0]:List Int)) (inner:=[.int .i64 ((rd_T58 l1 x9_1).f0)]) (ok:=fun _=>True) (okp:=fun _=>True) ?hr ?hp (fun _ hk=>hk) trivial (Below.refl _ _) (Nat.le_refl _) (by simp) ?_;(case hd=>rfl);(case hg=>rfl);(case hr=>first|(go_simp;done)|(go_simp;rfl));(case hp=>exact(Reps.one (show Kd.M (Kd.int .i64) _ _ _ ((rd_T58 l1 x9_1).f0) [.int .i64 ((rd_T58 l1 x9_1).f0)]from rfl) (Reps.none _ _)));intro v171 w33 ho34 hb hg_ hnew_;clear hg_ hnew_;(first|rw[←Ny170.out]at ho34|(simp only[Int.reduceToNat]at ho34;rw[←Ny170.out]at ho34));have HO172:=ak (R_lower ho34 (below_size (h2 HB.out GE167.out GE169.out)));replace BK167:=ak (blk_below (g:=gb167) (o:=.cells #[.int .i64 a0_0,.bool a0_1] 27 (0,0)) (by(with_reducible repeat(first|apply blk_drewN|apply blk_drew|apply blk_alloc));refine blk_far ?_ NB167_169.out _;(with_reducible repeat(first|apply blk_drewN|apply blk_drew|apply blk_alloc));refine blk_far ?_ NB167_169.out _;exact bm BK167.out) hb);replace BK169:=ak (blk_below (g:=gb169) (o:=.cells #[.int .i64 ((rd_T58 l1 x9_1).f0),.int .i64 ((rd_T58 l1 x9_1).f1)] 58 (0,0)) (by(with_reducible repeat(first|apply blk_drewN|apply blk_drew|apply blk_alloc));refine blk_put (cs:=#[.int .i64 ((rd_T58 l1 x9_1).f0),.int .i64 0]) ?_ 1 _ rfl;(with_reducible repeat(first|apply blk_drewN|apply blk_drew|apply blk_alloc));refine blk_put (cs:=#[.int .i64 0,.int .i64 0]) ?_ 0 _ rfl;exact bm BK169.out) hb);replace HB:=ak (below_step (h2 HB.out GE167.out GE169.out) hb);clear hb ho34;obtain⟨Ao35,co35,eo35⟩:=R_slice HO172.out;subst eo35)|(refine gs 17 Try.func56 #[.agg #[.int .i64 a0_0,.bool a0_1],.slice Ao35 y170.length co35] ?_;(with_reducible refine(impl_Road_has.calls k1 a0_0 a0_1 _ _ y170 false _ ?side1 ?side2 A7.out).mono ?_);(case side1=>exact cm (R_reads' HO172.out).2.2);(case side2=>exact(R_reads' HO172.out).2.1);rintro e w36 ⟨rfl,hb⟩;refine⟨_,rfl,?_⟩;replace HO172:=rb HO172 hb;replace BK167:=kb BK167 hb;replace BK169:=kb BK169 hb;replace HB:=ak (below_step (h2 HB.out GE167.out GE169.out) hb);(try clear hb);(try clear hk);(try clear hi)))
  go_ret
  exact⟨fe,h2 HB.out GE167.out GE169.out⟩
 subst c8
 rw[if_pos rfl]at H
 obtain⟨t174,A9,H⟩:=bd H;(try dsimp only at H)
 by_cases c10:t174=true
 rotate_left
 ·replace c10:=Bool.eq_false_iff.mpr c10
  subst c10
  rw[if_neg (show ¬(false=true)by decide)]at H
  obtain rfl:=Option.some.inj H
  have p168:0≤(x9_1:Int):=od
  have q168:x9_1<(l1.length:Int):=od
  obtain⟨ad168,e168,hx168_0,hx168_1⟩:=at_T58 HR1.out x9_1 p168 q168
  cases e168
  replace hx168_0:=hc HB hx168_0
  replace hx168_1:=hc HB hx168_1
  replace p168:=eq_true p168
  replace q168:=eq_true q168
  go_wp2_with (first|(refine bx 6 #[.int .i64 0,.int .i64 0] 58 ?_;intro gb169 hg w20 hbox hb;have BK169:=ak hbox;have GE169:=ak ((by rw[hg];exact(below_size (h1 HB.out GE167.out)):w.heap.size≤gb169));replace HB:=ak (below_step (h1 HB.out GE167.out) hb);have NB167_169:=nl BK167 hg;have NB169_167:=ng BK167 hg;replace BK167:=kb BK167 hb;clear hb hbox hg;have hnc21:=NB167_169.out;have hcz22_0:=bc BK169 0 rfl;have hcz22_1:=bc BK169 1 rfl;have hfz22_0:=bf BK169 0;have hfz22_1:=bf BK169 1;have hcz23_0:=bc BK167 0 rfl;have hcz23_1:=bc BK167 1 rfl)|((with_reducible refine gate_dst (N:=16) rfl ?_);refine R_lit (Kd.int .i64) _ 3 ?hg (N:=16) ?hd (xs:=([(rd_T58 l1 x9_1).f0]:List Int)) (inner:=[.int .i64 ((rd_T58 l1 x9_1).f0)]) (ok:=fun _=>True) (okp:=fun _=>True) ?hr ?hp (fun _ hk=>hk) trivial (Below.refl _ _) (Nat.le_refl _) (by simp) ?_;(case hd=>rfl);(case hg=>rfl);(case hr=>first|(go_simp;done)|(go_simp;rfl));(case hp=>exact(Reps.one (show Kd.M (Kd.int .i64) _ _ _ ((rd_T58 l1 x9_1).f0) [.int .i64 ((rd_T58 l1 x9_1).f0)]from rfl) (Reps.none _ _)));intro v171 w24 ho25 hb hg_ hnew_;clear hg_ hnew_;(first|rw[←Ny170.out]at ho25|(simp only[Int.reduceToNat]at ho25;rw[←Ny170.out]at ho25));have HO172:=ak (R_lower ho25 (below_size (h2 HB.out GE167.out GE169.out)));replace BK167:=ak (blk_below (g:=gb167) (o:=.cells #[.int .i64 a0_0,.bool a0_1] 27 (0,0)) (by(with_reducible repeat(first|apply blk_drewN|apply blk_drew|apply blk_alloc));refine blk_far ?_ NB167_169.out _;(with_reducible repeat(first|apply blk_drewN|apply blk_drew|apply blk_alloc));refine blk_far ?_ NB167_169.out _;exact bm BK167.out) hb);replace BK169:=ak (blk_below (g:=gb169) (o:=.cells #[.int .i64 ((rd_T58 l1 x9_1).f0),.int .i64 ((rd_T58 l1 x9_1).f1)] 58 (0,0)) (by(with_reducible repeat(first|apply blk_drewN|apply blk_drew|apply blk_alloc));refine blk_put (cs:=#[.int .i64 ((rd_T58 l1 x9_1).f0),.int .i64 0]) ?_ 1 _ rfl;(with_reducible repeat(first|apply blk_drewN|apply blk_drew|apply blk_alloc));refine blk_put (cs:=#[.int .i64 0,.int .i64 0]) ?_ 0 _ rfl;exact bm BK169.out) hb);replace HB:=ak (below_step (h2 HB.out GE167.out GE169.out) hb);clear hb ho25;obtain⟨Ao26,co26,eo26⟩:=R_slice HO172.out;subst eo26)|(refine gs 17 Try.func56 #[.agg #[.int .i64 a0_0,.bool a0_1],.slice Ao26 y170.length co26] ?_;(with_reducible refine(impl_Road_has.calls k1 a0_0 a0_1 _ _ y170 true _ ?side1 ?side2 A7.out).mono ?_);(case side1=>exact cm (R_reads' HO172.out).2.2);(case side2=>exact(R_reads' HO172.out).2.1);rintro e w27 ⟨rfl,hb⟩;refine⟨_,rfl,?_⟩;replace HO172:=rb HO172 hb;replace BK167:=kb BK167 hb;replace BK169:=kb BK169 hb;replace HB:=ak (below_step (h2 HB.out GE167.out GE169.out) hb);(try clear hb);(try clear hk);(try clear hi);have hcz28_1:=bc BK169 1 rfl)|(go_at_call 46;(with_reducible refine(impl_within.calls ((rd_T58 l1 x9_1).f1) 0 12 false _ A9.out).mono ?_);rintro e w' ⟨rfl,⟨nd,rfl⟩⟩))
  go_ret
  exact⟨fe,h2 HB.out GE167.out GE169.out⟩
 subst c10
 rw[if_pos rfl]at H
 have H':=Aside0.mk H
 clear H
 have p168:0≤(x9_1:Int):=od
 have q168:x9_1<(l1.length:Int):=od
 obtain⟨ad168,e168,hx168_0,hx168_1⟩:=at_T58 HR1.out x9_1 p168 q168
 cases e168
 replace hx168_0:=hc HB hx168_0
 replace hx168_1:=hc HB hx168_1
 replace p168:=eq_true p168
 replace q168:=eq_true q168
 go_wp2_with (first|(refine bx 6 #[.int .i64 0,.int .i64 0] 58 ?_;intro gb169 hg w11 hbox hb;have BK169:=ak hbox;have GE169:=ak ((by rw[hg];exact(below_size (h1 HB.out GE167.out)):w.heap.size≤gb169));replace HB:=ak (below_step (h1 HB.out GE167.out) hb);have NB167_169:=nl BK167 hg;have NB169_167:=ng BK167 hg;replace BK167:=kb BK167 hb;clear hb hbox hg;have hnc12:=NB167_169.out;have hcz13_0:=bc BK169 0 rfl;have hcz13_1:=bc BK169 1 rfl;have hfz13_0:=bf BK169 0;have hfz13_1:=bf BK169 1;have hcz14_0:=bc BK167 0 rfl;have hcz14_1:=bc BK167 1 rfl)|((with_reducible refine gate_dst (N:=16) rfl ?_);refine R_lit (Kd.int .i64) _ 3 ?hg (N:=16) ?hd (xs:=([(rd_T58 l1 x9_1).f0]:List Int)) (inner:=[.int .i64 ((rd_T58 l1 x9_1).f0)]) (ok:=fun _=>True) (okp:=fun _=>True) ?hr ?hp (fun _ hk=>hk) trivial (Below.refl _ _) (Nat.le_refl _) (by simp) ?_;(case hd=>rfl);(case hg=>rfl);(case hr=>first|(go_simp;done)|(go_simp;rfl));(case hp=>exact(Reps.one (show Kd.M (Kd.int .i64) _ _ _ ((rd_T58 l1 x9_1).f0) [.int .i64 ((rd_T58 l1 x9_1).f0)]from rfl) (Reps.none _ _)));intro v171 w15 ho16 hb hg_ hnew_;clear hg_ hnew_;(first|rw[←Ny170.out]at ho16|(simp only[Int.reduceToNat]at ho16;rw[←Ny170.out]at ho16));have HO172:=ak (R_lower ho16 (below_size (h2 HB.out GE167.out GE169.out)));replace BK167:=ak (blk_below (g:=gb167) (o:=.cells #[.int .i64 a0_0,.bool a0_1] 27 (0,0)) (by(with_reducible repeat(first|apply blk_drewN|apply blk_drew|apply blk_alloc));refine blk_far ?_ NB167_169.out _;(with_reducible repeat(first|apply blk_drewN|apply blk_drew|apply blk_alloc));refine blk_far ?_ NB167_169.out _;exact bm BK167.out) hb);replace BK169:=ak (blk_below (g:=gb169) (o:=.cells #[.int .i64 ((rd_T58 l1 x9_1).f0),.int .i64 ((rd_T58 l1 x9_1).f1)] 58 (0,0)) (by(with_reducible repeat(first|apply blk_drewN|apply blk_drew|apply blk_alloc));refine blk_put (cs:=#[.int .i64 ((rd_T58 l1 x9_1).f0),.int .i64 0]) ?_ 1 _ rfl;(with_reducible repeat(first|apply blk_drewN|apply blk_drew|apply blk_alloc));refine blk_put (cs:=#[.int .i64 0,.int .i64 0]) ?_ 0 _ rfl;exact bm BK169.out) hb);replace HB:=ak (below_step (h2 HB.out GE167.out GE169.out) hb);clear hb ho16;obtain⟨Ao17,co17,eo17⟩:=R_slice HO172.out;subst eo17)|(refine gs 17 Try.func56 #[.agg #[.int .i64 a0_0,.bool a0_1],.slice Ao17 y170.length co17] ?_;(with_reducible refine(impl_Road_has.calls k1 a0_0 a0_1 _ _ y170 true _ ?side1 ?side2 A7.out).mono ?_);(case side1=>exact cm (R_reads' HO172.out).2.2);(case side2=>exact(R_reads' HO172.out).2.1);rintro e w18 ⟨rfl,hb⟩;refine⟨_,rfl,?_⟩;replace HO172:=rb HO172 hb;replace BK167:=kb BK167 hb;replace BK169:=kb BK169 hb;replace HB:=ak (below_step (h2 HB.out GE167.out GE169.out) hb);(try clear hb);(try clear hk);(try clear hi);have hcz19_1:=bc BK169 1 rfl)|(go_at_call 46;(with_reducible refine(impl_within.calls ((rd_T58 l1 x9_1).f1) 0 12 true _ A9.out).mono ?_);rintro e w' ⟨rfl,⟨nd,rfl⟩⟩))
 go_roundg k1
 case measure=>have:=HK1.out;omega
 case rel=>exact⟨(wrap64 (x9_1+1)),fd,H',⟨by have:=HK1.out;omega⟩,⟨bm BK167.out⟩,⟨h2 HB.out GE167.out GE169.out⟩⟩
def impl_isGuarded.f (k:Nat) (a0_0:Int) (a0_1:Bool) (l1:List (S58)):Option (Bool):=(impl_isLine.f a0_0 a0_1).bind fun t176=>(if t176=true then((impl_Road_areSensors.f k a0_0 a0_1 l1).bind fun t177=>(some t177))else(some false))
theorem impl_isGuarded.mono:∀ a0 a1 a2 k,LeO (impl_isGuarded.f k a0 a1 a2) (impl_isGuarded.f (k+1) a0 a1 a2):=by
 intro a0 a1 a2 k
 unfold impl_isGuarded.f
 repeat' (with_reducible first|exact impl_Road_areSensors.mono ..|exact LeO.refl _|exact LeO.none _|refine LeO.ite ?_ ?_|refine LeO.bind ?_ (fun _=>?_))
set_option maxHeartbeats 8000000 in
set_option maxRecDepth 100000 in
theorem impl_isGuarded.calls (k:Nat) (a0_0:Int) (a0_1:Bool) (A1:Option Addr) (c1:Nat) (l1:List (S58)) (r:Bool) (w:World) (hr1:Kd.C k58 w A1 l1.length l1) (hc1:l1.length≤c1) (h:impl_isGuarded.f k a0_0 a0_1 l1=some r):
  Calls Try.prog 50 #[.agg #[.int .i64 a0_0,.bool a0_1],.slice A1 l1.length c1] w fun e w'=>e= .returned (.bool r)∧Below w.heap.size w w':=by
 have HR1:=Aside0.mk hr1
 have HC1:=Aside0.mk hc1
 clear hr1 hc1
 have HB:=Aside0.mk (Below.refl w.heap.size w)
 unfold impl_isGuarded.f at h
 have H:=h
 clear h
 obtain⟨t176,A3,H⟩:=bd H;(try dsimp only at H)
 by_cases c4:t176=true
 rotate_left
 ·replace c4:=Bool.eq_false_iff.mpr c4
  subst c4
  rw[if_neg (show ¬(false=true)by decide)]at H
  obtain rfl:=Option.some.inj H
  go_enter Try.func50,Try.ntmps50
  go_wp2_with (first|(refine bx 2 #[.int .i64 a0_0,.bool a0_1] 27 ?_;intro gb175 hg w11 hbox hb;have BK175:=ak hbox;have GE175:=gw HB hg;replace HB:=bs HB hb;clear hb hbox hg;have hcz12_0:=bc BK175 0 rfl;have hcz12_1:=bc BK175 1 rfl)|(refine gs 6 Try.func45 #[.agg #[.int .i64 a0_0,.bool a0_1]] ?_;(with_reducible refine(impl_isLine.calls a0_0 a0_1 false _ A3.out).mono ?_);rintro e w13 ⟨rfl,hb⟩;refine⟨_,rfl,?_⟩;replace BK175:=kb BK175 hb;replace HB:=ak (below_step (h1 HB.out GE175.out) hb);(try clear hb);(try clear hk);(try clear hi)))
  go_ret
  exact⟨fe,h1 HB.out GE175.out⟩
 subst c4
 rw[if_pos rfl]at H
 obtain⟨t177,A5,H⟩:=bd H;(try dsimp only at H)
 obtain rfl:=Option.some.inj H
 go_enter Try.func50,Try.ntmps50
 go_wp2_with (first|(refine bx 2 #[.int .i64 a0_0,.bool a0_1] 27 ?_;intro gb175 hg w6 hbox hb;have BK175:=ak hbox;have GE175:=gw HB hg;replace HB:=bs HB hb;clear hb hbox hg;have hcz7_0:=bc BK175 0 rfl;have hcz7_1:=bc BK175 1 rfl)|(refine gs 6 Try.func45 #[.agg #[.int .i64 a0_0,.bool a0_1]] ?_;(with_reducible refine(impl_isLine.calls a0_0 a0_1 true _ A3.out).mono ?_);rintro e w8 ⟨rfl,hb⟩;refine⟨_,rfl,?_⟩;replace BK175:=kb BK175 hb;replace HB:=ak (below_step (h1 HB.out GE175.out) hb);(try clear hb);(try clear hk);(try clear hi);have hcz9_0:=bc BK175 0 rfl;have hcz9_1:=bc BK175 1 rfl)|(go_at_call 79;(with_reducible refine(impl_Road_areSensors.calls k a0_0 a0_1 _ _ l1 t177 _ ?side1 ?side2 A5.out).mono ?_);(case side1=>exact cm (C_below HR1.out HB.out));(case side2=>exact HC1.out);rintro e w10 ⟨rfl,hb⟩;replace BK175:=kb BK175 hb;replace HB:=ak (below_step (h1 HB.out GE175.out) hb);(try clear hb);(try clear hk);(try clear hi)))
 go_ret
 exact⟨fe,h1 HB.out GE175.out⟩
def impl_isMove.f (a0:Int):Option (Bool):=(impl_within.f a0 0 24).bind fun t178=>(some t178)
set_option maxHeartbeats 8000000 in
set_option maxRecDepth 100000 in
theorem impl_isMove.calls (a0:Int) (r:Bool) (w:World) (h:impl_isMove.f a0=some r):
  Calls Try.prog 51 #[.int .i64 a0] w fun e w'=>e= .returned (.bool r)∧Drawn0 w w':=by
 unfold impl_isMove.f at h
 have H:=h
 clear h
 obtain⟨t178,A2,H⟩:=bd H;(try dsimp only at H)
 obtain rfl:=Option.some.inj H
 go_enter Try.func51,Try.ntmps51
 go_wp2_with (first|(refine gs 4 Try.func46 #[.int .i64 a0,.int .i64 0,.int .i64 24] ?_;(with_reducible refine(impl_within.calls a0 0 24 t178 _ A2.out).mono ?_);rintro e w' ⟨rfl,⟨nd,rfl⟩⟩;refine⟨_,rfl,?_⟩))
 go_ret
 exact⟨by first|rfl|(simp;done)|(simp[*];done),by repeat(first|exact Drawn0.refl _|apply Drawn0.step)⟩
mutual
def impl_Road_canGuard.l0:Nat→List (S58)→Int→List Int→Int→Int→Int→Bool→Option (Bool)
 | 0,_,_,_,_,_,_,_=>none
 | k+1,x1,x2,x7,x18,x19,x180000,x180001=>if x19<x18 then(impl_Road_canGuard.l1 k x1 x2 x7 x19 x18 x19 x1 (x1.length:Int) 0 x180000 x180001)else(if 0≤(wrap64 ((x7.length:Int)-1))then(if(wrap64 ((x7.length:Int)-1))<(x7.length:Int)then(some (decide ((rd x7 (wrap64 ((x7.length:Int)-1)))≥x180000)))else(none))else(none))
def impl_Road_canGuard.l1:Nat→List (S58)→Int→List Int→Int→Int→Int→List (S58)→Int→Int→Int→Bool→Option (Bool)
 | 0,_,_,_,_,_,_,_,_,_,_,_=>none
 | k+1,x1,x2,x7,x8,x18,x19,x22,x23,x24,x180000,x180001=>if x24<x23 then(if 0≤x24 then(if x24<(x22.length:Int)then(if(Go.bits .and .i64 (shr .i64 x8 x24) 1)=0 then(impl_Road_canGuard.l1 k x1 x2 x7 x8 x18 x19 x22 x23 (wrap64 (x24+1)) x180000 x180001)else(if 0≤(Go.bits .andNot .i64 x8 (shl .i64 1 x24))then(if(Go.bits .andNot .i64 x8 (shl .i64 1 x24))<(x7.length:Int)then(if(mn (mn (wrap64 (((rd_T58 x22 x24).f0)+x2)) (wrap64 ((rd x7 (Go.bits .andNot .i64 x8 (shl .i64 1 x24)))+((rd_T58 x22 x24).f1)))) (wrap64 (x180000-1)))≥(wrap64 (((rd_T58 x22 x24).f0)-x2))then(if(wrap64 ((mn (mn (wrap64 (((rd_T58 x22 x24).f0)+x2)) (wrap64 ((rd x7 (Go.bits .andNot .i64 x8 (shl .i64 1 x24)))+((rd_T58 x22 x24).f1)))) (wrap64 (x180000-1)))+((rd_T58 x22 x24).f1)))≥(rd x7 (Go.bits .andNot .i64 x8 (shl .i64 1 x24)))then(if 0≤x8 then(if x8<(x7.length:Int)then(impl_Road_canGuard.l1 k x1 x2 (x7.set (x8:Int).toNat (mx (rd x7 x8) (mx (rd x7 (Go.bits .andNot .i64 x8 (shl .i64 1 x24))) (wrap64 ((wrap64 ((mn (mn (wrap64 (((rd_T58 x22 x24).f0)+x2)) (wrap64 ((rd x7 (Go.bits .andNot .i64 x8 (shl .i64 1 x24)))+((rd_T58 x22 x24).f1)))) (wrap64 (x180000-1)))+((rd_T58 x22 x24).f1)))+1))))) x8 x18 x19 x22 x23 (wrap64 (x24+1)) x180000 x180001)else(none))else(none))else(if 0≤x8 then(if x8<(x7.length:Int)then(impl_Road_canGuard.l1 k x1 x2 (x7.set (x8:Int).toNat (mx (rd x7 x8) (rd x7 (Go.bits .andNot .i64 x8 (shl .i64 1 x24))))) x8 x18 x19 x22 x23 (wrap64 (x24+1)) x180000 x180001)else(none))else(none)))else(if 0≤x8 then(if x8<(x7.length:Int)then(impl_Road_canGuard.l1 k x1 x2 (x7.set (x8:Int).toNat (mx (rd x7 x8) (rd x7 (Go.bits .andNot .i64 x8 (shl .i64 1 x24))))) x8 x18 x19 x22 x23 (wrap64 (x24+1)) x180000 x180001)else(none))else(none)))else(none))else(none)))else(none))else(none))else(impl_Road_canGuard.l0 k x1 x2 x7 x18 (wrap64 (x19+1)) x180000 x180001)
end
def impl_Road_canGuard.f (k:Nat) (a0_0:Int) (a0_1:Bool) (l1:List (S58)) (a2:Int):Option (Bool):=if 0≤(shl .i64 1 (l1.length:Int))then(if(shl .i64 1 (l1.length:Int):Int).toNat≤35184372088832 then((some (List.replicate (shl .i64 1 (l1.length:Int):Int).toNat 0:List Int)).bind fun y180=>(impl_Road_canGuard.l0 k l1 a2 y180 (y180.length:Int) 0 a0_0 a0_1))else(none))else(none)
theorem impl_Road_canGuard.mono_l:∀ k,(∀ y0 y1 y2 y3 y4 y5 y6,LeO (impl_Road_canGuard.l0 k y0 y1 y2 y3 y4 y5 y6) (impl_Road_canGuard.l0 (k+1) y0 y1 y2 y3 y4 y5 y6))∧(∀ y0 y1 y2 y3 y4 y5 y6 y7 y8 y9 y10,LeO (impl_Road_canGuard.l1 k y0 y1 y2 y3 y4 y5 y6 y7 y8 y9 y10) (impl_Road_canGuard.l1 (k+1) y0 y1 y2 y3 y4 y5 y6 y7 y8 y9 y10))
 | 0=>by
  refine⟨?_,?_⟩<;>(intros;intro r h;simp[impl_Road_canGuard.l0,impl_Road_canGuard.l1]at h)
 | k+1=>by
  obtain⟨ih0,ih1⟩:=impl_Road_canGuard.mono_l k
  refine⟨?_,?_⟩<;>intros<;>(first|unfold impl_Road_canGuard.l0|unfold impl_Road_canGuard.l1)<;>(repeat' (with_reducible first|exact ih0 ..|exact ih1 ..|exact LeO.refl _|exact LeO.none _|refine LeO.ite ?_ ?_|refine LeO.bind ?_ (fun _=>?_)))
theorem impl_Road_canGuard.mono:∀ a0 a1 a2 a3 k,LeO (impl_Road_canGuard.f k a0 a1 a2 a3) (impl_Road_canGuard.f (k+1) a0 a1 a2 a3):=by
 intro a0 a1 a2 a3 k
 obtain⟨ih0,ih1⟩:=impl_Road_canGuard.mono_l k
 unfold impl_Road_canGuard.f
 repeat' (with_reducible first|exact ih0 ..|exact ih1 ..|exact LeO.refl _|exact LeO.none _|refine LeO.ite ?_ ?_|refine LeO.bind ?_ (fun _=>?_))
set_option maxHeartbeats 8000000 in
set_option maxRecDepth 100000 in
theorem impl_Road_canGuard.calls (k:Nat) (a0_0:Int) (a0_1:Bool) (A1:Option Addr) (c1:Nat) (l1:List (S58)) (a2:Int) (r:Bool) (w:World) (hr1:Kd.C k58 w A1 l1.length l1) (hc1:l1.length≤c1) (h:impl_Road_canGuard.f k a0_0 a0_1 l1 a2=some r):
  Calls Try.prog 52 #[.agg #[.int .i64 a0_0,.bool a0_1],.slice A1 l1.length c1,.int .i64 a2] w fun e w'=>e= .returned (.bool r)∧Below w.heap.size w w':=by
 have HR1:=Aside0.mk hr1
 clear hr1 hc1
 have HB:=Aside0.mk (Below.refl w.heap.size w)
 unfold impl_Road_canGuard.f at h
 have H:=h
 clear h
 generalize hji4: (shl .i64 1 (l1.length:Int))=ji4 at H
 have hji4_: (IntKind.i64.wrap (1*2^min (l1.length:Int).toNat 64))=ji4:=hji4
 have hji4z: (l1.length:Int)≤64→(IntKind.i64.wrap (1*2^ (l1.length:Int).toNat))=ji4:=shl_small hji4
 have hji4p: (IntKind.i64.wrap (1*2^min l1.length 64))=ji4:=hji4_
 have hji4q: (l1.length:Int)≤64→(IntKind.i64.wrap (1*2^l1.length))=ji4:=hji4z
 have hji4r: (IntKind.i64.wrap (2^min l1.length 64))=ji4:=by have h_:=hji4p;rw[Int.one_mul]at h_;exact h_
 obtain⟨c5,H⟩:=gi H
 have c5b1:decide (0≤(ji4))=true:=decide_eq_true c5
 clear c5
 obtain⟨c6,H⟩:=gi H
 have c6b1:decide ((ji4:Int).toNat≤35184372088832)=true:=decide_eq_true c6
 clear c6
 obtain⟨y180,hy180⟩:∃ y_:List Int,y_=(List.replicate (ji4:Int).toNat 0):=⟨_,rfl⟩
 replace H: (impl_Road_canGuard.l0 k l1 a2 y180 (y180.length:Int) 0 a0_0 a0_1)=some r:=by subst hy180;first|(with_reducible exact H)|exact H
 have Ny180:=Aside0.mk hy180
 clear hy180
 have H':=Aside0.mk H
 clear H
 go_enter Try.func52,Try.ntmps52
 have go_:=trivial;repeat((first|clear go_|go_quiet (fail));try go_wp2_with (first|(refine bx 3 #[.int .i64 a0_0,.bool a0_1] 27 ?_;intro gb179 hg w7 hbox hb;have BK179:=ak hbox;have GE179:=gw HB hg;replace HB:=bs HB hb;clear hb hbox hg)|((with_reducible refine gate_dst (N:=16) rfl ?_);refine R_make (Kd.int .i64) _ 3 rfl (N:=16) rfl 24 _ _ rfl ji4 rfl rfl Try.underlying24 (.int .i64 0) 8 info3 rfl (by decide) (by omega) 0 (ok:=fun _=>True) (okp:=fun _=>True) rfl (fun _ hk=>hk) trivial (od) (Nat.le_trans (Nat.mul_le_mul_right _ (od:ji4.toNat≤35184372088832)) (by omega)) (Below.refl _ _) (Nat.le_refl _) ?_;intro v181 w8 ho9 hb hg_ hnew_;clear hg_ hnew_;(first|rw[←Ny180.out]at ho9|(simp only[Int.reduceToNat]at ho9;rw[←Ny180.out]at ho9));have HO182:=ak (R_lower ho9 (below_size (h1 HB.out GE179.out)));replace BK179:=kb BK179 hb;replace HB:=ak (below_step (h1 HB.out GE179.out) hb);clear hb ho9;obtain⟨Ao10,co10,eo10⟩:=R_slice HO182.out;subst eo10)))
 go_loopg [19] k (fun kq v19 w'=>∃ (x7_1:List Int) (x19_1:Int),v19= .int .i64 x19_1∧Aside0 (impl_Road_canGuard.l0 kq l1 a2 x7_1 (y180.length:Int) x19_1 a0_0 a0_1=some r)∧Aside0 (kq≤k)∧Aside0 (Kd.R (Kd.int .i64) 3 w' w.heap.size (fun _=>True) (.slice Ao10 y180.length co10) x7_1)∧Aside0 (w'.heap[gb179]? =some (.cells #[.int .i64 a0_0,.bool a0_1] 27 (0,0)))∧Aside0 (Below w.heap.size w w'))
 case atStart=>exact⟨(y180),(0),fd,H',⟨Nat.le_refl _⟩,⟨rm HO182.out⟩,⟨bm BK179.out⟩,⟨h1 HB.out GE179.out⟩⟩
 clear H'
 obtain⟨x7_1,x19_1,rfl,HA,HK1,HO_7,BK179,HB⟩:=hrel
 have hl7_1:=(R_reads' HO_7.out).1
 rw[hl7_1]at HO_7
 (try simp only[hl7_1])
 (try simp only[hl7_1]at BK179)
 obtain _|k1:=gk;·cases HA.out
 obtain⟨H⟩:=HA
 simp only[impl_Road_canGuard.l0]at H
 by_cases c11:x19_1<(y180.length:Int)
 rotate_left
 ·rw[if_neg c11]at H
  have c11b0:decide (x19_1<(y180.length:Int))=false:=decide_eq_false c11
  (try simp only[hl7_1]at c11b0)
  clear c11
  generalize hji66: (wrap64 ((x7_1.length:Int)-1))=ji66 at H
  have hji66w: (IntKind.i64.wrap ((x7_1.length:Int)-1))=ji66:=(i64_w _).trans hji66
  obtain⟨c67,H⟩:=gi H
  have c67b0:decide (0≤(ji66))=true:=decide_eq_true c67
  clear c67
  obtain⟨c68,H⟩:=gi H
  have c68b0:decide ((ji66)<(x7_1.length:Int))=true:=decide_eq_true c68
  (try simp only[hl7_1]at c68b0)
  clear c68
  obtain rfl:=Option.some.inj H
  have p183:0≤((ji66):Int):=od
  have q183: (ji66)<(x7_1.length:Int):=od
  obtain⟨ad183,e183,hx183_0⟩:=Kd.at_int (R_reads' HO_7.out).2.2 (ji66) p183 q183
  cases e183
  replace p183:=eq_true p183
  replace q183:=eq_true q183
  have hcz69_0:=bc BK179 0 rfl
  go_wp2
  repeat(go_quiet (fail);try go_wp2)
  go_ret
  exact⟨by first|rfl|(simp[errW_none,errW_some]<;>rfl)|(simp only[←hji4,←hji66];first|rfl|(simp[errW_none,errW_some]<;>rfl))|(simp[*,errW_none,errW_some]<;>rfl),h1 HB.out GE179.out⟩
 rw[if_pos c11]at H
 have c11b0:decide (x19_1<(y180.length:Int))=true:=decide_eq_true c11
 (try simp only[hl7_1]at c11b0)
 clear c11
 have H':=Aside0.mk H
 clear H
 go_wp2
 repeat(go_quiet (fail);try go_wp2)
 go_loopg [24] k1 (fun kq v24 w'=>∃ (x7_2:List Int) (x24_2:Int),v24= .int .i64 x24_2∧Aside0 (impl_Road_canGuard.l1 kq l1 a2 x7_2 x19_1 (y180.length:Int) x19_1 l1 (l1.length:Int) x24_2 a0_0 a0_1=some r)∧Aside0 (kq≤k1)∧Aside0 (Kd.R (Kd.int .i64) 3 w' w.heap.size (fun _=>True) (.slice Ao10 x7_1.length co10) x7_2)∧Aside0 (w'.heap[gb179]? =some (.cells #[.int .i64 a0_0,.bool a0_1] 27 (0,0)))∧Aside0 (Below w.heap.size w w'))
 case atStart=>exact⟨(x7_1),(0),fd,H',⟨Nat.le_refl _⟩,⟨by(try simp only[hl7_1]);(with_reducible repeat(first|apply R_alloc|apply R_drewN|apply R_drew));exact HO_7.out⟩,⟨by(try simp only[hl7_1]);exact bm BK179.out⟩,⟨h1 HB.out GE179.out⟩⟩
 clear H'
 obtain⟨x7_2,x24_2,rfl,HA,HK2,HO_7,BK179,HB⟩:=hrel
 have hl7_2:=(R_reads' HO_7.out).1
 rw[hl7_2]at HO_7
 (try simp only[hl7_2])
 (try simp only[hl7_2]at BK179)
 obtain _|k2:=gk;·cases HA.out
 obtain⟨H⟩:=HA
 simp only[impl_Road_canGuard.l1]at H
 by_cases c12:x24_2<(l1.length:Int)
 rotate_left
 ·rw[if_neg c12]at H
  have c12b0:decide (x24_2<(l1.length:Int))=false:=decide_eq_false c12
  (try simp only[hl7_1,hl7_2]at c12b0)
  clear c12
  have H':=Aside0.mk H
  clear H
  go_wp2
  repeat(go_quiet (fail);try go_wp2)
  (try simp only[←hl7_1,←hl7_2])
  go_roundg k2
  case measure=>have:=HK1.out;have:=HK2.out;omega
  case rel=>exact⟨(x7_2),(wrap64 (x19_1+1)),fd,H',⟨by have:=HK1.out;have:=HK2.out;omega⟩,⟨by(try simp only[hl7_1]);(try simp only[hl7_2]);(with_reducible repeat(first|apply R_alloc|apply R_drewN|apply R_drew));exact HO_7.out⟩,⟨by(try simp only[hl7_1]);(try simp only[hl7_2]);exact bm BK179.out⟩,⟨h1 HB.out GE179.out⟩⟩
 rw[if_pos c12]at H
 have c12b0:decide (x24_2<(l1.length:Int))=true:=decide_eq_true c12
 (try simp only[hl7_1,hl7_2]at c12b0)
 clear c12
 obtain⟨c13,H⟩:=gi H
 have c13b0:decide (0≤x24_2)=true:=decide_eq_true c13
 clear c13
 obtain⟨c14,H⟩:=gi H
 have c14b0:decide (x24_2<(l1.length:Int))=true:=decide_eq_true c14
 (try simp only[hl7_1,hl7_2]at c14b0)
 clear c14
 have c15b0:=eq_true (od:0≤x24_2)
 generalize hji16: (shr .i64 x19_1 x24_2)=ji16 at H
 have hji16_: (x19_1/ 2^min x24_2.toNat 64)=ji16:=hji16
 have hji16z:x24_2≤64→(x19_1/ 2^x24_2.toNat)=ji16:=shr_small hji16
 by_cases c17: (Go.bits .and .i64 (ji16) 1)=0
 ·rw[if_pos c17]at H
  have c17b0: ((Go.bits .and .i64 (ji16) 1)==0)=true:=beq_iff_eq.mpr c17
  clear c17
  have H':=Aside0.mk H
  clear H
  have p184:0≤(x24_2:Int):=od
  have q184:x24_2<(l1.length:Int):=od
  obtain⟨ad184,e184,hx184_0,hx184_1⟩:=at_T58 HR1.out x24_2 p184 q184
  cases e184
  replace hx184_0:=hc HB hx184_0
  replace hx184_1:=hc HB hx184_1
  replace p184:=eq_true p184
  replace q184:=eq_true q184
  have go_:=trivial;repeat((first|clear go_|go_quiet (fail));try go_wp2_with (first|(refine bx 10 #[.int .i64 0,.int .i64 0] 58 ?_;intro gb185 hg w18 hbox hb;replace HO_7:=rb HO_7 hb;have BK185:=ak hbox;have GE185:=ak ((by rw[hg];exact(below_size (h1 HB.out GE179.out)):w.heap.size≤gb185));replace HB:=ak (below_step (h1 HB.out GE179.out) hb);have NB179_185:=nl BK179 hg;have NB185_179:=ng BK179 hg;replace BK179:=kb BK179 hb;clear hb hbox hg;have hcz20_0:=bc BK185 0 rfl;have hcz20_1:=bc BK185 1 rfl;have hfz20_0:=bf BK185 0;have hfz20_1:=bf BK185 1)))
  (try simp only[←hl7_2])
  go_roundg k2
  case measure=>have:=HK1.out;have:=HK2.out;omega
  case rel=>exact⟨(x7_2),(wrap64 (x24_2+1)),fd,H',⟨by have:=HK1.out;have:=HK2.out;omega⟩,⟨by(try simp only[hl7_1]);(try simp only[hl7_2]);(with_reducible repeat(first|apply R_alloc|apply R_drewN|apply R_drew));exact R_mono (R_far (p:=⟨gb185,1,none⟩) (R_far (p:=⟨gb185,0,none⟩) (R_types HO_7.out BK185.out (by decide)) (fun _ hk=>hk.2) (.int .i64 ((rd_T58 l1 x24_2).f0))) (fun _ hk=>hk.2) (.int .i64 ((rd_T58 l1 x24_2).f1))) (fun _ hk=>trivial)⟩,⟨by(try simp only[hl7_1]);(try simp only[hl7_2]);(with_reducible repeat(first|apply blk_drewN|apply blk_drew|apply blk_alloc));refine blk_far ?_ NB179_185.out _;(with_reducible repeat(first|apply blk_drewN|apply blk_drew|apply blk_alloc));refine blk_far ?_ NB179_185.out _;exact bm BK179.out⟩,⟨h2 HB.out GE179.out GE185.out⟩⟩
 rw[if_neg c17]at H
 have c17b0: ((Go.bits .and .i64 (ji16) 1)==0)=false:=beq_eq_false_iff_ne.mpr c17
 generalize hji22: (shl .i64 1 x24_2)=ji22 at H
 have hji22_: (IntKind.i64.wrap (1*2^min x24_2.toNat 64))=ji22:=hji22
 have hji22z:x24_2≤64→(IntKind.i64.wrap (1*2^x24_2.toNat))=ji22:=shl_small hji22
 have hji22u: (IntKind.i64.wrap (2^min x24_2.toNat 64))=ji22:=by have h_:=hji22_;rw[Int.one_mul]at h_;exact h_
 obtain⟨c23,H⟩:=gi H
 have c23b0:decide (0≤(Go.bits .andNot .i64 x19_1 (ji22)))=true:=decide_eq_true c23
 clear c23
 obtain⟨c24,H⟩:=gi H
 have c24b0:decide ((Go.bits .andNot .i64 x19_1 (ji22))<(x7_2.length:Int))=true:=decide_eq_true c24
 (try simp only[hl7_1,hl7_2]at c24b0)
 clear c24
 generalize hji25: (mn (wrap64 (((rd_T58 l1 x24_2).f0)+a2)) (wrap64 ((rd x7_2 (Go.bits .andNot .i64 x19_1 (ji22)))+((rd_T58 l1 x24_2).f1))))=ji25 at H
 have hji25_: (if(wrap64 ((rd x7_2 (Go.bits .andNot .i64 x19_1 (ji22)))+((rd_T58 l1 x24_2).f1)))<(wrap64 (((rd_T58 l1 x24_2).f0)+a2))then(wrap64 ((rd x7_2 (Go.bits .andNot .i64 x19_1 (ji22)))+((rd_T58 l1 x24_2).f1)))else(wrap64 (((rd_T58 l1 x24_2).f0)+a2)))=ji25:=hji25
 generalize hji26: (mn (ji25) (wrap64 (a0_0-1)))=ji26 at H
 have hji26_: (if(wrap64 (a0_0-1))<(ji25)then(wrap64 (a0_0-1))else(ji25))=ji26:=hji26
 by_cases c27: (ji26)≥(wrap64 (((rd_T58 l1 x24_2).f0)-a2))
 rotate_left
 ·rw[if_neg c27]at H
  have c27b0:decide ((wrap64 (((rd_T58 l1 x24_2).f0)-a2))≤(ji26))=false:=decide_eq_false c27
  clear c27
  obtain⟨c54,H⟩:=gi H
  have c54b0:decide (0≤x19_1)=true:=decide_eq_true c54
  clear c54
  obtain⟨c55,H⟩:=gi H
  have c55b0:decide (x19_1<(x7_2.length:Int))=true:=decide_eq_true c55
  (try simp only[hl7_1,hl7_2]at c55b0)
  clear c55
  generalize hji56: (mx (rd x7_2 x19_1) (rd x7_2 (Go.bits .andNot .i64 x19_1 (ji22))))=ji56 at H
  have hji56_: (if(rd x7_2 x19_1)<(rd x7_2 (Go.bits .andNot .i64 x19_1 (ji22)))then(rd x7_2 (Go.bits .andNot .i64 x19_1 (ji22)))else(rd x7_2 x19_1))=ji56:=hji56
  generalize hy192: (x7_2.set (x19_1:Int).toNat (ji56):List Int)=y192 at H
  have Ny192:=ak hy192.symm
  clear hy192
  have H':=Aside0.mk H
  clear H
  have p184:0≤(x24_2:Int):=od
  have q184:x24_2<(l1.length:Int):=od
  obtain⟨ad184,e184,hx184_0,hx184_1⟩:=at_T58 HR1.out x24_2 p184 q184
  cases e184
  replace hx184_0:=hc HB hx184_0
  replace hx184_1:=hc HB hx184_1
  replace p184:=eq_true p184
  replace q184:=eq_true q184
  have go_:=trivial;repeat((first|clear go_|go_quiet (fail));try go_wp2_with (first|(refine bx 10 #[.int .i64 0,.int .i64 0] 58 ?_;intro gb185 hg w58 hbox hb;replace HO_7:=rb HO_7 hb;have BK185:=ak hbox;have GE185:=ak ((by rw[hg];exact(below_size (h1 HB.out GE179.out)):w.heap.size≤gb185));replace HB:=ak (below_step (h1 HB.out GE179.out) hb);have NB179_185:=nl BK179 hg;have NB185_179:=ng BK179 hg;replace BK179:=kb BK179 hb;clear hb hbox hg;have hcz60_0:=bc BK185 0 rfl;have hcz60_1:=bc BK185 1 rfl;have hfz60_0:=bf BK185 0;have hfz60_1:=bf BK185 1)|((with_reducible refine gate_store (t:=58) (p:=10) rfl ?_);(try(rw[drewN_self w58];generalize hq_:World.drewN w58 _=w58;have n0_:=Aside0.mk (R_at hq_ HO_7.out);have n1_:=Aside0.mk (blk_at hq_ BK179.out);have n2_:=Aside0.mk (blk_at hq_ BK185.out);have n3_:=Aside0.mk (below_at hq_ HB.out);clear hq_ HO_7 BK179 BK185 HB;have HO_7:=n0_;have BK179:=n1_;have BK185:=n2_;have HB:=n3_;clear n0_ n1_ n2_ n3_));refine store_event (t:=58) (p:=10) (v:=?vo_w61) (w1:=((w58.setCell ⟨gb185,0,none⟩ (.int .i64 ((rd_T58 l1 x24_2).f0))).setCell ⟨gb185,1,none⟩ (.int .i64 ((rd_T58 l1 x24_2).f1)))) ?hg ?ho ?hn ?hr ?_;(case ho=>rfl);(case hg=>rfl);(case hn=>rfl);(case hr=>first|(go_simp;done)|(go_simp;rfl));intro w61 hw;have n0_:Aside0 (Kd.R (Kd.int .i64) 3 w61 w.heap.size (fun _=>True) (.slice Ao10 x7_2.length co10) x7_2):=⟨(by rw[hw];exact(by(with_reducible repeat(first|apply R_alloc|apply R_drewN|apply R_drew));exact R_mono (R_far (p:=⟨gb185,1,none⟩) (R_far (p:=⟨gb185,0,none⟩) (R_types HO_7.out BK185.out (by decide)) (fun _ hk=>hk.2) (.int .i64 ((rd_T58 l1 x24_2).f0))) (fun _ hk=>hk.2) (.int .i64 ((rd_T58 l1 x24_2).f1))) (fun _ hk=>trivial)))⟩;have n1_:Aside0 (w61.heap[gb179]? =some (.cells #[.int .i64 a0_0,.bool a0_1] 27 (0,0))):=⟨(by rw[hw];exact(by(with_reducible repeat(first|apply blk_drewN|apply blk_drew|apply blk_alloc));refine blk_far ?_ NB179_185.out _;(with_reducible repeat(first|apply blk_drewN|apply blk_drew|apply blk_alloc));refine blk_far ?_ NB179_185.out _;exact bm BK179.out))⟩;have n2_:Aside0 (w61.heap[gb185]? =some (.cells #[.int .i64 ((rd_T58 l1 x24_2).f0),.int .i64 ((rd_T58 l1 x24_2).f1)] 58 (0,0))):=⟨(by rw[hw];exact(by(with_reducible repeat(first|apply blk_drewN|apply blk_drew|apply blk_alloc));refine blk_put (cs:=#[.int .i64 ((rd_T58 l1 x24_2).f0),.int .i64 0]) ?_ 1 _ rfl;(with_reducible repeat(first|apply blk_drewN|apply blk_drew|apply blk_alloc));refine blk_put (cs:=#[.int .i64 0,.int .i64 0]) ?_ 0 _ rfl;exact bm BK185.out))⟩;have n3_:Aside0 (Below w.heap.size w w61):=⟨(by rw[hw];exact(h2 HB.out GE179.out GE185.out))⟩;clear hw;clear HO_7;clear BK179;clear BK185;clear HB;have HO_7:=n0_;have BK179:=n1_;have BK185:=n2_;have HB:=n3_;clear n0_ n1_ n2_ n3_;have p186:0≤((Go.bits .andNot .i64 x19_1 (ji22)):Int):=od;have q186: (Go.bits .andNot .i64 x19_1 (ji22))<(x7_2.length:Int):=od;obtain⟨ad186,e186,hx186_0⟩:=Kd.at_int (R_reads' HO_7.out).2.2 (Go.bits .andNot .i64 x19_1 (ji22)) p186 q186;cases e186;replace p186:=eq_true p186;replace q186:=eq_true q186;have hcz62_0:=bc BK185 0 rfl;have hcz62_1:=bc BK185 1 rfl;have hcz63_0:=bc BK179 0 rfl;have p191:0≤(x19_1:Int):=od;have q191:x19_1<(x7_2.length:Int):=od;obtain⟨ad191,e191,hx191_0⟩:=Kd.at_int (R_reads' HO_7.out).2.2 x19_1 p191 q191;obtain rfl:ad186=ad191:=(by injection e191);replace p191:=eq_true p191;replace q191:=eq_true q191;have p57:0≤(x19_1:Int):=od;have q57: (x19_1:Int)<((x7_2.length:Int):Int):=od;obtain⟨go57,co57,eo57,gb57,gl57,cl57,HG57⟩:=R_form HO_7.out (by omega);(first|cases eo57|(injection eo57 with ea_ en_ ec_;(first|subst ea_|(injection ea_ with ea_;subst ea_));subst ec_;clear en_));have GB57:=Aside0.mk gb57;clear gb57 gl57 HG57;(first|simp only[add_plain]at hx186_0|skip);(first|simp only[add_plain]at hx191_0|skip);obtain⟨hx57_0,hf57_0⟩:=R_celln 0 HO_7.out (x19_1:Int) p57 q57;replace p57:=eq_true p57;replace q57:=eq_true q57;obtain⟨hy64_,hz64_⟩:=R_celln 0 HO_7.out (x19_1:Int) (od) (od);have HP64:=R_putg HO_7.out (x19_1:Int) ji56)|((with_reducible refine gate_store (t:=3) (p:=82) rfl ?_);(try(rw[drewN_self w61];generalize hq_:World.drewN w61 _=w61;have n0_:=Aside0.mk (R_at hq_ HO_7.out);have n1_:=Aside0.mk (blk_at hq_ BK179.out);have n2_:=Aside0.mk (blk_at hq_ BK185.out);have n3_:=Aside0.mk (below_at hq_ HB.out);clear hq_ HO_7 BK179 BK185 HB;have HO_7:=n0_;have BK179:=n1_;have BK185:=n2_;have HB:=n3_;clear n0_ n1_ n2_ n3_;(try(obtain⟨hy64_,hz64_⟩:=R_celln 0 HO_7.out (x19_1:Int) (od) (od)));(try(have HP64:=R_putg HO_7.out (x19_1:Int) ji56))));refine store_event (t:=3) (p:=82) (v:=?vo_w65) (w1:=(w61.setCell ⟨go57,(x19_1:Int).toNat,none⟩ (.int .i64 ji56))) ?hg ?ho ?hn ?hr ?_;(case ho=>rfl);(case hg=>rfl);(case hn=>rfl);(case hr=>first|(go_simp;done)|(go_simp;rfl));intro w65 hw;have hg:w61.grownBy w65 (some go57):=(by rw[hw];exact HP64.2);have hp_:Kd.R (Kd.int .i64) 3 w65 w.heap.size (fun _=>True) (.slice (some ⟨go57,0,none⟩) x7_2.length co10) y192:=(by rw[hw,Ny192.out];exact HP64.1);clear HP64;replace BK179:=ak (blk_grown (g:=gb179) (o:=.cells #[.int .i64 a0_0,.bool a0_1] 27 (0,0)) (bm BK179.out) hg (R_ne HO_7.out BK179.out (by decide)));replace BK185:=ak (blk_grown (g:=gb185) (o:=.cells #[.int .i64 ((rd_T58 l1 x24_2).f0),.int .i64 ((rd_T58 l1 x24_2).f1)] 58 (0,0)) (bm BK185.out) hg (R_ne HO_7.out BK185.out (by decide)));replace HO_7:=ak hp_;replace HB:=ak ((by rw[hw];exact below_set (HB.out) GB57.out:Below w.heap.size w w65));clear hg hw hp_)))
  (try simp only[←hl7_2])
  go_roundg k2
  case measure=>have:=HK1.out;have:=HK2.out;omega
  case rel=>exact⟨(y192),(wrap64 (x24_2+1)),fd,H',⟨by have:=HK1.out;have:=HK2.out;omega⟩,⟨by(try simp only[hl7_1]);(try simp only[hl7_2]);(with_reducible repeat(first|apply R_alloc|apply R_drewN|apply R_drew));exact HO_7.out⟩,⟨by(try simp only[hl7_1]);(try simp only[hl7_2]);exact bm BK179.out⟩,⟨h2 HB.out GE179.out GE185.out⟩⟩
 rw[if_pos c27]at H
 have c27b0:decide ((wrap64 (((rd_T58 l1 x24_2).f0)-a2))≤(ji26))=true:=decide_eq_true c27
 clear c27
 by_cases c28: (wrap64 ((ji26)+((rd_T58 l1 x24_2).f1)))≥(rd x7_2 (Go.bits .andNot .i64 x19_1 (ji22)))
 rotate_left
 ·rw[if_neg c28]at H
  have c28b0:decide ((rd x7_2 (Go.bits .andNot .i64 x19_1 (ji22)))≤(wrap64 ((ji26)+((rd_T58 l1 x24_2).f1))))=false:=decide_eq_false c28
  clear c28
  obtain⟨c42,H⟩:=gi H
  have c42b0:decide (0≤x19_1)=true:=decide_eq_true c42
  clear c42
  obtain⟨c43,H⟩:=gi H
  have c43b0:decide (x19_1<(x7_2.length:Int))=true:=decide_eq_true c43
  (try simp only[hl7_1,hl7_2]at c43b0)
  clear c43
  generalize hji44: (mx (rd x7_2 x19_1) (rd x7_2 (Go.bits .andNot .i64 x19_1 (ji22))))=ji44 at H
  have hji44_: (if(rd x7_2 x19_1)<(rd x7_2 (Go.bits .andNot .i64 x19_1 (ji22)))then(rd x7_2 (Go.bits .andNot .i64 x19_1 (ji22)))else(rd x7_2 x19_1))=ji44:=hji44
  generalize hy190: (x7_2.set (x19_1:Int).toNat (ji44):List Int)=y190 at H
  have Ny190:=ak hy190.symm
  clear hy190
  have H':=Aside0.mk H
  clear H
  have p184:0≤(x24_2:Int):=od
  have q184:x24_2<(l1.length:Int):=od
  obtain⟨ad184,e184,hx184_0,hx184_1⟩:=at_T58 HR1.out x24_2 p184 q184
  cases e184
  replace hx184_0:=hc HB hx184_0
  replace hx184_1:=hc HB hx184_1
  replace p184:=eq_true p184
  replace q184:=eq_true q184
  have go_:=trivial;repeat((first|clear go_|go_quiet (fail));try go_wp2_with (first|(refine bx 10 #[.int .i64 0,.int .i64 0] 58 ?_;intro gb185 hg w46 hbox hb;replace HO_7:=rb HO_7 hb;have BK185:=ak hbox;have GE185:=ak ((by rw[hg];exact(below_size (h1 HB.out GE179.out)):w.heap.size≤gb185));replace HB:=ak (below_step (h1 HB.out GE179.out) hb);have NB179_185:=nl BK179 hg;have NB185_179:=ng BK179 hg;replace BK179:=kb BK179 hb;clear hb hbox hg;have hcz48_0:=bc BK185 0 rfl;have hcz48_1:=bc BK185 1 rfl;have hfz48_0:=bf BK185 0;have hfz48_1:=bf BK185 1)|((with_reducible refine gate_store (t:=58) (p:=10) rfl ?_);(try(rw[drewN_self w46];generalize hq_:World.drewN w46 _=w46;have n0_:=Aside0.mk (R_at hq_ HO_7.out);have n1_:=Aside0.mk (blk_at hq_ BK179.out);have n2_:=Aside0.mk (blk_at hq_ BK185.out);have n3_:=Aside0.mk (below_at hq_ HB.out);clear hq_ HO_7 BK179 BK185 HB;have HO_7:=n0_;have BK179:=n1_;have BK185:=n2_;have HB:=n3_;clear n0_ n1_ n2_ n3_));refine store_event (t:=58) (p:=10) (v:=?vo_w49) (w1:=((w46.setCell ⟨gb185,0,none⟩ (.int .i64 ((rd_T58 l1 x24_2).f0))).setCell ⟨gb185,1,none⟩ (.int .i64 ((rd_T58 l1 x24_2).f1)))) ?hg ?ho ?hn ?hr ?_;(case ho=>rfl);(case hg=>rfl);(case hn=>rfl);(case hr=>first|(go_simp;done)|(go_simp;rfl));intro w49 hw;have n0_:Aside0 (Kd.R (Kd.int .i64) 3 w49 w.heap.size (fun _=>True) (.slice Ao10 x7_2.length co10) x7_2):=⟨(by rw[hw];exact(by(with_reducible repeat(first|apply R_alloc|apply R_drewN|apply R_drew));exact R_mono (R_far (p:=⟨gb185,1,none⟩) (R_far (p:=⟨gb185,0,none⟩) (R_types HO_7.out BK185.out (by decide)) (fun _ hk=>hk.2) (.int .i64 ((rd_T58 l1 x24_2).f0))) (fun _ hk=>hk.2) (.int .i64 ((rd_T58 l1 x24_2).f1))) (fun _ hk=>trivial)))⟩;have n1_:Aside0 (w49.heap[gb179]? =some (.cells #[.int .i64 a0_0,.bool a0_1] 27 (0,0))):=⟨(by rw[hw];exact(by(with_reducible repeat(first|apply blk_drewN|apply blk_drew|apply blk_alloc));refine blk_far ?_ NB179_185.out _;(with_reducible repeat(first|apply blk_drewN|apply blk_drew|apply blk_alloc));refine blk_far ?_ NB179_185.out _;exact bm BK179.out))⟩;have n2_:Aside0 (w49.heap[gb185]? =some (.cells #[.int .i64 ((rd_T58 l1 x24_2).f0),.int .i64 ((rd_T58 l1 x24_2).f1)] 58 (0,0))):=⟨(by rw[hw];exact(by(with_reducible repeat(first|apply blk_drewN|apply blk_drew|apply blk_alloc));refine blk_put (cs:=#[.int .i64 ((rd_T58 l1 x24_2).f0),.int .i64 0]) ?_ 1 _ rfl;(with_reducible repeat(first|apply blk_drewN|apply blk_drew|apply blk_alloc));refine blk_put (cs:=#[.int .i64 0,.int .i64 0]) ?_ 0 _ rfl;exact bm BK185.out))⟩;have n3_:Aside0 (Below w.heap.size w w49):=⟨(by rw[hw];exact(h2 HB.out GE179.out GE185.out))⟩;clear hw;clear HO_7;clear BK179;clear BK185;clear HB;have HO_7:=n0_;have BK179:=n1_;have BK185:=n2_;have HB:=n3_;clear n0_ n1_ n2_ n3_;have p186:0≤((Go.bits .andNot .i64 x19_1 (ji22)):Int):=od;have q186: (Go.bits .andNot .i64 x19_1 (ji22))<(x7_2.length:Int):=od;obtain⟨ad186,e186,hx186_0⟩:=Kd.at_int (R_reads' HO_7.out).2.2 (Go.bits .andNot .i64 x19_1 (ji22)) p186 q186;cases e186;replace p186:=eq_true p186;replace q186:=eq_true q186;have hcz50_0:=bc BK185 0 rfl;have hcz50_1:=bc BK185 1 rfl;have hcz51_0:=bc BK179 0 rfl;have p189:0≤(x19_1:Int):=od;have q189:x19_1<(x7_2.length:Int):=od;obtain⟨ad189,e189,hx189_0⟩:=Kd.at_int (R_reads' HO_7.out).2.2 x19_1 p189 q189;obtain rfl:ad186=ad189:=(by injection e189);replace p189:=eq_true p189;replace q189:=eq_true q189;have p45:0≤(x19_1:Int):=od;have q45: (x19_1:Int)<((x7_2.length:Int):Int):=od;obtain⟨go45,co45,eo45,gb45,gl45,cl45,HG45⟩:=R_form HO_7.out (by omega);(first|cases eo45|(injection eo45 with ea_ en_ ec_;(first|subst ea_|(injection ea_ with ea_;subst ea_));subst ec_;clear en_));have GB45:=Aside0.mk gb45;clear gb45 gl45 HG45;(first|simp only[add_plain]at hx186_0|skip);(first|simp only[add_plain]at hx189_0|skip);obtain⟨hx45_0,hf45_0⟩:=R_celln 0 HO_7.out (x19_1:Int) p45 q45;replace p45:=eq_true p45;replace q45:=eq_true q45;obtain⟨hy52_,hz52_⟩:=R_celln 0 HO_7.out (x19_1:Int) (od) (od);have HP52:=R_putg HO_7.out (x19_1:Int) ji44)|((with_reducible refine gate_store (t:=3) (p:=82) rfl ?_);(try(rw[drewN_self w49];generalize hq_:World.drewN w49 _=w49;have n0_:=Aside0.mk (R_at hq_ HO_7.out);have n1_:=Aside0.mk (blk_at hq_ BK179.out);have n2_:=Aside0.mk (blk_at hq_ BK185.out);have n3_:=Aside0.mk (below_at hq_ HB.out);clear hq_ HO_7 BK179 BK185 HB;have HO_7:=n0_;have BK179:=n1_;have BK185:=n2_;have HB:=n3_;clear n0_ n1_ n2_ n3_;(try(obtain⟨hy52_,hz52_⟩:=R_celln 0 HO_7.out (x19_1:Int) (od) (od)));(try(have HP52:=R_putg HO_7.out (x19_1:Int) ji44))));refine store_event (t:=3) (p:=82) (v:=?vo_w53) (w1:=(w49.setCell ⟨go45,(x19_1:Int).toNat,none⟩ (.int .i64 ji44))) ?hg ?ho ?hn ?hr ?_;(case ho=>rfl);(case hg=>rfl);(case hn=>rfl);(case hr=>first|(go_simp;done)|(go_simp;rfl));intro w53 hw;have hg:w49.grownBy w53 (some go45):=(by rw[hw];exact HP52.2);have hp_:Kd.R (Kd.int .i64) 3 w53 w.heap.size (fun _=>True) (.slice (some ⟨go45,0,none⟩) x7_2.length co10) y190:=(by rw[hw,Ny190.out];exact HP52.1);clear HP52;replace BK179:=ak (blk_grown (g:=gb179) (o:=.cells #[.int .i64 a0_0,.bool a0_1] 27 (0,0)) (bm BK179.out) hg (R_ne HO_7.out BK179.out (by decide)));replace BK185:=ak (blk_grown (g:=gb185) (o:=.cells #[.int .i64 ((rd_T58 l1 x24_2).f0),.int .i64 ((rd_T58 l1 x24_2).f1)] 58 (0,0)) (bm BK185.out) hg (R_ne HO_7.out BK185.out (by decide)));replace HO_7:=ak hp_;replace HB:=ak ((by rw[hw];exact below_set (HB.out) GB45.out:Below w.heap.size w w53));clear hg hw hp_)))
  (try simp only[←hl7_2])
  go_roundg k2
  case measure=>have:=HK1.out;have:=HK2.out;omega
  case rel=>exact⟨(y190),(wrap64 (x24_2+1)),fd,H',⟨by have:=HK1.out;have:=HK2.out;omega⟩,⟨by(try simp only[hl7_1]);(try simp only[hl7_2]);(with_reducible repeat(first|apply R_alloc|apply R_drewN|apply R_drew));exact HO_7.out⟩,⟨by(try simp only[hl7_1]);(try simp only[hl7_2]);exact bm BK179.out⟩,⟨h2 HB.out GE179.out GE185.out⟩⟩
 rw[if_pos c28]at H
 have c28b0:decide ((rd x7_2 (Go.bits .andNot .i64 x19_1 (ji22)))≤(wrap64 ((ji26)+((rd_T58 l1 x24_2).f1))))=true:=decide_eq_true c28
 clear c28
 generalize hji29: (mx (rd x7_2 (Go.bits .andNot .i64 x19_1 (ji22))) (wrap64 ((wrap64 ((ji26)+((rd_T58 l1 x24_2).f1)))+1)))=ji29 at H
 have hji29_: (if(rd x7_2 (Go.bits .andNot .i64 x19_1 (ji22)))<(wrap64 ((wrap64 ((ji26)+((rd_T58 l1 x24_2).f1)))+1))then(wrap64 ((wrap64 ((ji26)+((rd_T58 l1 x24_2).f1)))+1))else(rd x7_2 (Go.bits .andNot .i64 x19_1 (ji22))))=ji29:=hji29
 obtain⟨c30,H⟩:=gi H
 have c30b0:decide (0≤x19_1)=true:=decide_eq_true c30
 clear c30
 obtain⟨c31,H⟩:=gi H
 have c31b0:decide (x19_1<(x7_2.length:Int))=true:=decide_eq_true c31
 (try simp only[hl7_1,hl7_2]at c31b0)
 clear c31
 generalize hji32: (mx (rd x7_2 x19_1) (ji29))=ji32 at H
 have hji32_: (if(rd x7_2 x19_1)<(ji29)then(ji29)else(rd x7_2 x19_1))=ji32:=hji32
 generalize hy188: (x7_2.set (x19_1:Int).toNat (ji32):List Int)=y188 at H
 have Ny188:=ak hy188.symm
 clear hy188
 have H':=Aside0.mk H
 clear H
 have p184:0≤(x24_2:Int):=od
 have q184:x24_2<(l1.length:Int):=od
 obtain⟨ad184,e184,hx184_0,hx184_1⟩:=at_T58 HR1.out x24_2 p184 q184
 cases e184
 replace hx184_0:=hc HB hx184_0
 replace hx184_1:=hc HB hx184_1
 replace p184:=eq_true p184
 replace q184:=eq_true q184
 have go_:=trivial;repeat((first|clear go_|go_quiet (fail));try go_wp2_with (first|(refine bx 10 #[.int .i64 0,.int .i64 0] 58 ?_;intro gb185 hg w34 hbox hb;replace HO_7:=rb HO_7 hb;have BK185:=ak hbox;have GE185:=ak ((by rw[hg];exact(below_size (h1 HB.out GE179.out)):w.heap.size≤gb185));replace HB:=ak (below_step (h1 HB.out GE179.out) hb);have NB179_185:=nl BK179 hg;have NB185_179:=ng BK179 hg;replace BK179:=kb BK179 hb;clear hb hbox hg;have hcz36_0:=bc BK185 0 rfl;have hcz36_1:=bc BK185 1 rfl;have hfz36_0:=bf BK185 0;have hfz36_1:=bf BK185 1)|((with_reducible refine gate_store (t:=58) (p:=10) rfl ?_);(try(rw[drewN_self w34];generalize hq_:World.drewN w34 _=w34;have n0_:=Aside0.mk (R_at hq_ HO_7.out);have n1_:=Aside0.mk (blk_at hq_ BK179.out);have n2_:=Aside0.mk (blk_at hq_ BK185.out);have n3_:=Aside0.mk (below_at hq_ HB.out);clear hq_ HO_7 BK179 BK185 HB;have HO_7:=n0_;have BK179:=n1_;have BK185:=n2_;have HB:=n3_;clear n0_ n1_ n2_ n3_));refine store_event (t:=58) (p:=10) (v:=?vo_w37) (w1:=((w34.setCell ⟨gb185,0,none⟩ (.int .i64 ((rd_T58 l1 x24_2).f0))).setCell ⟨gb185,1,none⟩ (.int .i64 ((rd_T58 l1 x24_2).f1)))) ?hg ?ho ?hn ?hr ?_;(case ho=>rfl);(case hg=>rfl);(case hn=>rfl);(case hr=>first|(go_simp;done)|(go_simp;rfl));intro w37 hw;have n0_:Aside0 (Kd.R (Kd.int .i64) 3 w37 w.heap.size (fun _=>True) (.slice Ao10 x7_2.length co10) x7_2):=⟨(by rw[hw];exact(by(with_reducible repeat(first|apply R_alloc|apply R_drewN|apply R_drew));exact R_mono (R_far (p:=⟨gb185,1,none⟩) (R_far (p:=⟨gb185,0,none⟩) (R_types HO_7.out BK185.out (by decide)) (fun _ hk=>hk.2) (.int .i64 ((rd_T58 l1 x24_2).f0))) (fun _ hk=>hk.2) (.int .i64 ((rd_T58 l1 x24_2).f1))) (fun _ hk=>trivial)))⟩;have n1_:Aside0 (w37.heap[gb179]? =some (.cells #[.int .i64 a0_0,.bool a0_1] 27 (0,0))):=⟨(by rw[hw];exact(by(with_reducible repeat(first|apply blk_drewN|apply blk_drew|apply blk_alloc));refine blk_far ?_ NB179_185.out _;(with_reducible repeat(first|apply blk_drewN|apply blk_drew|apply blk_alloc));refine blk_far ?_ NB179_185.out _;exact bm BK179.out))⟩;have n2_:Aside0 (w37.heap[gb185]? =some (.cells #[.int .i64 ((rd_T58 l1 x24_2).f0),.int .i64 ((rd_T58 l1 x24_2).f1)] 58 (0,0))):=⟨(by rw[hw];exact(by(with_reducible repeat(first|apply blk_drewN|apply blk_drew|apply blk_alloc));refine blk_put (cs:=#[.int .i64 ((rd_T58 l1 x24_2).f0),.int .i64 0]) ?_ 1 _ rfl;(with_reducible repeat(first|apply blk_drewN|apply blk_drew|apply blk_alloc));refine blk_put (cs:=#[.int .i64 0,.int .i64 0]) ?_ 0 _ rfl;exact bm BK185.out))⟩;have n3_:Aside0 (Below w.heap.size w w37):=⟨(by rw[hw];exact(h2 HB.out GE179.out GE185.out))⟩;clear hw;clear HO_7;clear BK179;clear BK185;clear HB;have HO_7:=n0_;have BK179:=n1_;have BK185:=n2_;have HB:=n3_;clear n0_ n1_ n2_ n3_;have p186:0≤((Go.bits .andNot .i64 x19_1 (ji22)):Int):=od;have q186: (Go.bits .andNot .i64 x19_1 (ji22))<(x7_2.length:Int):=od;obtain⟨ad186,e186,hx186_0⟩:=Kd.at_int (R_reads' HO_7.out).2.2 (Go.bits .andNot .i64 x19_1 (ji22)) p186 q186;cases e186;replace p186:=eq_true p186;replace q186:=eq_true q186;have hcz38_0:=bc BK185 0 rfl;have hcz38_1:=bc BK185 1 rfl;have hcz39_0:=bc BK179 0 rfl;have p187:0≤(x19_1:Int):=od;have q187:x19_1<(x7_2.length:Int):=od;obtain⟨ad187,e187,hx187_0⟩:=Kd.at_int (R_reads' HO_7.out).2.2 x19_1 p187 q187;obtain rfl:ad186=ad187:=(by injection e187);replace p187:=eq_true p187;replace q187:=eq_true q187;have p33:0≤(x19_1:Int):=od;have q33: (x19_1:Int)<((x7_2.length:Int):Int):=od;obtain⟨go33,co33,eo33,gb33,gl33,cl33,HG33⟩:=R_form HO_7.out (by omega);(first|cases eo33|(injection eo33 with ea_ en_ ec_;(first|subst ea_|(injection ea_ with ea_;subst ea_));subst ec_;clear en_));have GB33:=Aside0.mk gb33;clear gb33 gl33 HG33;(first|simp only[add_plain]at hx186_0|skip);(first|simp only[add_plain]at hx187_0|skip);obtain⟨hx33_0,hf33_0⟩:=R_celln 0 HO_7.out (x19_1:Int) p33 q33;replace p33:=eq_true p33;replace q33:=eq_true q33;obtain⟨hy40_,hz40_⟩:=R_celln 0 HO_7.out (x19_1:Int) (od) (od);have HP40:=R_putg HO_7.out (x19_1:Int) ji32)|((with_reducible refine gate_store (t:=3) (p:=82) rfl ?_);(try(rw[drewN_self w37];generalize hq_:World.drewN w37 _=w37;have n0_:=Aside0.mk (R_at hq_ HO_7.out);have n1_:=Aside0.mk (blk_at hq_ BK179.out);have n2_:=Aside0.mk (blk_at hq_ BK185.out);have n3_:=Aside0.mk (below_at hq_ HB.out);clear hq_ HO_7 BK179 BK185 HB;have HO_7:=n0_;have BK179:=n1_;have BK185:=n2_;have HB:=n3_;clear n0_ n1_ n2_ n3_;(try(obtain⟨hy40_,hz40_⟩:=R_celln 0 HO_7.out (x19_1:Int) (od) (od)));(try(have HP40:=R_putg HO_7.out (x19_1:Int) ji32))));refine store_event (t:=3) (p:=82) (v:=?vo_w41) (w1:=(w37.setCell ⟨go33,(x19_1:Int).toNat,none⟩ (.int .i64 ji32))) ?hg ?ho ?hn ?hr ?_;(case ho=>rfl);(case hg=>rfl);(case hn=>rfl);(case hr=>first|(go_simp;done)|(go_simp;rfl));intro w41 hw;have hg:w37.grownBy w41 (some go33):=(by rw[hw];exact HP40.2);have hp_:Kd.R (Kd.int .i64) 3 w41 w.heap.size (fun _=>True) (.slice (some ⟨go33,0,none⟩) x7_2.length co10) y188:=(by rw[hw,Ny188.out];exact HP40.1);clear HP40;replace BK179:=ak (blk_grown (g:=gb179) (o:=.cells #[.int .i64 a0_0,.bool a0_1] 27 (0,0)) (bm BK179.out) hg (R_ne HO_7.out BK179.out (by decide)));replace BK185:=ak (blk_grown (g:=gb185) (o:=.cells #[.int .i64 ((rd_T58 l1 x24_2).f0),.int .i64 ((rd_T58 l1 x24_2).f1)] 58 (0,0)) (bm BK185.out) hg (R_ne HO_7.out BK185.out (by decide)));replace HO_7:=ak hp_;replace HB:=ak ((by rw[hw];exact below_set (HB.out) GB33.out:Below w.heap.size w w41));clear hg hw hp_)))
 (try simp only[←hl7_2])
 go_roundg k2
 case measure=>have:=HK1.out;have:=HK2.out;omega
 case rel=>exact⟨(y188),(wrap64 (x24_2+1)),fd,H',⟨by have:=HK1.out;have:=HK2.out;omega⟩,⟨by(try simp only[hl7_1]);(try simp only[hl7_2]);(with_reducible repeat(first|apply R_alloc|apply R_drewN|apply R_drew));exact HO_7.out⟩,⟨by(try simp only[hl7_1]);(try simp only[hl7_2]);exact bm BK179.out⟩,⟨h2 HB.out GE179.out GE185.out⟩⟩
def impl_CanGuard.f (k:Nat) (a0_0:Int) (a0_1:Bool) (l1:List (S58)) (a2:Int):Option (Bool × Bool):=(impl_isGuarded.f k a0_0 a0_1 l1).bind fun t194=>(if t194=true then((impl_isMove.f a2).bind fun t195=>(if t195=true then((impl_Road_canGuard.f k a0_0 a0_1 l1 a2).bind fun t196=>(some (t196,true)))else(some (false,false))))else(some (false,false)))
theorem impl_CanGuard.mono:∀ a0 a1 a2 a3 k,LeO (impl_CanGuard.f k a0 a1 a2 a3) (impl_CanGuard.f (k+1) a0 a1 a2 a3):=by
 intro a0 a1 a2 a3 k
 unfold impl_CanGuard.f
 repeat' (with_reducible first|exact impl_Road_canGuard.mono ..|exact impl_isGuarded.mono ..|exact LeO.refl _|exact LeO.none _|refine LeO.ite ?_ ?_|refine LeO.bind ?_ (fun _=>?_))
set_option maxHeartbeats 8000000 in
set_option maxRecDepth 100000 in
theorem impl_CanGuard.calls (k:Nat) (a0_0:Int) (a0_1:Bool) (A1:Option Addr) (c1:Nat) (l1:List (S58)) (a2:Int) (r1:Bool) (r2:Bool) (w:World) (hr1:Kd.C k58 w A1 l1.length l1) (hc1:l1.length≤c1) (h:impl_CanGuard.f k a0_0 a0_1 l1 a2=some (r1,r2)):
  Calls Try.prog 19 #[.agg #[.int .i64 a0_0,.bool a0_1],.slice A1 l1.length c1,.int .i64 a2] w fun e w'=>e= .returned (.tuple #[.bool r1,.bool r2])∧Below w.heap.size w w':=by
 have HR1:=Aside0.mk hr1
 have HC1:=Aside0.mk hc1
 clear hr1 hc1
 have HB:=Aside0.mk (Below.refl w.heap.size w)
 unfold impl_CanGuard.f at h
 have H:=h
 clear h
 obtain⟨t194,A4,H⟩:=bd H;(try dsimp only at H)
 by_cases c5:t194=true
 rotate_left
 ·replace c5:=Bool.eq_false_iff.mpr c5
  subst c5
  rw[if_neg (show ¬(false=true)by decide)]at H
  simp only[Option.some.injEq,Prod.mk.injEq]at H
  obtain⟨rfl,rfl⟩:=H
  go_enter Try.func19,Try.ntmps19
  go_wp2_with (first|(refine bx 3 #[.int .i64 a0_0,.bool a0_1] 27 ?_;intro gb193 hg w17 hbox hb;have BK193:=ak hbox;have GE193:=gw HB hg;replace HB:=bs HB hb;clear hb hbox hg;have hcz18_0:=bc BK193 0 rfl;have hcz18_1:=bc BK193 1 rfl)|(refine gs 10 Try.func50 #[.agg #[.int .i64 a0_0,.bool a0_1],.slice A1 l1.length c1] ?_;(with_reducible refine(impl_isGuarded.calls k a0_0 a0_1 _ _ l1 false _ ?side1 ?side2 A4.out).mono ?_);(case side1=>exact cm (C_below HR1.out HB.out));(case side2=>exact HC1.out);rintro e w19 ⟨rfl,hb⟩;refine⟨_,rfl,?_⟩;replace BK193:=kb BK193 hb;replace HB:=ak (below_step (h1 HB.out GE193.out) hb);(try clear hb);(try clear hk);(try clear hi)))
  go_ret2
  exact⟨fe,h1 HB.out GE193.out⟩
 subst c5
 rw[if_pos rfl]at H
 obtain⟨t195,A6,H⟩:=bd H;(try dsimp only at H)
 by_cases c7:t195=true
 rotate_left
 ·replace c7:=Bool.eq_false_iff.mpr c7
  subst c7
  rw[if_neg (show ¬(false=true)by decide)]at H
  simp only[Option.some.injEq,Prod.mk.injEq]at H
  obtain⟨rfl,rfl⟩:=H
  go_enter Try.func19,Try.ntmps19
  go_wp2_with (first|(refine bx 3 #[.int .i64 a0_0,.bool a0_1] 27 ?_;intro gb193 hg w14 hbox hb;have BK193:=ak hbox;have GE193:=gw HB hg;replace HB:=bs HB hb;clear hb hbox hg;have hcz15_0:=bc BK193 0 rfl;have hcz15_1:=bc BK193 1 rfl)|(refine gs 10 Try.func50 #[.agg #[.int .i64 a0_0,.bool a0_1],.slice A1 l1.length c1] ?_;(with_reducible refine(impl_isGuarded.calls k a0_0 a0_1 _ _ l1 true _ ?side1 ?side2 A4.out).mono ?_);(case side1=>exact cm (C_below HR1.out HB.out));(case side2=>exact HC1.out);rintro e w16 ⟨rfl,hb⟩;refine⟨_,rfl,?_⟩;replace BK193:=kb BK193 hb;replace HB:=ak (below_step (h1 HB.out GE193.out) hb);(try clear hb);(try clear hk);(try clear hi))|(go_at_call 51;(with_reducible refine(impl_isMove.calls a2 false _ A6.out).mono ?_);rintro e w' ⟨rfl,⟨nd,rfl⟩⟩))
  go_ret2
  exact⟨fe,h1 HB.out GE193.out⟩
 subst c7
 rw[if_pos rfl]at H
 obtain⟨t196,A8,H⟩:=bd H;(try dsimp only at H)
 simp only[Option.some.injEq,Prod.mk.injEq]at H
 obtain⟨rfl,rfl⟩:=H
 go_enter Try.func19,Try.ntmps19
 go_wp2_with (first|(refine bx 3 #[.int .i64 a0_0,.bool a0_1] 27 ?_;intro gb193 hg w9 hbox hb;have BK193:=ak hbox;have GE193:=gw HB hg;replace HB:=bs HB hb;clear hb hbox hg;have hcz10_0:=bc BK193 0 rfl;have hcz10_1:=bc BK193 1 rfl)|(refine gs 10 Try.func50 #[.agg #[.int .i64 a0_0,.bool a0_1],.slice A1 l1.length c1] ?_;(with_reducible refine(impl_isGuarded.calls k a0_0 a0_1 _ _ l1 true _ ?side1 ?side2 A4.out).mono ?_);(case side1=>exact cm (C_below HR1.out HB.out));(case side2=>exact HC1.out);rintro e w11 ⟨rfl,hb⟩;refine⟨_,rfl,?_⟩;replace BK193:=kb BK193 hb;replace HB:=ak (below_step (h1 HB.out GE193.out) hb);(try clear hb);(try clear hk);(try clear hi))|(go_at_call 51;(with_reducible refine(impl_isMove.calls a2 true _ A6.out).mono ?_);rintro e w' ⟨rfl,⟨nd,rfl⟩⟩;have hcz12_0:=bc BK193 0 rfl;have hcz12_1:=bc BK193 1 rfl)|(refine gs 20 Try.func52 #[.agg #[.int .i64 a0_0,.bool a0_1],.slice A1 l1.length c1,.int .i64 a2] ?_;(with_reducible refine(impl_Road_canGuard.calls k a0_0 a0_1 _ _ l1 a2 t196 _ ?side1 ?side2 A8.out).mono ?_);(case side1=>repeat(first|exact(C_below HR1.out (h1 HB.out GE193.out))|(with_reducible refine C_alloc ?_ _)|(with_reducible refine C_drewN ?_ _)|(with_reducible refine C_drew ?_)));(case side2=>exact HC1.out);rintro e w13 ⟨rfl,hb⟩;refine⟨_,rfl,?_⟩;replace BK193:=kb BK193 hb;replace HB:=ak (below_step (h1 HB.out GE193.out) hb);(try clear hb);(try clear hk);(try clear hi)))
 go_ret2
 exact⟨fe,h1 HB.out GE193.out⟩
end
end Go.Proofs.Ytanfamfgdgcjpaa.QFnMoves
