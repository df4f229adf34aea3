/- Functions that the law FnReaches comes to, and their walks: no condition but those named. -/
import Derived.Test.YthagkpoinjpmfaaQFnReachesx0
import Derived.Test.YthagkpoinjpmfaaQFnReachesx1
import Derived.Test.YthagkpoinjpmfaaQFnReachesx2
namespace Go.Proofs.Ythagkpoinjpmfaa.QFnReaches
open Go.RowKit Go.Proofs.YthagkpoinjpmfaaW.PrintWords Go.Proofs.YthagkpoinjpmfaaW.PrintLast Go.Proofs.YthagkpoinjpmfaaW.PrintMore Go.Proofs.Ythagkpoinjpmfaa.Short
attribute [local go_sem] max2_int min2_int max_two min_two max_three min_three max_four min_four
set_option linter.unusedVariables false
set_option linter.unusedSimpArgs false
section
open Kd
mutual
def spec_l7Table.l0:Nat→List (S63)→Int→List Int→Int→Int→Bool→Option (List Int)
 | 0,_,_,_,_,_,_=>none
 | k+1,x1,x2,x7,x8,x135000,x135001=>if x8<(shl .i64 1 (x1.length:Int))then(spec_l7Table.l1 k x1 x2 x7 x8 x2 0 x135000 x135001)else(some x7)
def spec_l7Table.l1:Nat→List (S63)→Int→List Int→Int→Int→Int→Int→Bool→Option (List Int)
 | 0,_,_,_,_,_,_,_,_=>none
 | k+1,x1,x2,x7,x8,x9,x10,x135000,x135001=>if x10<(x1.length:Int)then(if 0≤x10 then(if(Go.bits .and .i64 (shr .i64 x8 x10) 1)=1 then(if 0≤(wrap64 (x8-(shl .i64 1 x10)))then(if(wrap64 (x8-(shl .i64 1 x10)))<(x7.length:Int)then((spec_l7Reach.f k x135000 x135001 x1 (([x10]:List Int)) (rd x7 (wrap64 (x8-(shl .i64 1 x10))))).bind fun t145=>((spec_l1Most.f x9 t145).bind fun t146=>(spec_l7Table.l1 k x1 x2 x7 x8 t146 (wrap64 (x10+1)) x135000 x135001)))else(none))else(none))else(spec_l7Table.l1 k x1 x2 x7 x8 x9 (wrap64 (x10+1)) x135000 x135001))else(none))else(if x7.length<17592186044416 then(spec_l7Table.l0 k x1 x2 (x7++[x9]) (wrap64 (x8+1)) x135000 x135001)else(none))
end
def spec_l7Table.f (k:Nat) (a0_0:Int) (a0_1:Bool) (l1:List (S63)) (a2:Int):Option (List Int):=spec_l7Table.l0 k l1 a2 (([]:List Int)) 0 a0_0 a0_1
theorem spec_l7Table.mono_l:∀ k,(∀ y0 y1 y2 y3 y4 y5,LeO (spec_l7Table.l0 k y0 y1 y2 y3 y4 y5) (spec_l7Table.l0 (k+1) y0 y1 y2 y3 y4 y5))∧(∀ y0 y1 y2 y3 y4 y5 y6 y7,LeO (spec_l7Table.l1 k y0 y1 y2 y3 y4 y5 y6 y7) (spec_l7Table.l1 (k+1) y0 y1 y2 y3 y4 y5 y6 y7))
 | 0=>by
  refine⟨?_,?_⟩<;>(intros;intro r h;simp[spec_l7Table.l0,spec_l7Table.l1]at h)
 | k+1=>by
  obtain⟨ih0,ih1⟩:=spec_l7Table.mono_l k
  refine⟨?_,?_⟩<;>intros<;>(first|unfold spec_l7Table.l0|unfold spec_l7Table.l1)<;>(repeat' (with_reducible first|exact ih0 ..|exact ih1 ..|exact spec_l7Reach.mono ..|exact LeO.refl _|exact LeO.none _|refine LeO.ite ?_ ?_|refine LeO.bind ?_ (fun _=>?_)))
theorem spec_l7Table.mono:∀ a0 a1 a2 a3 k,LeO (spec_l7Table.f k a0 a1 a2 a3) (spec_l7Table.f (k+1) a0 a1 a2 a3):=by
 intro a0 a1 a2 a3 k
 obtain⟨ih0,ih1⟩:=spec_l7Table.mono_l k
 unfold spec_l7Table.f
 repeat' (with_reducible first|exact ih0 ..|exact ih1 ..|exact spec_l7Reach.mono ..|exact LeO.refl _|exact LeO.none _|refine LeO.ite ?_ ?_|refine LeO.bind ?_ (fun _=>?_))
def spec_l7Table.T10:Bool × List (List Nat × List Nat):=(true,[([],[]),([],[]),([],[]),([],[]),([3],[3]),([],[]),([],[]),([],[]),([7],[7]),([6,8],[6,8]),([5,9],[5,9]),([10],[10]),([1,2,4,11],[1,2,4,11]),([0,12,12],[0,12]),([13,13,0,1,2,3,4,5,6,7,8,9,10,11,12,13],[0,13])])
def spec_l7Table.B10:List Nat:=[0,0,0,0,8,0,0,0,128,448,992,2016,4094,8191,16383]
theorem spec_l7Table.tab10:rtab .any (opsOf Try.f56 10)=spec_l7Table.T10:=by kernel_rfl
theorem spec_l7Table.bits10:waitsOk spec_l7Table.T10.2 spec_l7Table.B10=true:=by kernel_rfl
set_option maxHeartbeats 8000000 in
set_option maxRecDepth 100000 in
theorem spec_l7Table.calls (k:Nat) (a0_0:Int) (a0_1:Bool) (A1:Option Addr) (c1:Nat) (l1:List (S63)) (a2:Int) (r:List Int) (w:World) (hr1:Kd.C k63 w A1 l1.length l1) (hc1:l1.length≤c1) (h:spec_l7Table.f k a0_0 a0_1 l1 a2=some r):
  Calls Try.prog 56 #[.agg #[.int .i64 a0_0,.bool a0_1],.slice A1 l1.length c1,.int .i64 a2] w fun e w'=>∃ v0_:Value,e= .returned (v0_)∧Kd.R (Kd.int .i64) 3 w' w.heap.size (fun _=>True) v0_ r∧Below w.heap.size w w':=by
 have hu28:=Try.underlying28
 have HR1:=Aside0.mk hr1
 have HC1:=Aside0.mk hc1
 clear hr1 hc1
 have HB:=Aside0.mk (Below.refl w.heap.size w)
 unfold spec_l7Table.f at h
 have H:=h
 clear h
 generalize hy135: ([]:List Int)=y135 at H
 have Ny135:=ak hy135.symm
 clear hy135
 have H':=Aside0.mk H
 clear H
 go_enter Try.func56,Try.ntmps56
 go_wp2_with (first|(refine bx 3 #[.int .i64 a0_0,.bool a0_1] 28 ?_;intro gb134 hg w4 hbox hb;have BK134:=ak hbox;have GW134:=gw HB hg;have GE134:=gw HB hg;replace HB:=bs HB hb;clear hb hbox hg)|((with_reducible refine gate_dst (N:=11) rfl ?_);refine R_lit (Kd.int .i64) _ 3 ?hg (N:=11) ?hd (xs:=([]:List Int)) (inner:=[]) (ok:=fun _=>True) (okp:=fun _=>True) ?hr ?hp (fun _ hk=>hk) trivial (Below.refl _ _) (Nat.le_refl _) (by simp) ?_;(case hd=>rfl);(case hg=>rfl);(case hr=>first|(go_simp;done)|(go_simp;rfl));(case hp=>exact(Reps.none _ _));intro v136 w5 ho6 hb hg_ hnew_;clear hg_ hnew_;(first|rw[←Ny135.out]at ho6|(simp only[Int.reduceToNat]at ho6;rw[←Ny135.out]at ho6));have HO137:=ak (R_lower ho6 (below_size (h1 HB.out GE134.out)));replace BK134:=kb BK134 hb;replace HB:=ak (below_step (h1 HB.out GE134.out) hb);clear hb ho6))
 go_loopg [7,8] k (fun kq v7 v8 w'=>∃ (x7_1:List Int) (x8_1:Int),v8= .int .i64 x8_1∧Aside0 (spec_l7Table.l0 kq l1 a2 x7_1 x8_1 a0_0 a0_1=some r)∧Aside0 (kq≤k)∧Aside0 (Kd.R (Kd.int .i64) 3 w' w.heap.size (fun _=>True) v7 x7_1)∧Aside0 (w'.heap[gb134]? =some (.cells #[.int .i64 a0_0,.bool a0_1] 28 (0,0)))∧Aside0 (Below w.heap.size w w'))
 case atStart=>exact⟨(y135),(0),fd,H',⟨Nat.le_refl _⟩,⟨rm HO137.out⟩,⟨bm BK134.out⟩,⟨h1 HB.out GE134.out⟩⟩
 clear H'
 try clear c1
 try clear p2
 try clear c5
 obtain⟨x7_1,x8_1,rfl,HA,HK1,HO_7,BK134,HB⟩:=hrel
 obtain _|k1:=gk;·cases HA.out
 obtain⟨H⟩:=HA
 simp only[spec_l7Table.l0]at H
 generalize hji7: (shl .i64 1 (l1.length:Int))=ji7 at H
 have hji7_: (IntKind.i64.wrap (1*2^min (l1.length:Int).toNat 64))=ji7:=hji7
 have hji7z: (l1.length:Int)≤64→(IntKind.i64.wrap (1*2^ (l1.length:Int).toNat))=ji7:=shl_small hji7
 have hji7p: (IntKind.i64.wrap (1*2^min l1.length 64))=ji7:=hji7_
 have hji7q: (l1.length:Int)≤64→(IntKind.i64.wrap (1*2^l1.length))=ji7:=hji7z
 have hji7r: (IntKind.i64.wrap (2^min l1.length 64))=ji7:=by have h_:=hji7p;rw[Int.one_mul]at h_;exact h_
 have hji7s: (l1.length:Int)≤64→(IntKind.i64.wrap (2^l1.length))=ji7:=fun hle_=>by have h_:=hji7q hle_;rw[Int.one_mul]at h_;exact h_
 have hji7u: (IntKind.i64.wrap (2^min (l1.length:Int).toNat 64))=ji7:=by have h_:=hji7_;rw[Int.one_mul]at h_;exact h_
 have hji7v: (l1.length:Int)≤64→(IntKind.i64.wrap (2^ (l1.length:Int).toNat))=ji7:=fun hle_=>by have h_:=hji7z hle_;rw[Int.one_mul]at h_;exact h_
 have hji7y: (wrap64 (1*2^min (l1.length:Int).toNat 64))=ji7:=(i64_w _).symm.trans hji7_
 have hji7x: (l1.length:Int)≤64→(wrap64 (1*2^ (l1.length:Int).toNat))=ji7:=fun h_=>(i64_w _).symm.trans (hji7z h_)
 by_cases c8:x8_1<(ji7)
 rotate_left
 ·rw[if_neg c8]at H
  have c8b0:decide (x8_1<(ji7))=false:=decide_eq_false c8
  clear c8
  obtain rfl:=Option.some.inj H
  go_wp2
  go_ret
  exact⟨_,by first|rfl|(simp[errW_none,errW_some]<;>rfl)|(simp only[←hji7];first|rfl|(simp[errW_none,errW_some]<;>rfl))|(simp[*,errW_none,errW_some]<;>rfl),rm HO_7.out,h1 HB.out GE134.out⟩
 rw[if_pos c8]at H
 have c8b0:decide (x8_1<(ji7))=true:=decide_eq_true c8
 clear c8
 have H':=Aside0.mk H
 clear H
 go_wp2
 go_loopg [9,10] k1 (fun kq v9 v10 w'=>∃ (x9_2:Int) (x10_2:Int),v9= .int .i64 x9_2∧v10= .int .i64 x10_2∧Aside0 (spec_l7Table.l1 kq l1 a2 x7_1 x8_1 x9_2 x10_2 a0_0 a0_1=some r)∧Aside0 (kq≤k1)∧Aside0 (Kd.R (Kd.int .i64) 3 w' w.heap.size (fun _=>True) u7 x7_1)∧Aside0 (w'.heap[gb134]? =some (.cells #[.int .i64 a0_0,.bool a0_1] 28 (0,0)))∧Aside0 (Below w.heap.size w w'))
 case atStart=>exact⟨(a2),(0),fd,fd,H',⟨Nat.le_refl _⟩,⟨rm HO_7.out⟩,⟨bm BK134.out⟩,⟨h1 HB.out GE134.out⟩⟩
 clear H'
 try clear c1
 try clear p2
 try clear c5
 try clear p6
 try clear c8
 try clear c8b0
 try clear p2
 obtain⟨x9_2,x10_2,rfl,rfl,HA,HK2,HO_7,BK134,HB⟩:=hrel
 obtain _|k2:=gk;·cases HA.out
 obtain⟨H⟩:=HA
 simp only[spec_l7Table.l1]at H
 by_cases c9:x10_2<(l1.length:Int)
 rotate_left
 ·rw[if_neg c9]at H
  have c9b0:decide (x10_2<(l1.length:Int))=false:=decide_eq_false c9
  clear c9
  obtain⟨c26,H⟩:=gi H
  have LMc26:=Aside0.mk c26
  clear c26
  generalize hy138: (x7_1++[x9_2]:List Int)=y138 at H
  have Ny138:=ak hy138.symm
  clear hy138
  have H':=Aside0.mk H
  clear H
  go_wp2_with (first|((with_reducible refine gate_builtin (b:=.append) (xs:=#[.tmp 45,.tmp 47]) rfl ?_);at_builtin;refine R_append (Kd.int .i64) (w0:=w) w.heap.size rfl (.tmp 45) (.tmp 47) 40 3 (.int .i64 0) 8 rfl Try.underlying40 info3 rfl (by decide) (by omega) u7 x7_1 x9_2 [.int .i64 x9_2] (fun _=>True) (fun _=>False) rfl rfl ?aP (fun _ hk=>hk.elim) ?aF ?aO ?aB ?aS ?aL ?_;(case aP=>exact rfl);(case aB=>exact(h1 HB.out GE134.out));(case aF=>exact(fun _ _=>trivial));(case aO=>exact(rm HO_7.out));(case aS=>exact(below_size (h1 HB.out GE134.out)));(case aL=>have:=LMc26.out;omega);intro v139 w27 ho hb hg hat;rw[←Ny138.out]at ho;replace BK134:=ak (blk_grown (g:=gb134) (o:=.cells #[.int .i64 a0_0,.bool a0_1] 28 (0,0)) (bm BK134.out) hg (R_ne HO_7.out BK134.out (by decide)));replace HB:=ak hb;have HO140:=ak ho;clear HO_7;clear ho hb hg hat))
  go_roundg k2
  case measure=>have:=HK1.out;have:=HK2.out;omega
  case rel=>exact⟨(y138),(wrap64 (x8_1+1)),fd,H',⟨by have:=HK1.out;have:=HK2.out;omega⟩,⟨rm HO140.out⟩,⟨bm BK134.out⟩,⟨h1 HB.out GE134.out⟩⟩
 rw[if_pos c9]at H
 have c9b0:decide (x10_2<(l1.length:Int))=true:=decide_eq_true c9
 clear c9
 obtain⟨c10,H⟩:=gi H
 have c10b0:=eq_true c10
 have c10b1:decide (0≤x10_2)=true:=decide_eq_true c10
 clear c10
 generalize hji11: (shr .i64 x8_1 x10_2)=ji11 at H
 have hji11_: (x8_1/ 2^min x10_2.toNat 64)=ji11:=hji11
 have hji11z:x10_2≤64→(x8_1/ 2^x10_2.toNat)=ji11:=shr_small hji11
 by_cases c12: (Go.bits .and .i64 (ji11) 1)=1
 rotate_left
 ·rw[if_neg c12]at H
  have c12b0: ((Go.bits .and .i64 (ji11) 1)==1)=false:=beq_eq_false_iff_ne.mpr c12
  have c12b1: ((Go.bits .and .i64 (ji11) 1) !=1)=true:=bne_iff_ne.mpr c12
  have H':=Aside0.mk H
  clear H
  go_wp2
  go_roundg k2
  case measure=>have:=HK1.out;have:=HK2.out;omega
  case rel=>exact⟨(x9_2),(wrap64 (x10_2+1)),fd,fd,H',⟨by have:=HK1.out;have:=HK2.out;omega⟩,⟨rm HO_7.out⟩,⟨bm BK134.out⟩,⟨h1 HB.out GE134.out⟩⟩
 rw[if_pos c12]at H
 have c12b0: ((Go.bits .and .i64 (ji11) 1)==1)=true:=beq_iff_eq.mpr c12
 have c12b1: ((Go.bits .and .i64 (ji11) 1) !=1)=false:=bne_eq_false_iff_eq.mpr c12
 clear c12
 generalize hy141: ([x10_2]:List Int)=y141 at H
 have Ny141:=ak hy141.symm
 clear hy141
 have c13b0:=eq_true (od:0≤x10_2)
 generalize hji14: (shl .i64 1 x10_2)=ji14 at H
 have hji14_: (IntKind.i64.wrap (1*2^min x10_2.toNat 64))=ji14:=hji14
 have hji14z:x10_2≤64→(IntKind.i64.wrap (1*2^x10_2.toNat))=ji14:=shl_small hji14
 have hji14u: (IntKind.i64.wrap (2^min x10_2.toNat 64))=ji14:=by have h_:=hji14_;rw[Int.one_mul]at h_;exact h_
 have hji14v:x10_2≤64→(IntKind.i64.wrap (2^x10_2.toNat))=ji14:=fun hle_=>by have h_:=hji14z hle_;rw[Int.one_mul]at h_;exact h_
 have hji14y: (wrap64 (1*2^min x10_2.toNat 64))=ji14:=(i64_w _).symm.trans hji14_
 have hji14x:x10_2≤64→(wrap64 (1*2^x10_2.toNat))=ji14:=fun h_=>(i64_w _).symm.trans (hji14z h_)
 generalize hji15: (wrap64 (x8_1-(ji14)))=ji15 at H
 have hji15w: (IntKind.i64.wrap (x8_1-(ji14)))=ji15:=(i64_w _).trans hji15
 obtain⟨c16,H⟩:=gi H
 have c16b0:decide (0≤(ji15))=true:=decide_eq_true c16
 clear c16
 obtain⟨c17,H⟩:=gi H
 have c17b0:decide ((ji15)<(x7_1.length:Int))=true:=decide_eq_true c17
 clear c17
 obtain⟨t145,A18,H⟩:=bd H;(try dsimp only at H)
 obtain⟨t146,A19,H⟩:=bd H;(try dsimp only at H)
 have H':=Aside0.mk H
 clear H
 try go_wp2
 replace HO_7:=ak (R_drew HO_7.out)
 replace BK134:=ak (blk_drew BK134.out)
 replace HB:=ak (below_drew1 HB.out)
 obtain⟨Ao21,co21,eo21⟩:=R_slice HO_7.out
 (first|subst eo21|(injection eo21 with f1_ f2_ f3_;have f4_:=f1_.symm;have f5_:=f3_.symm;clear f1_ f2_ f3_;subst f4_;subst f5_))
 have p144:0≤((ji15):Int):=od
 have q144: (ji15)<(x7_1.length:Int):=od
 obtain⟨ad144,e144,hx144_0⟩:=Kd.at_int (R_reads' HO_7.out).2.2 (ji15) p144 q144
 cases e144
 replace p144:=eq_true p144
 replace q144:=eq_true q144
 refine start_ (n:=15) (S:=fun w'=>w'.cell? ⟨gb134,0,none⟩=some (.int .i64 a0_0)∧w'.cell? ⟨gb134,1,none⟩=some (.bool a0_1)∧w'.cell? (ad144.add ((ji15)).toNat)=some (.int .i64 (rd x7_1 (ji15)))) (ds:=[]) (lb 15 0) (by kernel_rfl) rfl rfl ⟨bc BK134 0 rfl,bc BK134 1 rfl,hx144_0⟩ (fun hHeld=>?_);refine with_tabW spec_l7Table.tab10 spec_l7Table.bits10 (fun HT_ HW_=>?_)
 generalize wr.drew=w20 at HO_7 BK134 HB hx144_0 hHeld⊢
 refine pq 0 (N:=some 31) (lb 15 1) HT_ ?_
 refine pq 2 (N:=some 33) (lb 15 5) HT_ ?_
 refine pq 3 (N:=some 34) (lb 15 13) HT_ ?_
 refine pq 5 (N:=some 36) (lb 15 45) HT_ ?_
 refine pq 6 (N:=some 37) (lb 15 109) HT_ ?_
 refine pq 7 (N:=some 38) (lb 15 237) HT_ ?_
 refine pq 8 (N:=some 39) (lb 15 493) HT_ ?_
 refine pq 9 (N:=some 40) (lb 15 1005) HT_ ?_
 refine pq 10 (N:=some 41) (lb 15 2029) HT_ ?_
 refine tq 1 (N:=some 32) (lb 15 2031) HT_ HW_ hHeld ?_
 refine tq 11 (N:=some 42) (lb 15 4079) HT_ HW_ hHeld ?_
 refine one_ (i:=4) (N:=some 35) (lb 15 4095) rfl rfl (one_of HT_.out (by kernel_rfl)) (by decide) (fun K hK=>?_)
 refine R_lit_step (Kd.int .i64) _ 3 ?hg (N:=35) ?hd (xs:=([x10_2]:List Int)) (inner:=[.int .i64 x10_2]) (ok:=fun _=>True) (okp:=fun _=>True) ?hr ?hp (fun _ hk=>hk) trivial (Below.refl _ _) (Nat.le_refl _) (by simp) ?_;(case hd=>rfl);(case hg=>rfl);(case hr=>first|(go_simp;done)|(go_simp;rfl));(case hp=>exact(Reps.one (show Kd.M (Kd.int .i64) _ _ _ x10_2 [.int .i64 x10_2]from rfl) (Reps.none _ _)))
 intro v142 w22 ho23 hb hg_ hnew_
 have HS2_:=(hb.cell (World.block_lt_of_cell? _ _ (hHeld.2.2))).trans (hHeld.2.2)
 clear hg_ hnew_
 (first|rw[←Ny141.out]at ho23|(simp only[Int.reduceToNat]at ho23;rw[←Ny141.out]at ho23))
 have HO143:=ak (R_lower (R_new' ho23 (R_lt (rm HO_7.out))) (below_size (h1 HB.out GE134.out)))
 replace HO_7:=ak (R_elder' (rm HO_7.out) (R_base ho23) hb)
 replace BK134:=kb BK134 hb
 replace HB:=ak (below_step (h1 HB.out GE134.out) hb)
 clear hb ho23
 obtain⟨Ao24,co24,eo24⟩:=R_slice HO143.out
 (first|subst eo24|(injection eo24 with f1_ f2_ f3_;have f4_:=f1_.symm;have f5_:=f3_.symm;clear f1_ f2_ f3_;subst f4_;subst f5_))
 refine hK.out _ _ ⟨bc BK134 0 rfl,bc BK134 1 rfl,HS2_⟩ (fun hHeld=>?_)
 clear hK K
 refine norm_ (a':=?_) ?_ ?_
 rotate_left
 ·show Act.put _ (some 35) _=_
  simp only[ap]
  rfl
 refine one_ (i:=12) (N:=some 43) (lb 15 8191) rfl rfl (one_of HT_.out (by kernel_rfl)) (by decide) (fun K hK=>?_)
 refine goes_ Try.func72 (by kernel_rfl) rfl #[.agg #[.int .i64 a0_0,.bool a0_1],.slice A1 l1.length c1,.slice Ao24 y141.length co24,.int .i64 (rd x7_1 (ji15))] (by rfl) rfl rfl (by(try simp only[List.map_toArray,List.map_cons,List.map_nil]);first|done|(simp only[hji15];rfl)|rfl|(simp only[List.length_drop,List.length_take];rfl)) ?_
 with_reducible refine(spec_l7Reach.calls k2 a0_0 a0_1 _ _ l1 _ _ y141 (rd x7_1 (ji15)) t145 _ ?side1 ?side2 ?side3 ?side4 A18.out).mono ?_
 (case side1=>exact cm (C_below HR1.out HB.out))
 (case side2=>exact HC1.out)
 (case side3=>exact cm (R_reads' HO143.out).2.2)
 (case side4=>exact(R_reads' HO143.out).2.1)
 rintro e w25 ⟨rfl,hb⟩
 have HS2_:=(hb.cell (World.block_lt_of_cell? _ _ (hHeld.2.2))).trans (hHeld.2.2)
 refine⟨_,rfl,?_⟩
 replace HO_7:=rb HO_7 hb
 replace HO143:=rb HO143 hb
 replace BK134:=kb BK134 hb
 replace HB:=ak (below_step (h1 HB.out GE134.out) hb)
 (try clear hb)
 (try clear hb2)
 (try clear hk)
 (try clear hi)
 refine hK.out _ _ ⟨bc BK134 0 rfl,bc BK134 1 rfl,HS2_⟩ (fun hHeld=>?_)
 clear hK K
 refine norm_ (a':=?_) ?_ ?_
 rotate_left
 ·show Act.put _ (some 43) _=_
  simp only[ap]
  rfl
 refine one_ (i:=13) (N:=some 44) (lb 15 16383) rfl rfl (one_of HT_.out (by kernel_rfl)) (by decide) (fun K hK=>?_)
 refine goes_ Try.func101 (by kernel_rfl) rfl #[.int .i64 x9_2,.int .i64 t145] (by rfl) rfl rfl gl ?_
 with_reducible refine(spec_l1Most.calls x9_2 t145 t146 _ A19.out).mono ?_
 rintro e w' ⟨rfl,⟨nd,rfl⟩⟩
 refine⟨_,rfl,?_⟩
 refine hK.out _ _ ⟨bc BK134 0 rfl,bc BK134 1 rfl,hHeld.2.2⟩ (fun hHeld=>?_)
 clear hK K
 refine norm_ (a':=?_) ?_ ?_
 rotate_left
 ·show Act.put _ (some 44) _=_
  simp only[ap]
  rfl
 refine pq 14 (N:=some 9) (lb 15 32767) HT_ ?_
 refine done_ (done_of HT_.out (by kernel_rfl)) ?_
 try go_wp2
 go_roundg k2
 case measure=>have:=HK1.out;have:=HK2.out;omega
 case rel=>exact⟨(t146),(wrap64 (x10_2+1)),fd,fd,H',⟨by have:=HK1.out;have:=HK2.out;omega⟩,⟨rm (R_mono HO_7.out (fun _ hk=>trivial))⟩,⟨bm BK134.out⟩,⟨h1 HB.out GE134.out⟩⟩
def spec_l7Told.f (a0:Int):Option (Int × Bool):=(spec_l1Most.f a0 0).bind fun t147=>(some (t147,decide (a0≥0)))
set_option maxHeartbeats 8000000 in
set_option maxRecDepth 100000 in
theorem spec_l7Told.calls (a0:Int) (r1:Int) (r2:Bool) (w:World) (h:spec_l7Told.f a0=some (r1,r2)):
  Calls Try.prog 57 #[.int .i64 a0] w fun e w'=>e= .returned (.tuple #[.int .i64 r1,.bool r2])∧Drawn0 w w':=by
 unfold spec_l7Told.f at h
 have H:=h
 clear h
 obtain⟨t147,A2,H⟩:=bd H;(try dsimp only at H)
 simp only[Option.some.injEq,Prod.mk.injEq]at H
 obtain⟨rfl,rfl⟩:=H
 go_enter Try.func57,Try.ntmps57
 go_wp2_with (first|(refine gs 5 Try.func101 #[.int .i64 a0,.int .i64 0] ?_;(with_reducible refine(spec_l1Most.calls a0 0 t147 _ A2.out).mono ?_);rintro e w' ⟨rfl,⟨nd,rfl⟩⟩;refine⟨_,rfl,?_⟩))
 go_ret2
 exact⟨by first|rfl|(simp;done)|(simp[*];done),by repeat(first|exact Drawn0.refl _|apply Drawn0.step)⟩
mutual
def spec_FewestCarriers.l0:Nat→List (S63)→Int→List Int→Int→Int→Option (Int × Bool)
 | 0,_,_,_,_,_=>none
 | k+1,x1,x3,x10,x11,x12=>if x12<(x10.length:Int)then(spec_FewestCarriers.l1 k x1 x3 x10 x11 x12 0 0)else((spec_l7Told.f x11).bind fun bt153=>(some (bt153.1,bt153.2)))
def spec_FewestCarriers.l1:Nat→List (S63)→Int→List Int→Int→Int→Int→Int→Option (Int × Bool)
 | 0,_,_,_,_,_,_,_=>none
 | k+1,x1,x3,x10,x11,x12,x13,x14=>if x14<(x1.length:Int)then(if 0≤x14 then(spec_FewestCarriers.l1 k x1 x3 x10 x11 x12 (wrap64 (x13+(Go.bits .and .i64 (shr .i64 x12 x14) 1))) (wrap64 (x14+1)))else(none))else(if 0≤x12 then(if x12<(x10.length:Int)then(if(rd x10 x12)≥x3 then(if x11<0 then(spec_FewestCarriers.l0 k x1 x3 x10 x13 (wrap64 (x12+1)))else(if x13<x11 then(spec_FewestCarriers.l0 k x1 x3 x10 x13 (wrap64 (x12+1)))else(spec_FewestCarriers.l0 k x1 x3 x10 x11 (wrap64 (x12+1)))))else(spec_FewestCarriers.l0 k x1 x3 x10 x11 (wrap64 (x12+1))))else(none))else(none))
end
def spec_FewestCarriers.f (k:Nat) (a0_0:Int) (a0_1:Bool) (l1:List (S63)) (a2:Int) (a3:Int):Option (Int × Bool):=(spec_l7Asks.f k a0_0 a0_1 l1 a2 a3).bind fun t149=>(if t149=true then((spec_l7Table.f k a0_0 a0_1 l1 a2).bind fun t150=>(spec_FewestCarriers.l0 k l1 a3 t150 (-1) 0))else(some (0,false)))
theorem spec_FewestCarriers.mono_l:∀ k,(∀ y0 y1 y2 y3 y4,LeO (spec_FewestCarriers.l0 k y0 y1 y2 y3 y4) (spec_FewestCarriers.l0 (k+1) y0 y1 y2 y3 y4))∧(∀ y0 y1 y2 y3 y4 y5 y6,LeO (spec_FewestCarriers.l1 k y0 y1 y2 y3 y4 y5 y6) (spec_FewestCarriers.l1 (k+1) y0 y1 y2 y3 y4 y5 y6))
 | 0=>by
  refine⟨?_,?_⟩<;>(intros;intro r h;simp[spec_FewestCarriers.l0,spec_FewestCarriers.l1]at h)
 | k+1=>by
  obtain⟨ih0,ih1⟩:=spec_FewestCarriers.mono_l k
  refine⟨?_,?_⟩<;>intros<;>(first|unfold spec_FewestCarriers.l0|unfold spec_FewestCarriers.l1)<;>(repeat' (with_reducible first|exact ih0 ..|exact ih1 ..|exact spec_l7Asks.mono ..|exact spec_l7Table.mono ..|exact LeO.refl _|exact LeO.none _|refine LeO.ite ?_ ?_|refine LeO.bind ?_ (fun _=>?_)))
theorem spec_FewestCarriers.mono:∀ a0 a1 a2 a3 a4 k,LeO (spec_FewestCarriers.f k a0 a1 a2 a3 a4) (spec_FewestCarriers.f (k+1) a0 a1 a2 a3 a4):=by
 intro a0 a1 a2 a3 a4 k
 obtain⟨ih0,ih1⟩:=spec_FewestCarriers.mono_l k
 unfold spec_FewestCarriers.f
 repeat' (with_reducible first|exact ih0 ..|exact ih1 ..|exact spec_l7Asks.mono ..|exact spec_l7Table.mono ..|exact LeO.refl _|exact LeO.none _|refine LeO.ite ?_ ?_|refine LeO.bind ?_ (fun _=>?_))
set_option maxHeartbeats 8000000 in
set_option maxRecDepth 100000 in
theorem spec_FewestCarriers.calls (k:Nat) (a0_0:Int) (a0_1:Bool) (A1:Option Addr) (c1:Nat) (l1:List (S63)) (a2:Int) (a3:Int) (r1:Int) (r2:Bool) (w:World) (hr1:Kd.C k63 w A1 l1.length l1) (hc1:l1.length≤c1) (h:spec_FewestCarriers.f k a0_0 a0_1 l1 a2 a3=some (r1,r2)):
  Calls Try.prog 11 #[.agg #[.int .i64 a0_0,.bool a0_1],.slice A1 l1.length c1,.int .i64 a2,.int .i64 a3] w fun e w'=>e= .returned (.tuple #[.int .i64 r1,.bool r2])∧Below w.heap.size w w':=by
 have hu28:=Try.underlying28
 have HR1:=Aside0.mk hr1
 have HC1:=Aside0.mk hc1
 clear hr1 hc1
 have HB:=Aside0.mk (Below.refl w.heap.size w)
 unfold spec_FewestCarriers.f at h
 have H:=h
 clear h
 obtain⟨t149,A5,H⟩:=bd H;(try dsimp only at H)
 by_cases c6:t149=true
 rotate_left
 ·replace c6:=Bool.eq_false_iff.mpr c6
  subst c6
  rw[if_neg (show ¬(false=true)by decide)]at H
  simp only[Option.some.injEq,Prod.mk.injEq]at H
  obtain⟨rfl,rfl⟩:=H
  go_enter Try.func11,Try.ntmps11
  go_wp2_with (first|(refine bx 4 #[.int .i64 a0_0,.bool a0_1] 28 ?_;intro gb148 hg w25 hbox hb;have BK148:=ak hbox;have GW148:=gw HB hg;have GE148:=gw HB hg;replace HB:=bs HB hb;clear hb hbox hg;have hcz26_0:=bc BK148 0 rfl;have hcz26_1:=bc BK148 1 rfl;have hfz26_0:=bf BK148 0;have hfz26_1:=bf BK148 1)|(refine gs 19 Try.func55 #[.agg #[.int .i64 a0_0,.bool a0_1],.slice A1 l1.length c1,.int .i64 a2,.int .i64 a3] ?_;(with_reducible refine(spec_l7Asks.calls k a0_0 a0_1 _ _ l1 a2 a3 false _ ?side1 ?side2 A5.out).mono ?_);(case side1=>exact cm (C_below HR1.out HB.out));(case side2=>exact HC1.out);rintro e w27 ⟨rfl,hb⟩;refine⟨_,rfl,?_⟩;replace BK148:=kb BK148 hb;replace HB:=ak (below_step (h1 HB.out GE148.out) hb);(try clear hb);(try clear hk);(try clear hi)))
  go_ret2
  exact⟨fe,h1 HB.out GE148.out⟩
 subst c6
 rw[if_pos rfl]at H
 obtain⟨t150,A7,H⟩:=bd H;(try dsimp only at H)
 have H':=Aside0.mk H
 clear H
 go_enter Try.func11,Try.ntmps11
 go_wp2_with (first|(refine bx 4 #[.int .i64 a0_0,.bool a0_1] 28 ?_;intro gb148 hg w8 hbox hb;have BK148:=ak hbox;have GW148:=gw HB hg;have GE148:=gw HB hg;replace HB:=bs HB hb;clear hb hbox hg;have hcz9_0:=bc BK148 0 rfl;have hcz9_1:=bc BK148 1 rfl;have hfz9_0:=bf BK148 0;have hfz9_1:=bf BK148 1)|(refine gs 19 Try.func55 #[.agg #[.int .i64 a0_0,.bool a0_1],.slice A1 l1.length c1,.int .i64 a2,.int .i64 a3] ?_;(with_reducible refine(spec_l7Asks.calls k a0_0 a0_1 _ _ l1 a2 a3 true _ ?side1 ?side2 A5.out).mono ?_);(case side1=>exact cm (C_below HR1.out HB.out));(case side2=>exact HC1.out);rintro e w10 ⟨rfl,hb⟩;refine⟨_,rfl,?_⟩;replace BK148:=kb BK148 hb;replace HB:=ak (below_step (h1 HB.out GE148.out) hb);(try clear hb);(try clear hk);(try clear hi);have hcz11_0:=bc BK148 0 rfl;have hcz11_1:=bc BK148 1 rfl;have hfz11_0:=bf BK148 0;have hfz11_1:=bf BK148 1)|(refine gs 24 Try.func56 #[.agg #[.int .i64 a0_0,.bool a0_1],.slice A1 l1.length c1,.int .i64 a2] ?_;(with_reducible refine(spec_l7Table.calls k a0_0 a0_1 _ _ l1 a2 t150 _ ?side1 ?side2 A7.out).mono ?_);(case side1=>exact cm (C_below HR1.out HB.out));(case side2=>exact HC1.out);rintro e w12 ⟨v151,rfl,ho0,hb⟩;refine⟨_,rfl,?_⟩;have HO152:=ak (R_lower ho0 (below_size (h1 HB.out GE148.out)));replace BK148:=kb BK148 hb;replace HB:=ak (below_step (h1 HB.out GE148.out) hb);(try clear hb);(try clear hk);(try clear hi);(try clear ho0)))
 go_loopg [11,12] k (fun kq v11 v12 w'=>∃ (x11_1:Int) (x12_1:Int),v11= .int .i64 x11_1∧v12= .int .i64 x12_1∧Aside0 (spec_FewestCarriers.l0 kq l1 a3 t150 x11_1 x12_1=some (r1,r2))∧Aside0 (kq≤k)∧Aside0 (Kd.R (Kd.int .i64) 3 w' w.heap.size (fun _=>True) v151 t150)∧Aside0 (w'.heap[gb148]? =some (.cells #[.int .i64 a0_0,.bool a0_1] 28 (0,0)))∧Aside0 (Below w.heap.size w w'))
 case atStart=>exact⟨((-1)),(0),fd,fd,H',⟨Nat.le_refl _⟩,⟨rm HO152.out⟩,⟨bm BK148.out⟩,⟨h1 HB.out GE148.out⟩⟩
 clear H'
 try clear c1
 try clear p2
 try clear c5
 try clear c6
 try clear c11
 try clear hcz11_0
 try clear hcz11_1
 try clear hcz9_0
 try clear hcz9_1
 try clear hfz11_0
 try clear hfz11_1
 try clear hfz9_0
 try clear hfz9_1
 obtain⟨x11_1,x12_1,rfl,rfl,HA,HK1,HO_10,BK148,HB⟩:=hrel
 obtain _|k1:=gk;·cases HA.out
 obtain⟨H⟩:=HA
 simp only[spec_FewestCarriers.l0]at H
 by_cases c13:x12_1<(t150.length:Int)
 rotate_left
 ·rw[if_neg c13]at H
  have c13b0:decide (x12_1<(t150.length:Int))=false:=decide_eq_false c13
  clear c13
  obtain⟨⟨t153,t154⟩,A23,H⟩:=bd H;(try dsimp only at H)
  simp only[Option.some.injEq,Prod.mk.injEq]at H
  obtain⟨rfl,rfl⟩:=H
  obtain⟨Ao24,co24,eo24⟩:=R_slice HO_10.out
  subst eo24
  go_wp2_with (first|(refine gs 60 Try.func57 #[.int .i64 x11_1] ?_;(with_reducible refine(spec_l7Told.calls x11_1 t153 t154 _ A23.out).mono ?_);rintro e w' ⟨rfl,⟨nd,rfl⟩⟩;refine⟨_,rfl,?_⟩))
  go_ret2
  exact⟨fe,h1 HB.out GE148.out⟩
 rw[if_pos c13]at H
 have c13b0:decide (x12_1<(t150.length:Int))=true:=decide_eq_true c13
 clear c13
 have H':=Aside0.mk H
 clear H
 obtain⟨Ao14,co14,eo14⟩:=R_slice HO_10.out
 subst eo14
 go_wp2
 go_loopg [13,14] k1 (fun kq v13 v14 w'=>∃ (x13_2:Int) (x14_2:Int),v13= .int .i64 x13_2∧v14= .int .i64 x14_2∧Aside0 (spec_FewestCarriers.l1 kq l1 a3 t150 x11_1 x12_1 x13_2 x14_2=some (r1,r2))∧Aside0 (kq≤k1)∧Aside0 (Kd.R (Kd.int .i64) 3 w' w.heap.size (fun _=>True) (.slice Ao14 t150.length co14) t150)∧Aside0 (w'.heap[gb148]? =some (.cells #[.int .i64 a0_0,.bool a0_1] 28 (0,0)))∧Aside0 (Below w.heap.size w w'))
 case atStart=>exact⟨(0),(0),fd,fd,H',⟨Nat.le_refl _⟩,⟨rm HO_10.out⟩,⟨bm BK148.out⟩,⟨h1 HB.out GE148.out⟩⟩
 clear H'
 try clear c1
 try clear p2
 try clear c5
 try clear c6
 try clear c11
 try clear c13
 try clear c13b0
 try clear hcz11_0
 try clear hcz11_1
 try clear hcz9_0
 try clear hcz9_1
 try clear hfz11_0
 try clear hfz11_1
 try clear hfz9_0
 try clear hfz9_1
 try clear p2
 obtain⟨x13_2,x14_2,rfl,rfl,HA,HK2,HO_10,BK148,HB⟩:=hrel
 obtain _|k2:=gk;·cases HA.out
 obtain⟨H⟩:=HA
 simp only[spec_FewestCarriers.l1]at H
 by_cases c15:x14_2<(l1.length:Int)
 ·rw[if_pos c15]at H
  have c15b0:decide (x14_2<(l1.length:Int))=true:=decide_eq_true c15
  clear c15
  obtain⟨c16,H⟩:=gi H
  have c16b0:=eq_true c16
  have c16b1:decide (0≤x14_2)=true:=decide_eq_true c16
  clear c16
  generalize hji17: (shr .i64 x12_1 x14_2)=ji17 at H
  have hji17_: (x12_1/ 2^min x14_2.toNat 64)=ji17:=hji17
  have hji17z:x14_2≤64→(x12_1/ 2^x14_2.toNat)=ji17:=shr_small hji17
  have H':=Aside0.mk H
  clear H
  go_wp2
  go_roundg k2
  case measure=>have:=HK1.out;have:=HK2.out;omega
  case rel=>exact⟨(wrap64 (x13_2+(Go.bits .and .i64 (ji17) 1))),(wrap64 (x14_2+1)),(by first|rfl|(simp;done)|(simp only[←hji17]<;>(first|rfl|simp))|(simp[*];done)),fd,H',⟨by have:=HK1.out;have:=HK2.out;omega⟩,⟨rm HO_10.out⟩,⟨bm BK148.out⟩,⟨h1 HB.out GE148.out⟩⟩
 rw[if_neg c15]at H
 have c15b0:decide (x14_2<(l1.length:Int))=false:=decide_eq_false c15
 clear c15
 obtain⟨c18,H⟩:=gi H
 have c18b0:decide (0≤x12_1)=true:=decide_eq_true c18
 clear c18
 obtain⟨c19,H⟩:=gi H
 have c19b0:decide (x12_1<(t150.length:Int))=true:=decide_eq_true c19
 clear c19
 by_cases c20: (rd t150 x12_1)≥a3
 rotate_left
 ·rw[if_neg c20]at H
  have c20b0:decide (a3≤(rd t150 x12_1))=false:=decide_eq_false c20
  clear c20
  have H':=Aside0.mk H
  clear H
  have p155:0≤(x12_1:Int):=od
  have q155:x12_1<(t150.length:Int):=od
  obtain⟨ad155,e155,hx155_0⟩:=Kd.at_int (R_reads' HO_10.out).2.2 x12_1 p155 q155
  cases e155
  replace p155:=eq_true p155
  replace q155:=eq_true q155
  go_wp2
  go_roundg k2
  case measure=>have:=HK1.out;have:=HK2.out;omega
  case rel=>exact⟨(x11_1),(wrap64 (x12_1+1)),fd,fd,H',⟨by have:=HK1.out;have:=HK2.out;omega⟩,⟨rm HO_10.out⟩,⟨bm BK148.out⟩,⟨h1 HB.out GE148.out⟩⟩
 rw[if_pos c20]at H
 have c20b0:decide (a3≤(rd t150 x12_1))=true:=decide_eq_true c20
 clear c20
 by_cases c21:x11_1<0
 ·rw[if_pos c21]at H
  have c21b0:decide (x11_1<0)=true:=decide_eq_true c21
  clear c21
  have H':=Aside0.mk H
  clear H
  have p155:0≤(x12_1:Int):=od
  have q155:x12_1<(t150.length:Int):=od
  obtain⟨ad155,e155,hx155_0⟩:=Kd.at_int (R_reads' HO_10.out).2.2 x12_1 p155 q155
  cases e155
  replace p155:=eq_true p155
  replace q155:=eq_true q155
  go_wp2
  go_roundg k2
  case measure=>have:=HK1.out;have:=HK2.out;omega
  case rel=>exact⟨(x13_2),(wrap64 (x12_1+1)),fd,fd,H',⟨by have:=HK1.out;have:=HK2.out;omega⟩,⟨rm HO_10.out⟩,⟨bm BK148.out⟩,⟨h1 HB.out GE148.out⟩⟩
 rw[if_neg c21]at H
 have c21b0:decide (x11_1<0)=false:=decide_eq_false c21
 clear c21
 by_cases c22:x13_2<x11_1
 ·rw[if_pos c22]at H
  have c22b0:decide (x13_2<x11_1)=true:=decide_eq_true c22
  clear c22
  have H':=Aside0.mk H
  clear H
  have p155:0≤(x12_1:Int):=od
  have q155:x12_1<(t150.length:Int):=od
  obtain⟨ad155,e155,hx155_0⟩:=Kd.at_int (R_reads' HO_10.out).2.2 x12_1 p155 q155
  cases e155
  replace p155:=eq_true p155
  replace q155:=eq_true q155
  go_wp2
  go_roundg k2
  case measure=>have:=HK1.out;have:=HK2.out;omega
  case rel=>exact⟨(x13_2),(wrap64 (x12_1+1)),fd,fd,H',⟨by have:=HK1.out;have:=HK2.out;omega⟩,⟨rm HO_10.out⟩,⟨bm BK148.out⟩,⟨h1 HB.out GE148.out⟩⟩
 rw[if_neg c22]at H
 have c22b0:decide (x13_2<x11_1)=false:=decide_eq_false c22
 clear c22
 have H':=Aside0.mk H
 clear H
 have p155:0≤(x12_1:Int):=od
 have q155:x12_1<(t150.length:Int):=od
 obtain⟨ad155,e155,hx155_0⟩:=Kd.at_int (R_reads' HO_10.out).2.2 x12_1 p155 q155
 cases e155
 replace p155:=eq_true p155
 replace q155:=eq_true q155
 go_wp2
 go_roundg k2
 case measure=>have:=HK1.out;have:=HK2.out;omega
 case rel=>exact⟨(x11_1),(wrap64 (x12_1+1)),fd,fd,H',⟨by have:=HK1.out;have:=HK2.out;omega⟩,⟨rm HO_10.out⟩,⟨bm BK148.out⟩,⟨h1 HB.out GE148.out⟩⟩
def impl_within.f (a0:Int) (a1:Int) (a2:Int):Option (Bool):=if a0≥a1 then(some (decide (a0≤a2)))else(some false)
set_option maxHeartbeats 8000000 in
set_option maxRecDepth 100000 in
theorem impl_within.calls (a0:Int) (a1:Int) (a2:Int) (r:Bool) (w:World) (h:impl_within.f a0 a1 a2=some r):
  Calls Try.prog 105 #[.int .i64 a0,.int .i64 a1,.int .i64 a2] w fun e w'=>e= .returned (.bool r)∧Drawn0 w w':=by
 unfold impl_within.f at h
 have H:=h
 clear h
 by_cases c4:a0≥a1
 ·rw[if_pos c4]at H
  have c4b0:decide (a1≤a0)=true:=decide_eq_true c4
  clear c4
  obtain rfl:=Option.some.inj H
  go_enter Try.func105,Try.ntmps105
  go_wp2
  go_ret
  exact⟨by first|rfl|(simp;done)|(simp[*];done),by repeat(first|exact Drawn0.refl _|apply Drawn0.step)⟩
 rw[if_neg c4]at H
 have c4b0:decide (a1≤a0)=false:=decide_eq_false c4
 clear c4
 obtain rfl:=Option.some.inj H
 go_enter Try.func105,Try.ntmps105
 go_wp2
 go_ret
 exact⟨by first|rfl|(simp;done)|(simp[*];done),by repeat(first|exact Drawn0.refl _|apply Drawn0.step)⟩
def impl_allWithin.l0:Nat→Int→Int→List Int→Int→Int→Option (Bool)
 | 0,_,_,_,_,_=>none
 | k+1,x1,x2,x9,x10,x11=>if x11<x10 then(if 0≤x11 then(if x11<(x9.length:Int)then((impl_within.f (rd x9 x11) x1 x2).bind fun t157=>(if t157=true then(impl_allWithin.l0 k x1 x2 x9 x10 (wrap64 (x11+1)))else(some false)))else(none))else(none))else(some true)
def impl_allWithin.f (k:Nat) (l0:List Int) (a1:Int) (a2:Int):Option (Bool):=impl_allWithin.l0 k a1 a2 l0 (l0.length:Int) 0
theorem impl_allWithin.mono_l:∀ k,(∀ y0 y1 y2 y3 y4,LeO (impl_allWithin.l0 k y0 y1 y2 y3 y4) (impl_allWithin.l0 (k+1) y0 y1 y2 y3 y4))
 | 0=>by
  refine ?_<;>(intros;intro r h;simp[impl_allWithin.l0]at h)
 | k+1=>by
  have ih0:=impl_allWithin.mono_l k
  refine ?_<;>intros<;>unfold impl_allWithin.l0<;>(repeat' (with_reducible first|exact ih0 ..|exact LeO.refl _|exact LeO.none _|refine LeO.ite ?_ ?_|refine LeO.bind ?_ (fun _=>?_)))
theorem impl_allWithin.mono:∀ a0 a1 a2 k,LeO (impl_allWithin.f k a0 a1 a2) (impl_allWithin.f (k+1) a0 a1 a2):=by
 intro a0 a1 a2 k
 have ih0:=impl_allWithin.mono_l k
 unfold impl_allWithin.f
 repeat' (with_reducible first|exact ih0 ..|exact LeO.refl _|exact LeO.none _|refine LeO.ite ?_ ?_|refine LeO.bind ?_ (fun _=>?_))
set_option maxHeartbeats 8000000 in
set_option maxRecDepth 100000 in
theorem impl_allWithin.calls (k:Nat) (A0:Option Addr) (c0:Nat) (l0:List Int) (a1:Int) (a2:Int) (r:Bool) (w:World) (hr0:Kd.C (Kd.int .i64) w A0 l0.length l0) (hc0:l0.length≤c0) (h:impl_allWithin.f k l0 a1 a2=some r):
  Calls Try.prog 83 #[.slice A0 l0.length c0,.int .i64 a1,.int .i64 a2] w fun e w'=>e= .returned (.bool r)∧Drawn0 w w':=by
 have HR0:=Aside0.mk hr0
 have HC0:=Aside0.mk hc0
 clear hr0 hc0
 unfold impl_allWithin.f at h
 have H:=h
 clear h
 have H':=Aside0.mk H
 clear H
 go_enter Try.func83,Try.ntmps83
 go_wp2
 go_loopg [11] k (fun kq v11 w'=>∃ (x11_1:Int),v11= .int .i64 x11_1∧Aside0 (impl_allWithin.l0 kq a1 a2 l0 (l0.length:Int) x11_1=some r)∧Aside0 (kq≤k)∧Drawn0 w w')
 case atStart=>exact⟨(0),fd,H',⟨Nat.le_refl _⟩,by repeat(first|exact Drawn0.refl _|apply Drawn0.step)⟩
 clear H'
 try clear p2
 obtain⟨x11_1,rfl,HA,HK1,⟨m1,rfl⟩⟩:=hrel
 obtain _|k1:=gk;·cases HA.out
 obtain⟨H⟩:=HA
 simp only[impl_allWithin.l0]at H
 by_cases c4:x11_1<(l0.length:Int)
 rotate_left
 ·rw[if_neg c4]at H
  have c4b0:decide (x11_1<(l0.length:Int))=false:=decide_eq_false c4
  clear c4
  obtain rfl:=Option.some.inj H
  go_wp2
  go_ret
  exact⟨by first|rfl|(simp;done)|(simp[*];done),by repeat(first|exact Drawn0.refl _|apply Drawn0.step)⟩
 rw[if_pos c4]at H
 have c4b0:decide (x11_1<(l0.length:Int))=true:=decide_eq_true c4
 clear c4
 obtain⟨c5,H⟩:=gi H
 have c5b0:decide (0≤x11_1)=true:=decide_eq_true c5
 clear c5
 obtain⟨c6,H⟩:=gi H
 have c6b0:decide (x11_1<(l0.length:Int))=true:=decide_eq_true c6
 clear c6
 obtain⟨t157,A7,H⟩:=bd H;(try dsimp only at H)
 by_cases c8:t157=true
 rotate_left
 ·replace c8:=Bool.eq_false_iff.mpr c8
  subst c8
  rw[if_neg (show ¬(false=true)by decide)]at H
  obtain rfl:=Option.some.inj H
  have p156:0≤(x11_1:Int):=od
  have q156:x11_1<(l0.length:Int):=od
  obtain⟨ad156,e156,hx156_0⟩:=Kd.at_int HR0.out x11_1 p156 q156
  cases e156
  replace p156:=eq_true p156
  replace q156:=eq_true q156
  go_wp2_with (first|(refine gs 18 Try.func105 #[.int .i64 (rd l0 x11_1),.int .i64 a1,.int .i64 a2] ?_;(with_reducible refine(impl_within.calls (rd l0 x11_1) a1 a2 false _ A7.out).mono ?_);rintro e w' ⟨rfl,⟨nd,rfl⟩⟩;refine⟨_,rfl,?_⟩))
  go_ret
  exact⟨by first|rfl|(simp;done)|(simp[*];done),by repeat(first|exact Drawn0.refl _|apply Drawn0.step)⟩
 subst c8
 rw[if_pos rfl]at H
 have H':=Aside0.mk H
 clear H
 have p156:0≤(x11_1:Int):=od
 have q156:x11_1<(l0.length:Int):=od
 obtain⟨ad156,e156,hx156_0⟩:=Kd.at_int HR0.out x11_1 p156 q156
 cases e156
 replace p156:=eq_true p156
 replace q156:=eq_true q156
 go_wp2_with (first|(refine gs 18 Try.func105 #[.int .i64 (rd l0 x11_1),.int .i64 a1,.int .i64 a2] ?_;(with_reducible refine(impl_within.calls (rd l0 x11_1) a1 a2 true _ A7.out).mono ?_);rintro e w' ⟨rfl,⟨nd,rfl⟩⟩;refine⟨_,rfl,?_⟩))
 go_roundg k1
 case measure=>have:=HK1.out;omega
 case rel=>exact⟨(wrap64 (x11_1+1)),fd,H',⟨by have:=HK1.out;omega⟩,by repeat(first|exact Drawn0.refl _|apply Drawn0.step)⟩
end
end Go.Proofs.Ythagkpoinjpmfaa.QFnReaches
