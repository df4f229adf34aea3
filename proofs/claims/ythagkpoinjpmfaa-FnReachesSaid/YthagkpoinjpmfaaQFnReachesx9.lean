/- Functions that the law FnReaches comes to, and their walks: no condition but those named. -/
import Derived.Test.YthagkpoinjpmfaaQFnReachesx0
import Derived.Test.YthagkpoinjpmfaaQFnReachesx1
import Derived.Test.YthagkpoinjpmfaaQFnReachesx2
import Derived.Test.YthagkpoinjpmfaaQFnReachesx8
namespace Go.Proofs.Ythagkpoinjpmfaa.QFnReaches
open Go.RowKit Go.Proofs.YthagkpoinjpmfaaW.PrintWords Go.Proofs.YthagkpoinjpmfaaW.PrintLast Go.Proofs.YthagkpoinjpmfaaW.PrintMore Go.Proofs.Ythagkpoinjpmfaa.Short
attribute [local go_sem] max2_int min2_int max_two min_two max_three min_three max_four min_four
set_option linter.unusedVariables false
set_option linter.unusedSimpArgs false
section
open Kd
mutual
def spec_ReachOrder.l0:Nat→List (S63)→Int→Int→Int→Int→Bool→Option (List Int × Bool)
 | 0,_,_,_,_,_,_=>none
 | k+1,x1,x2,x3,x10,x305000,x305001=>if x10≤(x1.length:Int)then((spec_l7Orders.f k (x1.length:Int) x10).bind fun t312=>(spec_ReachOrder.l1 k x1 x2 x3 x10 t312 0 x305000 x305001))else(some ((([]:List Int)),false))
def spec_ReachOrder.l1:Nat→List (S63)→Int→Int→Int→List (List Int)→Int→Int→Bool→Option (List Int × Bool)
 | 0,_,_,_,_,_,_,_,_=>none
 | k+1,x1,x2,x3,x10,x11,x12,x305000,x305001=>if x12<(x11.length:Int)then(if 0≤x12 then((spec_l7Reach.f k x305000 x305001 x1 (rd_L2 x11 x12) x2).bind fun t316=>(if t316≥x3 then(some (rd_L2 x11 x12,true))else(spec_ReachOrder.l1 k x1 x2 x3 x10 x11 (wrap64 (x12+1)) x305000 x305001)))else(none))else(spec_ReachOrder.l0 k x1 x2 x3 (wrap64 (x10+1)) x305000 x305001)
end
def spec_ReachOrder.f (k:Nat) (a0_0:Int) (a0_1:Bool) (l1:List (S63)) (a2:Int) (a3:Int):Option (List Int × Bool):=(spec_l7Asks.f k a0_0 a0_1 l1 a2 a3).bind fun t305=>(if t305=true then(spec_ReachOrder.l0 k l1 a2 a3 0 a0_0 a0_1)else(some ((([]:List Int)),false)))
theorem spec_ReachOrder.mono_l:∀ k,(∀ y0 y1 y2 y3 y4 y5,LeO (spec_ReachOrder.l0 k y0 y1 y2 y3 y4 y5) (spec_ReachOrder.l0 (k+1) y0 y1 y2 y3 y4 y5))∧(∀ y0 y1 y2 y3 y4 y5 y6 y7,LeO (spec_ReachOrder.l1 k y0 y1 y2 y3 y4 y5 y6 y7) (spec_ReachOrder.l1 (k+1) y0 y1 y2 y3 y4 y5 y6 y7))
 | 0=>by
  refine⟨?_,?_⟩<;>(intros;intro r h;simp[spec_ReachOrder.l0,spec_ReachOrder.l1]at h)
 | k+1=>by
  obtain⟨ih0,ih1⟩:=spec_ReachOrder.mono_l k
  refine⟨?_,?_⟩<;>intros<;>(first|unfold spec_ReachOrder.l0|unfold spec_ReachOrder.l1)<;>(repeat' (with_reducible first|exact ih0 ..|exact ih1 ..|exact spec_l7Asks.mono ..|exact spec_l7Orders.mono ..|exact spec_l7Reach.mono ..|exact LeO.refl _|exact LeO.none _|refine LeO.ite ?_ ?_|refine LeO.bind ?_ (fun _=>?_)))
theorem spec_ReachOrder.mono:∀ a0 a1 a2 a3 a4 k,LeO (spec_ReachOrder.f k a0 a1 a2 a3 a4) (spec_ReachOrder.f (k+1) a0 a1 a2 a3 a4):=by
 intro a0 a1 a2 a3 a4 k
 obtain⟨ih0,ih1⟩:=spec_ReachOrder.mono_l k
 unfold spec_ReachOrder.f
 repeat' (with_reducible first|exact ih0 ..|exact ih1 ..|exact spec_l7Asks.mono ..|exact spec_l7Orders.mono ..|exact spec_l7Reach.mono ..|exact LeO.refl _|exact LeO.none _|refine LeO.ite ?_ ?_|refine LeO.bind ?_ (fun _=>?_))
def spec_ReachOrder.T10:Bool × List (List Nat × List Nat):=(true,[([],[]),([],[]),([],[]),([],[]),([2,3],[2,3]),([4],[4]),([],[]),([0,1,5,6],[0,1,5,6]),([],[]),([7,8],[7,8])])
def spec_ReachOrder.B10:List Nat:=[0,0,0,0,12,28,0,127,0,511]
theorem spec_ReachOrder.tab10:rtab .any (opsOf Try.f25 10)=spec_ReachOrder.T10:=by kernel_rfl
theorem spec_ReachOrder.bits10:waitsOk spec_ReachOrder.T10.2 spec_ReachOrder.B10=true:=by kernel_rfl
set_option maxHeartbeats 8000000 in
set_option maxRecDepth 100000 in
theorem spec_ReachOrder.calls (k:Nat) (a0_0:Int) (a0_1:Bool) (A1:Option Addr) (c1:Nat) (l1:List (S63)) (a2:Int) (a3:Int) (r1:List Int) (r2:Bool) (w:World) (hr1:Kd.C k63 w A1 l1.length l1) (hc1:l1.length≤c1) (h:spec_ReachOrder.f k a0_0 a0_1 l1 a2 a3=some (r1,r2)):
  Calls Try.prog 25 #[.agg #[.int .i64 a0_0,.bool a0_1],.slice A1 l1.length c1,.int .i64 a2,.int .i64 a3] w fun e w'=>∃ v0_:Value,e= .returned (.tuple #[v0_,.bool r2])∧Kd.V (Kd.int .i64) 3 w' w.heap.size (fun k_=>(w.heap.size≤k_)) v0_ r1∧Below w.heap.size w w':=by
 have hu28:=Try.underlying28
 have HR1:=Aside0.mk hr1
 have HC1:=Aside0.mk hc1
 clear hr1 hc1
 have HB:=Aside0.mk (Below.refl w.heap.size w)
 unfold spec_ReachOrder.f at h
 have H:=h
 clear h
 obtain⟨t305,A5,H⟩:=bd H;(try dsimp only at H)
 by_cases c6:t305=true
 rotate_left
 ·replace c6:=Bool.eq_false_iff.mpr c6
  subst c6
  rw[if_neg (show ¬(false=true)by decide)]at H
  generalize hy306: ([]:List Int)=y306 at H
  have Ny306:=ak hy306.symm
  clear hy306
  simp only[Option.some.injEq,Prod.mk.injEq]at H
  obtain⟨rfl,rfl⟩:=H
  go_enter Try.func25,Try.ntmps25
  go_wp2_with (first|(refine bx 4 #[.int .i64 a0_0,.bool a0_1] 28 ?_;intro gb304 hg w26 hbox hb;have BK304:=ak hbox;have GW304:=gw HB hg;have GE304:=gw HB hg;replace HB:=bs HB hb;clear hb hbox hg;have hcz27_0:=bc BK304 0 rfl;have hcz27_1:=bc BK304 1 rfl;have hfz27_0:=bf BK304 0;have hfz27_1:=bf BK304 1)|(refine gs 17 Try.func55 #[.agg #[.int .i64 a0_0,.bool a0_1],.slice A1 l1.length c1,.int .i64 a2,.int .i64 a3] ?_;(with_reducible refine(spec_l7Asks.calls k a0_0 a0_1 _ _ l1 a2 a3 false _ ?side1 ?side2 A5.out).mono ?_);(case side1=>exact cm (C_below HR1.out HB.out));(case side2=>exact HC1.out);rintro e w28 ⟨rfl,hb⟩;refine⟨_,rfl,?_⟩;replace BK304:=kb BK304 hb;replace HB:=ak (below_step (h1 HB.out GE304.out) hb);(try clear hb);(try clear hk);(try clear hi))|((with_reducible refine gate_dst (N:=19) rfl ?_);refine R_lit (Kd.int .i64) _ 3 ?hg (N:=19) ?hd (xs:=([]:List Int)) (inner:=[]) (ok:=fun _=>True) (okp:=fun _=>True) ?hr ?hp (fun _ hk=>hk) trivial (Below.refl _ _) (Nat.le_refl _) (by simp) ?_;(case hd=>rfl);(case hg=>rfl);(case hr=>first|(go_simp;done)|(go_simp;rfl));(case hp=>exact(Reps.none _ _));intro v307 w29 ho30 hb hg_ hnew_;clear hg_ hnew_;(first|rw[←Ny306.out]at ho30|(simp only[Int.reduceToNat]at ho30;rw[←Ny306.out]at ho30));have HO308:=ak (R_lower (R_newM (M:=fun k_=>(w.heap.size≤k_)) ho30 (below_size (h1 HB.out GE304.out)) (fun k_ h_=>h_)) (below_size (h1 HB.out GE304.out)));replace BK304:=kb BK304 hb;replace HB:=ak (below_step (h1 HB.out GE304.out) hb);clear hb ho30))
  go_ret2
  exact⟨_,fe,R_V (rm (R_mono HO308.out (fun _ hk=>hk.1))),h1 HB.out GE304.out⟩
 subst c6
 rw[if_pos rfl]at H
 have H':=Aside0.mk H
 clear H
 go_enter Try.func25,Try.ntmps25
 go_wp2_with (first|(refine bx 4 #[.int .i64 a0_0,.bool a0_1] 28 ?_;intro gb304 hg w7 hbox hb;have BK304:=ak hbox;have GW304:=gw HB hg;have GE304:=gw HB hg;replace HB:=bs HB hb;clear hb hbox hg;have hcz8_0:=bc BK304 0 rfl;have hcz8_1:=bc BK304 1 rfl;have hfz8_0:=bf BK304 0;have hfz8_1:=bf BK304 1)|(refine gs 17 Try.func55 #[.agg #[.int .i64 a0_0,.bool a0_1],.slice A1 l1.length c1,.int .i64 a2,.int .i64 a3] ?_;(with_reducible refine(spec_l7Asks.calls k a0_0 a0_1 _ _ l1 a2 a3 true _ ?side1 ?side2 A5.out).mono ?_);(case side1=>exact cm (C_below HR1.out HB.out));(case side2=>exact HC1.out);rintro e w9 ⟨rfl,hb⟩;refine⟨_,rfl,?_⟩;replace BK304:=kb BK304 hb;replace HB:=ak (below_step (h1 HB.out GE304.out) hb);(try clear hb);(try clear hk);(try clear hi)))
 go_loopg [10] k (fun kq v10 w'=>∃ (x10_1:Int),v10= .int .i64 x10_1∧Aside0 (spec_ReachOrder.l0 kq l1 a2 a3 x10_1 a0_0 a0_1=some (r1,r2))∧Aside0 (kq≤k)∧Aside0 (w'.heap[gb304]? =some (.cells #[.int .i64 a0_0,.bool a0_1] 28 (0,0)))∧Aside0 (Below w.heap.size w w'))
 case atStart=>exact⟨(0),fd,H',⟨Nat.le_refl _⟩,⟨bm BK304.out⟩,⟨h1 HB.out GE304.out⟩⟩
 clear H'
 try clear c1
 try clear c2
 try clear p2
 try clear c5
 try clear c6
 try clear hcz8_0
 try clear hcz8_1
 try clear hfz8_0
 try clear hfz8_1
 obtain⟨x10_1,rfl,HA,HK1,BK304,HB⟩:=hrel
 obtain _|k1:=gk;·cases HA.out
 obtain⟨H⟩:=HA
 simp only[spec_ReachOrder.l0]at H
 by_cases c10:x10_1≤(l1.length:Int)
 rotate_left
 ·rw[if_neg c10]at H
  have c10b0:decide (x10_1≤(l1.length:Int))=false:=decide_eq_false c10
  clear c10
  generalize hy309: ([]:List Int)=y309 at H
  have Ny309:=ak hy309.symm
  clear hy309
  simp only[Option.some.injEq,Prod.mk.injEq]at H
  obtain⟨rfl,rfl⟩:=H
  go_wp2_with (first|((with_reducible refine gate_dst (N:=50) rfl ?_);refine R_lit (Kd.int .i64) _ 3 ?hg (N:=50) ?hd (xs:=([]:List Int)) (inner:=[]) (ok:=fun _=>True) (okp:=fun _=>True) ?hr ?hp (fun _ hk=>hk) trivial (Below.refl _ _) (Nat.le_refl _) (by simp) ?_;(case hd=>rfl);(case hg=>rfl);(case hr=>first|(go_simp;done)|(go_simp;rfl));(case hp=>exact(Reps.none _ _));intro v310 w24 ho25 hb hg_ hnew_;clear hg_ hnew_;(first|rw[←Ny309.out]at ho25|(simp only[Int.reduceToNat]at ho25;rw[←Ny309.out]at ho25));have HO311:=ak (R_lower (R_newM (M:=fun k_=>(w.heap.size≤k_)) ho25 (below_size (h1 HB.out GE304.out)) (fun k_ h_=>h_)) (below_size (h1 HB.out GE304.out)));replace BK304:=kb BK304 hb;replace HB:=ak (below_step (h1 HB.out GE304.out) hb);clear hb ho25))
  go_ret2
  exact⟨_,fe,R_V (rm (R_mono HO311.out (fun _ hk=>hk.1))),h1 HB.out GE304.out⟩
 rw[if_pos c10]at H
 have c10b0:decide (x10_1≤(l1.length:Int))=true:=decide_eq_true c10
 clear c10
 obtain⟨t312,A11,H⟩:=bd H;(try dsimp only at H)
 have H':=Aside0.mk H
 clear H
 go_wp2_with (first|(refine gs 29 Try.func71 #[.int .i64 (l1.length:Int),.int .i64 x10_1] ?_;(with_reducible refine(spec_l7Orders.calls k1 (l1.length:Int) x10_1 t312 _ A11.out).mono ?_);rintro e w12 ⟨v313,rfl,ho0,hb⟩;refine⟨_,rfl,?_⟩;have HO314:=ak (Kd.N_lower (Kd.N_mono (ok':=fun k_=>(w.heap.size≤k_)∧k_≠gb304) ho0 (fun k_ hk_=>⟨(Nat.le_trans (below_size (h1 HB.out GE304.out)) hk_),(Kd.freshB (g:=gb304) (o:=.cells #[.int .i64 a0_0,.bool a0_1] 28 (0,0)) (bm BK304.out) k_ hk_)⟩)) (below_size (h1 HB.out GE304.out)));replace BK304:=kb BK304 hb;replace HB:=ak (below_step (h1 HB.out GE304.out) hb);(try clear hb);(try clear hk);(try clear hi);(try clear ho0)))
 go_loopg [12] k1 (fun kq v12 w'=>∃ (x12_2:Int),v12= .int .i64 x12_2∧Aside0 (spec_ReachOrder.l1 kq l1 a2 a3 x10_1 t312 x12_2 a0_0 a0_1=some (r1,r2))∧Aside0 (kq≤k1)∧Aside0 (Kd.N (Kd.slice 3 (Kd.int .i64)) 40 w' w.heap.size (fun k_=>(w.heap.size≤k_)∧k_≠gb304) v313 t312)∧Aside0 (w'.heap[gb304]? =some (.cells #[.int .i64 a0_0,.bool a0_1] 28 (0,0)))∧Aside0 (Below w.heap.size w w'))
 case atStart=>exact⟨(0),fd,H',⟨Nat.le_refl _⟩,⟨nm HO314.out⟩,⟨bm BK304.out⟩,⟨h1 HB.out GE304.out⟩⟩
 clear H'
 try clear c1
 try clear c2
 try clear p2
 try clear c5
 try clear c6
 try clear c7
 try clear c10
 try clear c10b0
 try clear hcz8_0
 try clear hcz8_1
 try clear hfz8_0
 try clear hfz8_1
 try clear p2
 obtain⟨x12_2,rfl,HA,HK2,HO_11,BK304,HB⟩:=hrel
 obtain _|k2:=gk;·cases HA.out
 obtain⟨H⟩:=HA
 simp only[spec_ReachOrder.l1]at H
 by_cases c13:x12_2<(t312.length:Int)
 rotate_left
 ·rw[if_neg c13]at H
  have c13b0:decide (x12_2<(t312.length:Int))=false:=decide_eq_false c13
  clear c13
  have H':=Aside0.mk H
  clear H
  obtain⟨Ao23,co23,eo23⟩:=Kd.N_slice HO_11.out
  subst eo23
  go_wp2
  go_roundg k2
  case measure=>have:=HK1.out;have:=HK2.out;omega
  case rel=>exact⟨(wrap64 (x10_1+1)),fd,H',⟨by have:=HK1.out;have:=HK2.out;omega⟩,⟨bm BK304.out⟩,⟨h1 HB.out GE304.out⟩⟩
 rw[if_pos c13]at H
 have c13b0:decide (x12_2<(t312.length:Int))=true:=decide_eq_true c13
 clear c13
 obtain⟨c14,H⟩:=gi H
 have c14b0:decide (0≤x12_2)=true:=decide_eq_true c14
 clear c14
 obtain⟨t316,A15,H⟩:=bd H;(try dsimp only at H)
 by_cases c16:t316≥a3
 rotate_left
 ·rw[if_neg c16]at H
  have c16b0:decide (a3≤t316)=false:=decide_eq_false c16
  clear c16
  have H':=Aside0.mk H
  clear H
  obtain⟨Ao20,co20,eo20⟩:=Kd.N_slice HO_11.out
  subst eo20
  try go_wp2
  replace HO_11:=ak (Kd.N_drew HO_11.out)
  replace BK304:=ak (blk_drew BK304.out)
  replace HB:=ak (below_drew1 HB.out)
  have p315:0≤(x12_2:Int):=od
  have q315:x12_2<(t312.length:Int):=od
  obtain⟨ad315,A315_0,c315_0,e315,hx315_0,hl315_0,hi315_0⟩:=at_L2 (Kd.N_reads' HO_11.out).2.2 x12_2 p315 q315
  cases e315
  obtain⟨ce315,hce315,hMe315,hcc315⟩:=Kd.N_get HO_11.out [] x12_2 p315 (by first|exact q315|exact od|(have e_:=(Kd.N_reads' HO_11.out).1;omega))
  obtain⟨ua315_0,uc315_0,rfl,ul315_0,ge315_0⟩:=Kd.FK_slice_open hMe315
  have hv315_0:=hcc315 0 _ rfl
  rw[Nat.add_zero,show((Kd.slice 3 (Kd.int .i64))).sz=1 from rfl,Nat.mul_one]at hv315_0
  replace hv315_0:=Option.some.inj (hv315_0.symm.trans hx315_0)
  injection hv315_0 with hva_ hvn_ hvc_
  rw[hva_]at ge315_0
  rw[hvc_]at ul315_0
  have HL315_0:=Aside0.mk (show Kd.V (Kd.int .i64) 3 _ w.heap.size _ _ (rd_L2 t312 x12_2)from Kd.V_mk ul315_0 ge315_0)
  clear hva_ hvn_ hvc_ ge315_0 ul315_0
  clear hcc315 hce315
  have HR315_0:=Aside0.mk hi315_0
  have HC315_0:=Aside0.mk hl315_0
  clear hi315_0 hl315_0
  replace p315:=eq_true p315
  replace q315:=eq_true q315
  refine start_ (n:=10) (S:=fun w'=>w'.cell? ⟨gb304,0,none⟩=some (.int .i64 a0_0)∧w'.cell? ⟨gb304,1,none⟩=some (.bool a0_1)∧w'.cell? (ad315.add (x12_2).toNat)=some (.slice A315_0 (rd_L2 t312 x12_2).length c315_0)) (ds:=[]) (lb 10 0) (by kernel_rfl) rfl rfl ⟨bc BK304 0 rfl,bc BK304 1 rfl,hx315_0⟩ (fun hHeld=>?_);refine with_tabW spec_ReachOrder.tab10 spec_ReachOrder.bits10 (fun HT_ HW_=>?_)
  generalize wr.drew=w21 at HO_11 BK304 HB HL315_0 HR315_0 hx315_0 hHeld⊢
  refine pq 1 (N:=some 37) (lb 10 2) HT_ ?_
  refine pq 2 (N:=some 38) (lb 10 6) HT_ ?_
  refine pq 3 (N:=some 39) (lb 10 14) HT_ ?_
  refine pq 4 (N:=some 40) (lb 10 30) HT_ ?_
  refine pq 6 (N:=some 42) (lb 10 94) HT_ ?_
  refine pq 8 (N:=some 44) (lb 10 350) HT_ ?_
  refine tq 0 (N:=some 36) (lb 10 351) HT_ HW_ hHeld ?_
  refine tq 5 (N:=some 41) (lb 10 383) HT_ HW_ hHeld ?_
  refine one_ (i:=7) (N:=some 43) (lb 10 511) rfl rfl (one_of HT_.out (by kernel_rfl)) (by decide) (fun K hK=>?_)
  refine goes_ Try.func72 (by kernel_rfl) rfl #[.agg #[.int .i64 a0_0,.bool a0_1],.slice A1 l1.length c1,.slice A315_0 (rd_L2 t312 x12_2).length c315_0,.int .i64 a2] (by rfl) rfl rfl gl ?_
  with_reducible refine(spec_l7Reach.calls k2 a0_0 a0_1 _ _ l1 _ _ (rd_L2 t312 x12_2) a2 t316 _ ?side1 ?side2 ?side3 ?side4 A15.out).mono ?_
  (case side1=>exact cm (C_below HR1.out HB.out))
  (case side2=>exact HC1.out)
  (case side3=>repeat(first|exact(by repeat(first|(with_reducible exact HR315_0.out)|(with_reducible refine C_alloc ?_ _)|(with_reducible refine C_drewN ?_ _)|(with_reducible refine C_drew ?_)|exact HR315_0.out))|(with_reducible refine C_alloc ?_ _)|(with_reducible refine C_drewN ?_ _)|(with_reducible refine C_drew ?_)))
  (case side4=>exact HC315_0.out)
  rintro e w22 ⟨rfl,hb⟩
  have HS2_:=(hb.cell (World.block_lt_of_cell? _ _ (hHeld.2.2))).trans (hHeld.2.2)
  refine⟨_,rfl,?_⟩
  replace HO_11:=ak (Kd.N_below (nm HO_11.out) hb)
  replace HL315_0:=ak (Kd.V_below (vm HL315_0.out) hb)
  replace BK304:=kb BK304 hb
  replace HR315_0:=ak (C_below (by repeat(first|(with_reducible exact HR315_0.out)|(with_reducible refine C_alloc ?_ _)|(with_reducible refine C_drewN ?_ _)|(with_reducible refine C_drew ?_)|exact HR315_0.out)) hb)
  replace HB:=ak (below_step (h1 HB.out GE304.out) hb)
  (try clear hb)
  (try clear hb2)
  (try clear hk)
  (try clear hi)
  refine hK.out _ _ ⟨bc BK304 0 rfl,bc BK304 1 rfl,HS2_⟩ (fun hHeld=>?_)
  clear hK K
  refine norm_ (a':=?_) ?_ ?_
  rotate_left
  ·show Act.put _ (some 43) _=_
   simp only[ap]
   rfl
  refine pq 9 (N:=some 45) (lb 10 1023) HT_ ?_
  refine done_ (done_of HT_.out (by kernel_rfl)) ?_
  try go_wp2
  go_roundg k2
  case measure=>have:=HK1.out;have:=HK2.out;omega
  case rel=>exact⟨(wrap64 (x12_2+1)),fd,H',⟨by have:=HK1.out;have:=HK2.out;omega⟩,⟨nm HO_11.out⟩,⟨bm BK304.out⟩,⟨h1 HB.out GE304.out⟩⟩
 rw[if_pos c16]at H
 have c16b0:decide (a3≤t316)=true:=decide_eq_true c16
 clear c16
 simp only[Option.some.injEq,Prod.mk.injEq]at H
 obtain⟨rfl,rfl⟩:=H
 obtain⟨Ao17,co17,eo17⟩:=Kd.N_slice HO_11.out
 subst eo17
 try go_wp2
 replace HO_11:=ak (Kd.N_drew HO_11.out)
 replace BK304:=ak (blk_drew BK304.out)
 replace HB:=ak (below_drew1 HB.out)
 have p315:0≤(x12_2:Int):=od
 have q315:x12_2<(t312.length:Int):=od
 obtain⟨ad315,A315_0,c315_0,e315,hx315_0,hl315_0,hi315_0⟩:=at_L2 (Kd.N_reads' HO_11.out).2.2 x12_2 p315 q315
 cases e315
 obtain⟨ce315,hce315,hMe315,hcc315⟩:=Kd.N_get HO_11.out [] x12_2 p315 (by first|exact q315|exact od|(have e_:=(Kd.N_reads' HO_11.out).1;omega))
 obtain⟨ua315_0,uc315_0,rfl,ul315_0,ge315_0⟩:=Kd.FK_slice_open hMe315
 have hv315_0:=hcc315 0 _ rfl
 rw[Nat.add_zero,show((Kd.slice 3 (Kd.int .i64))).sz=1 from rfl,Nat.mul_one]at hv315_0
 replace hv315_0:=Option.some.inj (hv315_0.symm.trans hx315_0)
 injection hv315_0 with hva_ hvn_ hvc_
 rw[hva_]at ge315_0
 rw[hvc_]at ul315_0
 have HL315_0:=Aside0.mk (show Kd.V (Kd.int .i64) 3 _ w.heap.size _ _ (rd_L2 t312 x12_2)from Kd.V_mk ul315_0 ge315_0)
 clear hva_ hvn_ hvc_ ge315_0 ul315_0
 clear hcc315 hce315
 have HR315_0:=Aside0.mk hi315_0
 have HC315_0:=Aside0.mk hl315_0
 clear hi315_0 hl315_0
 replace p315:=eq_true p315
 replace q315:=eq_true q315
 refine start_ (n:=10) (S:=fun w'=>w'.cell? ⟨gb304,0,none⟩=some (.int .i64 a0_0)∧w'.cell? ⟨gb304,1,none⟩=some (.bool a0_1)∧w'.cell? (ad315.add (x12_2).toNat)=some (.slice A315_0 (rd_L2 t312 x12_2).length c315_0)) (ds:=[]) (lb 10 0) (by kernel_rfl) rfl rfl ⟨bc BK304 0 rfl,bc BK304 1 rfl,hx315_0⟩ (fun hHeld=>?_);refine with_tabW spec_ReachOrder.tab10 spec_ReachOrder.bits10 (fun HT_ HW_=>?_)
 generalize wr.drew=w18 at HO_11 BK304 HB HL315_0 HR315_0 hx315_0 hHeld⊢
 refine pq 1 (N:=some 37) (lb 10 2) HT_ ?_
 refine pq 2 (N:=some 38) (lb 10 6) HT_ ?_
 refine pq 3 (N:=some 39) (lb 10 14) HT_ ?_
 refine pq 4 (N:=some 40) (lb 10 30) HT_ ?_
 refine pq 6 (N:=some 42) (lb 10 94) HT_ ?_
 refine pq 8 (N:=some 44) (lb 10 350) HT_ ?_
 refine tq 0 (N:=some 36) (lb 10 351) HT_ HW_ hHeld ?_
 refine tq 5 (N:=some 41) (lb 10 383) HT_ HW_ hHeld ?_
 refine one_ (i:=7) (N:=some 43) (lb 10 511) rfl rfl (one_of HT_.out (by kernel_rfl)) (by decide) (fun K hK=>?_)
 refine goes_ Try.func72 (by kernel_rfl) rfl #[.agg #[.int .i64 a0_0,.bool a0_1],.slice A1 l1.length c1,.slice A315_0 (rd_L2 t312 x12_2).length c315_0,.int .i64 a2] (by rfl) rfl rfl gl ?_
 with_reducible refine(spec_l7Reach.calls k2 a0_0 a0_1 _ _ l1 _ _ (rd_L2 t312 x12_2) a2 t316 _ ?side1 ?side2 ?side3 ?side4 A15.out).mono ?_
 (case side1=>exact cm (C_below HR1.out HB.out))
 (case side2=>exact HC1.out)
 (case side3=>repeat(first|exact(by repeat(first|(with_reducible exact HR315_0.out)|(with_reducible refine C_alloc ?_ _)|(with_reducible refine C_drewN ?_ _)|(with_reducible refine C_drew ?_)|exact HR315_0.out))|(with_reducible refine C_alloc ?_ _)|(with_reducible refine C_drewN ?_ _)|(with_reducible refine C_drew ?_)))
 (case side4=>exact HC315_0.out)
 rintro e w19 ⟨rfl,hb⟩
 have HS2_:=(hb.cell (World.block_lt_of_cell? _ _ (hHeld.2.2))).trans (hHeld.2.2)
 refine⟨_,rfl,?_⟩
 replace HO_11:=ak (Kd.N_below (nm HO_11.out) hb)
 replace HL315_0:=ak (Kd.V_below (vm HL315_0.out) hb)
 replace BK304:=kb BK304 hb
 replace HR315_0:=ak (C_below (by repeat(first|(with_reducible exact HR315_0.out)|(with_reducible refine C_alloc ?_ _)|(with_reducible refine C_drewN ?_ _)|(with_reducible refine C_drew ?_)|exact HR315_0.out)) hb)
 replace HB:=ak (below_step (h1 HB.out GE304.out) hb)
 (try clear hb)
 (try clear hb2)
 (try clear hk)
 (try clear hi)
 refine hK.out _ _ ⟨bc BK304 0 rfl,bc BK304 1 rfl,HS2_⟩ (fun hHeld=>?_)
 clear hK K
 refine norm_ (a':=?_) ?_ ?_
 rotate_left
 ·show Act.put _ (some 43) _=_
  simp only[ap]
  rfl
 refine pq 9 (N:=some 45) (lb 10 1023) HT_ ?_
 refine done_ (done_of HT_.out (by kernel_rfl)) ?_
 have p317:0≤(x12_2:Int):=od
 have q317:x12_2<(t312.length:Int):=od
 obtain⟨ad317,A317_0,c317_0,e317,hx317_0,hl317_0,hi317_0⟩:=at_L2 (Kd.N_reads' HO_11.out).2.2 x12_2 p317 q317
 obtain rfl:ad315=ad317:=(by injection e317)
 obtain⟨ce317,hce317,hMe317,hcc317⟩:=Kd.N_get HO_11.out [] x12_2 p317 (by first|exact q317|exact od|(have e_:=(Kd.N_reads' HO_11.out).1;omega))
 obtain⟨ua317_0,uc317_0,rfl,ul317_0,ge317_0⟩:=Kd.FK_slice_open hMe317
 have hv317_0:=hcc317 0 _ rfl
 rw[Nat.add_zero,show((Kd.slice 3 (Kd.int .i64))).sz=1 from rfl,Nat.mul_one]at hv317_0
 replace hv317_0:=Option.some.inj (hv317_0.symm.trans hx317_0)
 injection hv317_0 with hva_ hvn_ hvc_
 rw[hva_]at ge317_0
 rw[hvc_]at ul317_0
 have HL317_0:=Aside0.mk (show Kd.V (Kd.int .i64) 3 _ w.heap.size _ _ (rd_L2 t312 x12_2)from Kd.V_mk ul317_0 ge317_0)
 clear hva_ hvn_ hvc_ ge317_0 ul317_0
 clear hcc317 hce317
 have HR317_0:=Aside0.mk hi317_0
 have HC317_0:=Aside0.mk hl317_0
 clear hi317_0 hl317_0
 replace p317:=eq_true p317
 replace q317:=eq_true q317
 try go_wp2
 go_ret2
 exact⟨_,fe,by(with_reducible repeat(first|apply Kd.V_alloc|apply Kd.V_drewN|apply Kd.V_drew));(first|exact Kd.V_mono HL317_0.out (fun _ hk=>hk.1.1)|exact Kd.V_mono HL315_0.out (fun _ hk=>hk.1)|exact Kd.V_mono HL315_0.out (fun _ hk=>hk.1.1)|exact Kd.V_mono HL315_0.out (fun _ hk=>hk.1.1.1)|exact Kd.V_mono HL315_0.out (fun _ hk=>hk.1.1.1.1)),h1 HB.out GE304.out⟩
def laws_vBig.f (l0:List Int):Option (Bool):=some (decide ((l0.length:Int)>65536))
set_option maxHeartbeats 8000000 in
set_option maxRecDepth 100000 in
theorem laws_vBig.calls (A0:Option Addr) (c0:Nat) (l0:List Int) (r:Bool) (w:World) (hr0:Kd.C (Kd.int .u8) w A0 l0.length l0) (hc0:l0.length≤c0) (h:laws_vBig.f l0=some r):
  Calls Try.prog 31 #[.slice A0 l0.length c0] w fun e w'=>e= .returned (.bool r)∧Drawn0 w w':=by
 have HR0:=Aside0.mk hr0
 have HC0:=Aside0.mk hc0
 clear hr0 hc0
 unfold laws_vBig.f at h
 have H:=h
 clear h
 obtain rfl:=Option.some.inj H
 go_enter Try.func31,Try.ntmps31
 go_wp2
 go_ret
 exact⟨by first|rfl|(simp;done)|(simp[*];done),by repeat(first|exact Drawn0.refl _|apply Drawn0.step)⟩
def IsS95 (w0 W:World) (g:Nat) (f0:List Int) (f1:Int) (f2:Int):Prop:=∃ A0 c0,W.heap[g]? =some (.cells #[.slice A0 f0.length c0,.int .i64 f1,.int .u64 f2] 95 (0,0))∧w0.heap.size≤g∧Kd.C (Kd.int .u8) w0 A0 f0.length f0
theorem IsS95.grown {w0 W:World} {g:Nat} {f0:List Int} {f1:Int} {f2:Int} {W1:World} {row:Option Nat} (h:IsS95 w0 W g f0 f1 f2) (hw:W.grownBy W1 row) (hne:some g≠row):IsS95 w0 W1 g f0 f1 f2:=by
 obtain⟨A0,c0,hb,hg,hr0⟩:=h
 exact⟨A0,c0,blk_grown hb hw hne,hg,hr0⟩
theorem IsS95.own_neN {w0 W:World} {g:Nat} {f0:List Int} {f1:Int} {f2:Int} {α:Type} {d:Kd α} {e:Nat} {base:Nat} {ok:Nat→Prop} {v:Value} {xs:List α} (h:IsS95 w0 W g f0 f1 f2) (ho:Kd.N d e W base ok v xs) (ht:e≠95):some g≠v.ownBlock:=by
 obtain⟨A0,c0,hb,hg,hr0⟩:=h
 exact Kd.N_ne ho hb ht
theorem IsS95.fresh {w0 W:World} {g:Nat} {f0:List Int} {f1:Int} {f2:Int} (h:IsS95 w0 W g f0 f1 f2):∀ k,W.heap.size≤k→k≠g:=by
 obtain⟨A0,c0,hb,hg,hr0⟩:=h
 exact Kd.freshB hb
theorem IsS95.kept {w0 W:World} {g:Nat} {f0:List Int} {f1:Int} {f2:Int} {W1:World} {S:Nat→Prop} (h:IsS95 w0 W g f0 f1 f2) (hk:Kept W W1 S) (hne:¬S g):IsS95 w0 W1 g f0 f1 f2:=by
 obtain⟨A0,c0,hb,hg,hr0⟩:=h
 exact⟨A0,c0,blk_kept hb hk hne,hg,hr0⟩
theorem IsS95.below {w0 W:World} {g:Nat} {f0:List Int} {f1:Int} {f2:Int} {W1:World} (h:IsS95 w0 W g f0 f1 f2) (hw:Below W.heap.size W W1):IsS95 w0 W1 g f0 f1 f2:=h.grown (grown_of_below hw none) (by simp)
theorem IsS95.alloc {w0 W:World} {g:Nat} {f0:List Int} {f1:Int} {f2:Int} (h:IsS95 w0 W g f0 f1 f2) (o:Obj):IsS95 w0 (W.alloc o) g f0 f1 f2:=h.below (below_alloc (Below.refl _ _) o)
theorem IsS95.drewN {w0 W:World} {g:Nat} {f0:List Int} {f1:Int} {f2:Int} (h:IsS95 w0 W g f0 f1 f2) (m:Nat):IsS95 w0 (W.drewN m) g f0 f1 f2:=h
theorem IsS95.drew {w0 W:World} {g:Nat} {f0:List Int} {f1:Int} {f2:Int} (h:IsS95 w0 W g f0 f1 f2):IsS95 w0 W.drew g f0 f1 f2:=h
theorem IsS95.at_ {w0 W:World} {g:Nat} {f0:List Int} {f1:Int} {f2:Int} {w':World} {m:Nat} (hq:W.drewN m=w') (h:IsS95 w0 W g f0 f1 f2):IsS95 w0 w' g f0 f1 f2:=by subst hq;exact IsS95.drewN h m
theorem IsS95.apart {w0 W:World} {g:Nat} {f0:List Int} {f1:Int} {f2:Int} {α:Type} {d:Kd α} {e:Nat} {base:Nat} {ok:Nat→Prop} {v:Value} {xs:List α} (h:IsS95 w0 W g f0 f1 f2) (ho:d.R e W base ok v xs) (ht:∀ q,q∈e::d.E→q≠95):d.R e W base (fun k=>ok k∧k≠g) v xs:=by
 obtain⟨A0,c0,hb,hg,hr0⟩:=h
 exact R_types ho hb ht
theorem IsS95.own_ne {w0 W:World} {g:Nat} {f0:List Int} {f1:Int} {f2:Int} {α:Type} {d:Kd α} {e:Nat} {base:Nat} {ok:Nat→Prop} {v:Value} {xs:List α} (h:IsS95 w0 W g f0 f1 f2) (ho:d.R e W base ok v xs) (ht:e≠95):some g≠v.ownBlock:=by
 obtain⟨A0,c0,hb,hg,hr0⟩:=h
 exact R_ne ho hb ht
theorem IsS95.apartQ {w0 W:World} {g:Nat} {f0:List Int} {f1:Int} {f2:Int} {α:Type} {d:Kd α} {e:Nat} {base:Nat} {ok:Nat→Prop} {v:Value} {xs:List α} (h:IsS95 w0 W g f0 f1 f2) (ho:d.Q e W base ok v xs) (ht:∀ q,q∈e::d.E→q≠95):d.Q e W base (fun k=>ok k∧k≠g) v xs:=by
 obtain⟨A0,c0,hb,hg,hr0⟩:=h
 exact Kd.Q_types ho hb ht
theorem IsS95.own_neQ {w0 W:World} {g:Nat} {f0:List Int} {f1:Int} {f2:Int} {α:Type} {d:Kd α} {e:Nat} {base:Nat} {ok:Nat→Prop} {v:Value} {xs:List α} (h:IsS95 w0 W g f0 f1 f2) (ho:d.Q e W base ok v xs) (ht:e≠95):some g≠v.ownBlock:=by
 obtain⟨A0,c0,hb,hg,hr0⟩:=h
 exact Kd.Q_ne ho hb ht
theorem IsS95.apartS {w0 W:World} {g:Nat} {f0:List Int} {f1:Int} {f2:Int} {α:Type} {d:Kd α} {e:Nat} {base:Nat} {ok:Nat→Prop} {v:Value} {xs:List α} (h:IsS95 w0 W g f0 f1 f2) (ho:d.S e W base ok v xs) (ht:∀ q,q∈e::d.E→q≠95):d.S e W base (fun k=>ok k∧k≠g) v xs:=by
 obtain⟨A0,c0,hb,hg,hr0⟩:=h
 exact Kd.S_types ho hb ht
theorem IsS95.own_neS {w0 W:World} {g:Nat} {f0:List Int} {f1:Int} {f2:Int} {α:Type} {d:Kd α} {e:Nat} {base:Nat} {ok:Nat→Prop} {v:Value} {xs:List α} (h:IsS95 w0 W g f0 f1 f2) (ho:d.S e W base ok v xs) (ht:e≠95):some g≠v.ownBlock:=by
 obtain⟨A0,c0,hb,hg,hr0⟩:=h
 exact Kd.S_ne ho hb ht
theorem IsS95.lt {w0 W:World} {g:Nat} {f0:List Int} {f1:Int} {f2:Int} (h:IsS95 w0 W g f0 f1 f2):g<W.heap.size:=by
 obtain⟨A0,c0,hb,hg,hr0⟩:=h
 exact blk_lt hb
theorem IsS95.ge {w0 W:World} {g:Nat} {f0:List Int} {f1:Int} {f2:Int} (h:IsS95 w0 W g f0 f1 f2):w0.heap.size≤g:=by
 obtain⟨A0,c0,hb,hg,hr0⟩:=h
 exact hg
theorem IsS95.ne_blk {w0 W:World} {g:Nat} {f0:List Int} {f1:Int} {f2:Int} {a:Nat} {cs:Array Value} {t:TypeId} {fr:Nat × Nat} (h:IsS95 w0 W g f0 f1 f2) (hb2:W.heap[a]? =some (.cells cs t fr)) (ht:t≠95):g≠a:=by
 obtain⟨A0,c0,hb,hg,hr0⟩:=h
 rintro rfl
 rw[hb]at hb2
 injection hb2 with hb2
 injection hb2 with _ ht2
 exact ht ht2.symm
theorem IsS95.far {w0 W:World} {g:Nat} {f0:List Int} {f1:Int} {f2:Int} {p:Addr} (h:IsS95 w0 W g f0 f1 f2) (hne:g≠p.block) (u:Value):IsS95 w0 (W.setCell p u) g f0 f1 f2:=by
 obtain⟨A0,c0,hb,hg,hr0⟩:=h
 exact⟨A0,c0,blk_far hb hne u,hg,hr0⟩
theorem cellS95_0 {W:World} {g:Nat} {A0:Option Addr} {c0:Nat} {f0:List Int} {f1:Int} {f2:Int} (h:W.heap[g]? =some (.cells #[.slice A0 f0.length c0,.int .i64 f1,.int .u64 f2] 95 (0,0))):W.cell? ⟨g,0,none⟩=some (.slice A0 f0.length c0):=(blk_cell h 0).trans rfl
theorem cellS95_1 {W:World} {g:Nat} {A0:Option Addr} {c0:Nat} {f0:List Int} {f1:Int} {f2:Int} (h:W.heap[g]? =some (.cells #[.slice A0 f0.length c0,.int .i64 f1,.int .u64 f2] 95 (0,0))):W.cell? ⟨g,1,none⟩=some (.int .i64 f1):=(blk_cell h 1).trans rfl
theorem IsS95.set_1 {w0 W:World} {g:Nat} {f0:List Int} {f1:Int} {f2:Int} (h:IsS95 w0 W g f0 f1 f2) (x:Int):IsS95 w0 (W.setCell ⟨g,1,none⟩ (.int .i64 x)) g f0 x f2:=by
 obtain⟨A0,c0,hb,hg,hr0⟩:=h
 exact⟨A0,c0,by simpa using blk_set hb 1 (.int .i64 x),hg,hr0⟩
theorem cellS95_2 {W:World} {g:Nat} {A0:Option Addr} {c0:Nat} {f0:List Int} {f1:Int} {f2:Int} (h:W.heap[g]? =some (.cells #[.slice A0 f0.length c0,.int .i64 f1,.int .u64 f2] 95 (0,0))):W.cell? ⟨g,2,none⟩=some (.int .u64 f2):=(blk_cell h 2).trans rfl
theorem IsS95.set_2 {w0 W:World} {g:Nat} {f0:List Int} {f1:Int} {f2:Int} (h:IsS95 w0 W g f0 f1 f2) (x:Int):IsS95 w0 (W.setCell ⟨g,2,none⟩ (.int .u64 x)) g f0 f1 x:=by
 obtain⟨A0,c0,hb,hg,hr0⟩:=h
 exact⟨A0,c0,by simpa using blk_set hb 2 (.int .u64 x),hg,hr0⟩
theorem IsS95.now {w0 W:World} {g:Nat} {f0:List Int} {f1:Int} {f2:Int} {f0':List Int} {f1':Int} {f2':Int} {W':World} (h:IsS95 w0 W g f0 f1 f2) (k:IsS95 w0 W' g f0' f1' f2':=by(try simp only[Int.add_zero]);repeat(first|(with_reducible first|exact Aside0.out (by assumption)|apply IsS95.alloc|apply IsS95.drewN|apply IsS95.drew|apply IsS95.set_1|apply IsS95.set_2|refine IsS95.far ?_ (Aside0.out (by assumption)) _)|exact Aside0.out (by assumption))):IsS95 w0 W' g f0' f1' f2':=k
theorem IsS95.new (w0 W:World) (A0:Option Addr) (c0:Nat) (f0:List Int) (f1:Int) (f2:Int) (hB:Below w0.heap.size w0 W) (hr0:Kd.C (Kd.int .u8) w0 A0 f0.length f0):IsS95 w0 (W.alloc (.cells #[.slice A0 f0.length c0,.int .i64 f1,.int .u64 f2] 95)) W.heap.size f0 f1 f2:=⟨A0,c0,by simpa using heap_alloc_new W _,hB.size,hr0⟩
def spec_l1Cur_next.f (s0_0:List Int) (s0_1:Int) (s0_2:Int):Option (Int × Int × Int):=if s0_1<(s0_0.length:Int)then(if 0≤s0_1 then(if(wrap64 (s0_1+1))≤(s0_0.length:Int)then(some (wrap64 (rd s0_0 s0_1),wrap64 (s0_1+1),IntKind.u64.wrap ((IntKind.u64.wrap ((IntKind.u64.wrap (s0_2*6364136223846793005))+(IntKind.u64.wrap (wrap64 (rd s0_0 s0_1)))))+462197)))else(some (wrap64 (Go.bits .and .u64 ((IntKind.u64.wrap ((IntKind.u64.wrap ((IntKind.u64.wrap (s0_2*6364136223846793005))+(IntKind.u64.wrap (wrap64 (rd s0_0 s0_1)))))+462197))/ 1099511627776) 255),wrap64 (s0_1+1),IntKind.u64.wrap ((IntKind.u64.wrap ((IntKind.u64.wrap (s0_2*6364136223846793005))+(IntKind.u64.wrap (wrap64 (rd s0_0 s0_1)))))+462197))))else(none))else(if(wrap64 (s0_1+1))≤(s0_0.length:Int)then(some (0,wrap64 (s0_1+1),IntKind.u64.wrap ((IntKind.u64.wrap ((IntKind.u64.wrap (s0_2*6364136223846793005))+0))+462197)))else(some (wrap64 (Go.bits .and .u64 ((IntKind.u64.wrap ((IntKind.u64.wrap ((IntKind.u64.wrap (s0_2*6364136223846793005))+0))+462197))/ 1099511627776) 255),wrap64 (s0_1+1),IntKind.u64.wrap ((IntKind.u64.wrap ((IntKind.u64.wrap (s0_2*6364136223846793005))+0))+462197))))
set_option maxHeartbeats 8000000 in
set_option maxRecDepth 100000 in
theorem spec_l1Cur_next.calls (g:Nat) (s0_0:List Int) (s0_1:Int) (s0_2:Int) (r1:Int) (r2:Int) (r3:Int) (w0 w:World) (hI:IsS95 w0 w g s0_0 s0_1 s0_2) (hB:Below w0.heap.size w0 w) (h:spec_l1Cur_next.f s0_0 s0_1 s0_2=some (r1,r2,r3)):
  Calls Try.prog 110 #[.pointer (some ⟨g,0,none⟩)] w fun e w'=>e= .returned (.int .i64 r1)∧IsS95 w0 w' g s0_0 r2 r3∧Below w0.heap.size w0 w'∧KeepBut w w' g none:=by
 have HI0:=Aside0.mk hI
 have HK:=Aside0.mk (KeepBut.refl w g none)
 have HL:=Aside0.mk hB.size
 clear hI
 have HW0:=Aside0.mk hB.size
 have HB:=Aside0.mk hB
 clear hB
 unfold spec_l1Cur_next.f at h
 have H:=h
 clear h
 by_cases c2:s0_1<(s0_0.length:Int)
 rotate_left
 ·rw[if_neg c2]at H
  have c2b0:decide (s0_1<(s0_0.length:Int))=false:=decide_eq_false c2
  clear c2
  by_cases c7: (wrap64 (s0_1+1))≤(s0_0.length:Int)
  ·rw[if_pos c7]at H
   have c7b0:decide ((wrap64 (s0_1+1))≤(s0_0.length:Int))=true:=decide_eq_true c7
   clear c7
   simp only[Option.some.injEq,Prod.mk.injEq]at H
   obtain⟨rfl,rfl,rfl⟩:=H
   obtain⟨ASz8_0,cSz8_0,HGz8,hgz8,HSz8_0⟩:=HI0.out
   have hcz8_0:=cellS95_0 HGz8
   have hcz8_1:=cellS95_1 HGz8
   have hcz8_2:=cellS95_2 HGz8
   have hfz8_1:=blk_frozen HGz8 1
   have hfz8_2:=blk_frozen HGz8 2
   clear HGz8 hgz8
   go_enter Try.func110,Try.ntmps110
   go_wp2
   repeat(go_quiet (fail);try go_wp2)
   go_ret
   exact⟨fe,(IsS95.now HI0.out),h1 HB.out (IsS95.ge HI0.out),(kn HK.out)⟩
  rw[if_neg c7]at H
  have c7b0:decide ((wrap64 (s0_1+1))≤(s0_0.length:Int))=false:=decide_eq_false c7
  clear c7
  simp only[Option.some.injEq,Prod.mk.injEq]at H
  obtain⟨rfl,rfl,rfl⟩:=H
  obtain⟨ASz9_0,cSz9_0,HGz9,hgz9,HSz9_0⟩:=HI0.out
  have hcz9_0:=cellS95_0 HGz9
  have hcz9_1:=cellS95_1 HGz9
  have hcz9_2:=cellS95_2 HGz9
  have hfz9_1:=blk_frozen HGz9 1
  have hfz9_2:=blk_frozen HGz9 2
  clear HGz9 hgz9
  go_enter Try.func110,Try.ntmps110
  go_wp2
  repeat(go_quiet (fail);try go_wp2)
  go_ret
  exact⟨fe,(IsS95.now HI0.out),h1 HB.out (IsS95.ge HI0.out),(kn HK.out)⟩
 rw[if_pos c2]at H
 have c2b0:decide (s0_1<(s0_0.length:Int))=true:=decide_eq_true c2
 clear c2
 obtain⟨c3,H⟩:=gi H
 have c3b0:decide (0≤s0_1)=true:=decide_eq_true c3
 clear c3
 by_cases c4: (wrap64 (s0_1+1))≤(s0_0.length:Int)
 ·rw[if_pos c4]at H
  have c4b0:decide ((wrap64 (s0_1+1))≤(s0_0.length:Int))=true:=decide_eq_true c4
  clear c4
  simp only[Option.some.injEq,Prod.mk.injEq]at H
  obtain⟨rfl,rfl,rfl⟩:=H
  obtain⟨ASz5_0,cSz5_0,HGz5,hgz5,HSz5_0⟩:=HI0.out
  have hcz5_0:=cellS95_0 HGz5
  have hcz5_1:=cellS95_1 HGz5
  have hcz5_2:=cellS95_2 HGz5
  have hfz5_1:=blk_frozen HGz5 1
  have hfz5_2:=blk_frozen HGz5 2
  clear HGz5 hgz5
  have p318:0≤(s0_1:Int):=od
  have q318:s0_1<(s0_0.length:Int):=od
  obtain⟨ad318,e318,hx318_0⟩:=Kd.at_int HSz5_0 s0_1 p318 q318
  cases e318
  replace hx318_0:=pw_cell_below HB.out hx318_0
  replace p318:=eq_true p318
  replace q318:=eq_true q318
  go_enter Try.func110,Try.ntmps110
  go_wp2
  repeat(go_quiet (fail);try go_wp2)
  go_ret
  exact⟨fe,(IsS95.now HI0.out),h1 HB.out (IsS95.ge HI0.out),(kn HK.out)⟩
 rw[if_neg c4]at H
 have c4b0:decide ((wrap64 (s0_1+1))≤(s0_0.length:Int))=false:=decide_eq_false c4
 clear c4
 simp only[Option.some.injEq,Prod.mk.injEq]at H
 obtain⟨rfl,rfl,rfl⟩:=H
 obtain⟨ASz6_0,cSz6_0,HGz6,hgz6,HSz6_0⟩:=HI0.out
 have hcz6_0:=cellS95_0 HGz6
 have hcz6_1:=cellS95_1 HGz6
 have hcz6_2:=cellS95_2 HGz6
 have hfz6_1:=blk_frozen HGz6 1
 have hfz6_2:=blk_frozen HGz6 2
 clear HGz6 hgz6
 have p318:0≤(s0_1:Int):=od
 have q318:s0_1<(s0_0.length:Int):=od
 obtain⟨ad318,e318,hx318_0⟩:=Kd.at_int HSz6_0 s0_1 p318 q318
 cases e318
 replace hx318_0:=pw_cell_below HB.out hx318_0
 replace p318:=eq_true p318
 replace q318:=eq_true q318
 go_enter Try.func110,Try.ntmps110
 go_wp2
 repeat(go_quiet (fail);try go_wp2)
 go_ret
 exact⟨fe,(IsS95.now HI0.out),h1 HB.out (IsS95.ge HI0.out),(kn HK.out)⟩
def spec_l1Cur_pick.f (s0_0:List Int) (s0_1:Int) (s0_2:Int) (a1:Int):Option (Int × Int × Int):=if a1≤1 then(some (0,s0_1,s0_2))else((spec_l1Cur_next.f s0_0 s0_1 s0_2).bind fun bt319=>(if a1>200 then((spec_l1Cur_next.f s0_0 bt319.2.1 bt319.2.2).bind fun bt322=>(if a1=0 then(none)else(some (Int.tmod (wrap64 ((wrap64 (bt319.1*256))+bt322.1)) a1,bt322.2.1,bt322.2.2))))else(if a1=0 then(none)else(some (Int.tmod bt319.1 a1,bt319.2.1,bt319.2.2)))))
set_option maxHeartbeats 8000000 in
set_option maxRecDepth 100000 in
theorem spec_l1Cur_pick.calls (g:Nat) (s0_0:List Int) (s0_1:Int) (s0_2:Int) (a1:Int) (r1:Int) (r2:Int) (r3:Int) (w0 w:World) (hI:IsS95 w0 w g s0_0 s0_1 s0_2) (hB:Below w0.heap.size w0 w) (h:spec_l1Cur_pick.f s0_0 s0_1 s0_2 a1=some (r1,r2,r3)):
  Calls Try.prog 79 #[.pointer (some ⟨g,0,none⟩),.int .i64 a1] w fun e w'=>e= .returned (.int .i64 r1)∧IsS95 w0 w' g s0_0 r2 r3∧Below w0.heap.size w0 w'∧KeepBut w w' g none:=by
 have HI0:=Aside0.mk hI
 have HK:=Aside0.mk (KeepBut.refl w g none)
 have HL:=Aside0.mk hB.size
 clear hI
 have HW0:=Aside0.mk hB.size
 have HB:=Aside0.mk hB
 clear hB
 unfold spec_l1Cur_pick.f at h
 have H:=h
 clear h
 by_cases c3:a1≤1
 ·rw[if_pos c3]at H
  have c3b0:decide (a1≤1)=true:=decide_eq_true c3
  clear c3
  simp only[Option.some.injEq,Prod.mk.injEq]at H
  obtain⟨rfl,rfl,rfl⟩:=H
  go_enter Try.func79,Try.ntmps79
  go_wp2
  go_ret
  exact⟨fe,(IsS95.now HI0.out),h1 HB.out (IsS95.ge HI0.out),(kn HK.out)⟩
 rw[if_neg c3]at H
 have c3b0:decide (a1≤1)=false:=decide_eq_false c3
 clear c3
 obtain⟨⟨t319,t320,t321⟩,A4,H⟩:=bd H;(try dsimp only at H)
 by_cases c5:a1>200
 rotate_left
 ·rw[if_neg c5]at H
  have c5b0:decide (200<a1)=false:=decide_eq_false c5
  clear c5
  by_cases c10:a1=0
  ·rw[if_pos c10]at H
   exact absurd H (by simp)
  rw[if_neg c10]at H
  have c10b0: (a1==0)=false:=beq_eq_false_iff_ne.mpr c10
  have c10b1: (a1 !=0)=true:=bne_iff_ne.mpr c10
  simp only[Option.some.injEq,Prod.mk.injEq]at H
  obtain⟨rfl,rfl,rfl⟩:=H
  go_enter Try.func79,Try.ntmps79
  go_wp2_with (first|(refine gs 9 Try.func110 #[.pointer (some ⟨g,0,none⟩)] ?_;(with_reducible refine(spec_l1Cur_next.calls g s0_0 s0_1 s0_2 t319 t320 t321 w0 _ ?side1 ?side2 A4.out).mono ?_);(case side1=>exact IsS95.now HI0.out);(case side2=>exact h1 HB.out (IsS95.ge HI0.out));rintro e w11 ⟨rfl,hi,hb,hk⟩;refine⟨_,rfl,?_⟩;replace HK:=ak (KeepBut.trans (kn HK.out) hk (.inl rfl));replace HB:=ak hb;replace HI0:=ak hi;(try clear hb);(try clear hk);(try clear hi)))
  go_ret
  exact⟨fe,(IsS95.now HI0.out),h1 HB.out (IsS95.ge HI0.out),(kn HK.out)⟩
 rw[if_pos c5]at H
 have c5b0:decide (200<a1)=true:=decide_eq_true c5
 clear c5
 obtain⟨⟨t322,t323,t324⟩,A6,H⟩:=bd H;(try dsimp only at H)
 by_cases c7:a1=0
 ·rw[if_pos c7]at H
  exact absurd H (by simp)
 rw[if_neg c7]at H
 have c7b0: (a1==0)=false:=beq_eq_false_iff_ne.mpr c7
 have c7b1: (a1 !=0)=true:=bne_iff_ne.mpr c7
 simp only[Option.some.injEq,Prod.mk.injEq]at H
 obtain⟨rfl,rfl,rfl⟩:=H
 go_enter Try.func79,Try.ntmps79
 go_wp2_with (first|(refine gs 9 Try.func110 #[.pointer (some ⟨g,0,none⟩)] ?_;(with_reducible refine(spec_l1Cur_next.calls g s0_0 s0_1 s0_2 t319 t320 t321 w0 _ ?side1 ?side2 A4.out).mono ?_);(case side1=>exact IsS95.now HI0.out);(case side2=>exact h1 HB.out (IsS95.ge HI0.out));rintro e w8 ⟨rfl,hi,hb,hk⟩;refine⟨_,rfl,?_⟩;replace HK:=ak (KeepBut.trans (kn HK.out) hk (.inl rfl));replace HB:=ak hb;replace HI0:=ak hi;(try clear hb);(try clear hk);(try clear hi))|(refine gs 15 Try.func110 #[.pointer (some ⟨g,0,none⟩)] ?_;(with_reducible refine(spec_l1Cur_next.calls g s0_0 t320 t321 t322 t323 t324 w0 _ ?side1 ?side2 A6.out).mono ?_);(case side1=>exact IsS95.now HI0.out);(case side2=>exact h1 HB.out (IsS95.ge HI0.out));rintro e w9 ⟨rfl,hi,hb,hk⟩;refine⟨_,rfl,?_⟩;replace HK:=ak (KeepBut.trans (kn HK.out) hk (.inl rfl));replace HB:=ak hb;replace HI0:=ak hi;(try clear hb);(try clear hk);(try clear hi)))
 go_ret
 exact⟨fe,(IsS95.now HI0.out),h1 HB.out (IsS95.ge HI0.out),(kn HK.out)⟩
def spec_l1Cur_one.f (s0_0:List Int) (s0_1:Int) (s0_2:Int) (a1:Int):Option (Bool × Int × Int):=(spec_l1Cur_pick.f s0_0 s0_1 s0_2 a1).bind fun bt325=>(some ((bt325.1==0),bt325.2.1,bt325.2.2))
set_option maxHeartbeats 8000000 in
set_option maxRecDepth 100000 in
theorem spec_l1Cur_one.calls (g:Nat) (s0_0:List Int) (s0_1:Int) (s0_2:Int) (a1:Int) (r1:Bool) (r2:Int) (r3:Int) (w0 w:World) (hI:IsS95 w0 w g s0_0 s0_1 s0_2) (hB:Below w0.heap.size w0 w) (h:spec_l1Cur_one.f s0_0 s0_1 s0_2 a1=some (r1,r2,r3)):
  Calls Try.prog 81 #[.pointer (some ⟨g,0,none⟩),.int .i64 a1] w fun e w'=>e= .returned (.bool r1)∧IsS95 w0 w' g s0_0 r2 r3∧Below w0.heap.size w0 w'∧KeepBut w w' g none:=by
 have HI0:=Aside0.mk hI
 have HK:=Aside0.mk (KeepBut.refl w g none)
 have HL:=Aside0.mk hB.size
 clear hI
 have HW0:=Aside0.mk hB.size
 have HB:=Aside0.mk hB
 clear hB
 unfold spec_l1Cur_one.f at h
 have H:=h
 clear h
 obtain⟨⟨t325,t326,t327⟩,A3,H⟩:=bd H;(try dsimp only at H)
 simp only[Option.some.injEq,Prod.mk.injEq]at H
 obtain⟨rfl,rfl,rfl⟩:=H
 go_enter Try.func81,Try.ntmps81
 go_wp2_with (first|(refine gs 7 Try.func79 #[.pointer (some ⟨g,0,none⟩),.int .i64 a1] ?_;(with_reducible refine(spec_l1Cur_pick.calls g s0_0 s0_1 s0_2 a1 t325 t326 t327 w0 _ ?side1 ?side2 A3.out).mono ?_);(case side1=>exact IsS95.now HI0.out);(case side2=>exact h1 HB.out (IsS95.ge HI0.out));rintro e w4 ⟨rfl,hi,hb,hk⟩;refine⟨_,rfl,?_⟩;replace HK:=ak (KeepBut.trans (kn HK.out) hk (.inl rfl));replace HB:=ak hb;replace HI0:=ak hi;(try clear hb);(try clear hk);(try clear hi)))
 go_ret
 exact⟨fe,(IsS95.now HI0.out),h1 HB.out (IsS95.ge HI0.out),(kn HK.out)⟩
def spec_l1Cur_among.f (s0_0:List Int) (s0_1:Int) (s0_2:Int) (l1:List Int):Option (Int × Int × Int):=(spec_l1Cur_pick.f s0_0 s0_1 s0_2 (l1.length:Int)).bind fun bt328=>(if 0≤bt328.1 then(if bt328.1<(l1.length:Int)then(some (rd l1 bt328.1,bt328.2.1,bt328.2.2))else(none))else(none))
set_option maxHeartbeats 8000000 in
set_option maxRecDepth 100000 in
theorem spec_l1Cur_among.calls (g:Nat) (s0_0:List Int) (s0_1:Int) (s0_2:Int) (A1:Option Addr) (c1:Nat) (l1:List Int) (r1:Int) (r2:Int) (r3:Int) (w0 w:World) (hI:IsS95 w0 w g s0_0 s0_1 s0_2) (hB:Below w0.heap.size w0 w) (hr1:Kd.C (Kd.int .i64) w A1 l1.length l1) (hc1:l1.length≤c1) (hf1:∀ ad,A1=some ad→0<l1.length→ad.block≠g) (h:spec_l1Cur_among.f s0_0 s0_1 s0_2 l1=some (r1,r2,r3)):
  Calls Try.prog 82 #[.pointer (some ⟨g,0,none⟩),.slice A1 l1.length c1] w fun e w'=>e= .returned (.int .i64 r1)∧IsS95 w0 w' g s0_0 r2 r3∧Below w0.heap.size w0 w'∧KeepBut w w' g none:=by
 have HR1:=Aside0.mk hr1
 have HC1:=Aside0.mk hc1
 clear hr1 hc1
 have HI0:=Aside0.mk hI
 have HK:=Aside0.mk (KeepBut.refl w g none)
 have HL:=Aside0.mk hB.size
 clear hI
 have HW0:=Aside0.mk hB.size
 have HB:=Aside0.mk hB
 clear hB
 unfold spec_l1Cur_among.f at h
 have H:=h
 clear h
 obtain⟨⟨t328,t329,t330⟩,A3,H⟩:=bd H;(try dsimp only at H)
 obtain⟨c4,H⟩:=gi H
 have c4b0:decide (0≤t328)=true:=decide_eq_true c4
 clear c4
 obtain⟨c5,H⟩:=gi H
 have c5b0:decide (t328<(l1.length:Int))=true:=decide_eq_true c5
 clear c5
 simp only[Option.some.injEq,Prod.mk.injEq]at H
 obtain⟨rfl,rfl,rfl⟩:=H
 go_enter Try.func82,Try.ntmps82
 go_wp2_with (first|(refine gs 9 Try.func79 #[.pointer (some ⟨g,0,none⟩),.int .i64 (l1.length:Int)] ?_;(with_reducible refine(spec_l1Cur_pick.calls g s0_0 s0_1 s0_2 (l1.length:Int) t328 t329 t330 w0 _ ?side1 ?side2 A3.out).mono ?_);(case side1=>exact IsS95.now HI0.out);(case side2=>exact h1 HB.out (IsS95.ge HI0.out));rintro e w6 ⟨rfl,hi,hb,hk⟩;refine⟨_,rfl,?_⟩;replace HK:=ak (KeepBut.trans (kn HK.out) hk (.inl rfl));replace HB:=ak hb;replace HI0:=ak hi;(try clear hb);(try clear hk);(try clear hi);have p331:0≤(t328:Int):=od;have q331:t328<(l1.length:Int):=od;obtain⟨ad331,e331,hx331_0⟩:=Kd.at_int HR1.out t328 p331 q331;cases e331;replace hx331_0:=keep_cell HK.out hx331_0 (by first|(rw[add_block];exact hf1 _ rfl (by omega))|exact hf1 _ rfl (by omega)|exact hf1 ad331 rfl (by omega));replace p331:=eq_true p331;replace q331:=eq_true q331))
 go_ret
 exact⟨fe,(IsS95.now HI0.out),h1 HB.out (IsS95.ge HI0.out),(kn HK.out)⟩
end
end Go.Proofs.Ythagkpoinjpmfaa.QFnReaches
