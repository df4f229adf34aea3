/- Functions that the law FnRelays comes to, and their walks: no condition but those named. -/
import Derived.Test.YthagkpoinjpmfaaQFnRelaysx0
import Derived.Test.YthagkpoinjpmfaaQFnRelaysx3
import Derived.Test.YthagkpoinjpmfaaQFnRelaysx4
namespace Go.Proofs.Ythagkpoinjpmfaa.QFnRelays
open Go.RowKit Go.Proofs.YthagkpoinjpmfaaW.PrintWords Go.Proofs.YthagkpoinjpmfaaW.PrintLast Go.Proofs.YthagkpoinjpmfaaW.PrintMore Go.Proofs.Ythagkpoinjpmfaa.Short
attribute [local go_sem] max2_int min2_int max_two min_two max_three min_three max_four min_four
set_option linter.unusedVariables false
set_option linter.unusedSimpArgs false
section
open Kd
def spec_l7Relay.l0:Nat→List (S63)→Int→List (S70)→List Int→Int→Int→Int→Bool→Option (Bool)
 | 0,_,_,_,_,_,_,_,_=>none
 | k+1,x1,x3,x4,x11,x12,x13,x214000,x214001=>if x13<(x4.length:Int)then(if 0≤x13 then((spec_l1In.f ((rd_T70 x4 x13).f0) 0 (wrap64 ((x1.length:Int)-1))).bind fun t220=>(if t220=true then((spec_l1Has.f k x11 ((rd_T70 x4 x13).f0)).bind fun t221=>(if t221=true then(some false)else(if((rd_T70 x4 x13).f1)=x12 then((spec_l1In.f ((rd_T70 x4 x13).f2) (wrap64 (((rd_T70 x4 x13).f1)+1)) x3).bind fun t222=>(if t222=true then(if 0≤((rd_T70 x4 x13).f0)then(if((rd_T70 x4 x13).f0)<(x1.length:Int)then((spec_l7Steps.f x214000 x214001 ((rd_T63 x1 ((rd_T70 x4 x13).f0)).f0) ((rd_T63 x1 ((rd_T70 x4 x13).f0)).f1) ((rd_T63 x1 ((rd_T70 x4 x13).f0)).f2) ((rd_T70 x4 x13).f1) ((rd_T70 x4 x13).f2)).bind fun t224=>(if t224>((rd_T63 x1 ((rd_T70 x4 x13).f0)).f1)then(some false)else(if x11.length<17592186044416 then(spec_l7Relay.l0 k x1 x3 x4 (x11++[(rd_T70 x4 x13).f0]) ((rd_T70 x4 x13).f2) (wrap64 (x13+1)) x214000 x214001)else(none))))else(none))else(none))else(some false)))else(some false))))else(some false)))else(none))else(some (x12==x3))
def spec_l7Relay.f (k:Nat) (a0_0:Int) (a0_1:Bool) (l1:List (S63)) (a2:Int) (a3:Int) (l4:List (S70)):Option (Bool):=spec_l7Relay.l0 k l1 a3 l4 (([]:List Int)) a2 0 a0_0 a0_1
theorem spec_l7Relay.mono_l:∀ k,(∀ y0 y1 y2 y3 y4 y5 y6 y7,LeO (spec_l7Relay.l0 k y0 y1 y2 y3 y4 y5 y6 y7) (spec_l7Relay.l0 (k+1) y0 y1 y2 y3 y4 y5 y6 y7))
 | 0=>by
  refine ?_<;>(intros;intro r h;simp[spec_l7Relay.l0]at h)
 | k+1=>by
  have ih0:=spec_l7Relay.mono_l k
  refine ?_<;>intros<;>unfold spec_l7Relay.l0<;>(repeat' (with_reducible first|exact ih0 ..|exact spec_l1Has.mono ..|exact LeO.refl _|exact LeO.none _|refine LeO.ite ?_ ?_|refine LeO.bind ?_ (fun _=>?_)))
theorem spec_l7Relay.mono:∀ a0 a1 a2 a3 a4 a5 k,LeO (spec_l7Relay.f k a0 a1 a2 a3 a4 a5) (spec_l7Relay.f (k+1) a0 a1 a2 a3 a4 a5):=by
 intro a0 a1 a2 a3 a4 a5 k
 have ih0:=spec_l7Relay.mono_l k
 unfold spec_l7Relay.f
 repeat' (with_reducible first|exact ih0 ..|exact spec_l1Has.mono ..|exact LeO.refl _|exact LeO.none _|refine LeO.ite ?_ ?_|refine LeO.bind ?_ (fun _=>?_))
def spec_l7Relay.T6:Bool × List (List Nat × List Nat):=(true,[([],[]),([],[]),([0,1],[0,1]),([2],[2]),([3],[3]),([],[]),([],[]),([5,6],[5,6]),([7],[7]),([8],[8]),([],[]),([],[]),([10,11],[10,11]),([12],[12]),([13],[13]),([4,0,1,2,3,4],[4]),([9,15,0,1,2,3,4,5,6,7,8,9,15],[9]),([14,16,0,1,2,3,4,5,6,7,8,9,10,11,12,13,14,15,16],[14])])
def spec_l7Relay.B6:List Nat:=[0,0,3,7,15,0,0,96,224,480,0,0,3072,7168,15360,31,33791,131071]
theorem spec_l7Relay.tab6:rtab .any (opsOf Try.f60 6)=spec_l7Relay.T6:=by kernel_rfl
theorem spec_l7Relay.bits6:waitsOk spec_l7Relay.T6.2 spec_l7Relay.B6=true:=by kernel_rfl
def spec_l7Relay.T7:Bool × List (List Nat × List Nat):=(true,[([],[]),([],[]),([1],[1]),([2],[2]),([0,3],[0,3]),([4],[4]),([5,4],[5]),([6],[6]),([6],[6]),([7,8,6,6],[6,7,8]),([6,9],[6,9]),([10,9],[10]),([11],[11]),([11],[11]),([12,13,11],[11,12,13]),([11,14],[11,14]),([15,11],[15]),([16],[16]),([16],[16]),([18,16],[16,18]),([16],[16]),([17,19,20,16,16],[16,17,19,20]),([21,16],[16,21]),([16,22],[16,22]),([23,21],[23]),([24],[24]),([24],[24]),([24],[24]),([26,27,24],[24,26,27]),([28,24],[24,28]),([24],[24]),([24],[24]),([25,29,30,31,24,24],[24,25,29,30,31]),([24],[24]),([24],[24]),([33,34,24],[24,33,34]),([35,24],[24,35]),([36,24],[24,36]),([32,37,24],[24,32,37]),([24,38],[24,38])])
def spec_l7Relay.B7:List Nat:=[0,0,2,6,15,31,63,127,127,511,1023,2047,4095,4095,16383,32767,65535,131071,131071,393215,131071,2097151,4194303,8388607,16777215,33554431,33554431,33554431,234881023,503316479,33554431,33554431,4294967295,33554431,33554431,25803358207,60163096575,128882573311,274877906943,549755813887]
theorem spec_l7Relay.tab7:rtab .any (opsOf Try.f60 7)=spec_l7Relay.T7:=by kernel_rfl
theorem spec_l7Relay.bits7:waitsOk spec_l7Relay.T7.2 spec_l7Relay.B7=true:=by kernel_rfl
set_option maxHeartbeats 8000000 in
set_option maxRecDepth 100000 in
theorem spec_l7Relay.calls (k:Nat) (a0_0:Int) (a0_1:Bool) (A1:Option Addr) (c1:Nat) (l1:List (S63)) (a2:Int) (a3:Int) (A4:Option Addr) (c4:Nat) (l4:List (S70)) (r:Bool) (w:World) (hr1:Kd.C k63 w A1 l1.length l1) (hc1:l1.length≤c1) (hr4:Kd.C k70 w A4 l4.length l4) (hc4:l4.length≤c4) (h:spec_l7Relay.f k a0_0 a0_1 l1 a2 a3 l4=some r):
  Calls Try.prog 60 #[.agg #[.int .i64 a0_0,.bool a0_1],.slice A1 l1.length c1,.int .i64 a2,.int .i64 a3,.slice A4 l4.length c4] w fun e w'=>e= .returned (.bool r)∧Below w.heap.size w w':=by
 have hu28:=Try.underlying28
 have hu63:=Try.underlying63
 have HR1:=Aside0.mk hr1
 have HC1:=Aside0.mk hc1
 clear hr1 hc1
 have HR4:=Aside0.mk hr4
 have HC4:=Aside0.mk hc4
 clear hr4 hc4
 have HB:=Aside0.mk (Below.refl w.heap.size w)
 unfold spec_l7Relay.f at h
 have H:=h
 clear h
 generalize hy214: ([]:List Int)=y214 at H
 have Ny214:=ak hy214.symm
 clear hy214
 have H':=Aside0.mk H
 clear H
 go_enter Try.func60,Try.ntmps60
 go_wp2_with (first|(refine bx 5 #[.int .i64 a0_0,.bool a0_1] 28 ?_;intro gb213 hg w6 hbox hb;have BK213:=ak hbox;have GW213:=gw HB hg;have GE213:=gw HB hg;replace HB:=bs HB hb;clear hb hbox hg)|((with_reducible refine gate_dst (N:=17) rfl ?_);refine R_lit (Kd.int .i64) _ 3 ?hg (N:=17) ?hd (xs:=([]:List Int)) (inner:=[]) (ok:=fun _=>True) (okp:=fun _=>True) ?hr ?hp (fun _ hk=>hk) trivial (Below.refl _ _) (Nat.le_refl _) (by simp) ?_;(case hd=>rfl);(case hg=>rfl);(case hr=>first|(go_simp;done)|(go_simp;rfl));(case hp=>exact(Reps.none _ _));intro v215 w7 ho8 hb hg_ hnew_;clear hg_ hnew_;(first|rw[←Ny214.out]at ho8|(simp only[Int.reduceToNat]at ho8;rw[←Ny214.out]at ho8));have HO216:=ak (R_lower ho8 (below_size (h1 HB.out GE213.out)));replace BK213:=kb BK213 hb;replace HB:=ak (below_step (h1 HB.out GE213.out) hb);clear hb ho8))
 go_loopg [11,12,13] k (fun kq v11 v12 v13 w'=>∃ (x11_1:List Int) (x12_1:Int) (x13_1:Int),v12= .int .i64 x12_1∧v13= .int .i64 x13_1∧Aside0 (spec_l7Relay.l0 kq l1 a3 l4 x11_1 x12_1 x13_1 a0_0 a0_1=some r)∧Aside0 (kq≤k)∧Aside0 (Kd.R (Kd.int .i64) 3 w' w.heap.size (fun _=>True) v11 x11_1)∧Aside0 (w'.heap[gb213]? =some (.cells #[.int .i64 a0_0,.bool a0_1] 28 (0,0)))∧Aside0 (Below w.heap.size w w'))
 case atStart=>exact⟨(y214),(a2),(0),fd,fd,H',⟨Nat.le_refl _⟩,⟨rm HO216.out⟩,⟨bm BK213.out⟩,⟨h1 HB.out GE213.out⟩⟩
 clear H'
 try clear c1
 try clear p2
 try clear c4
 try clear c6
 obtain⟨x11_1,x12_1,x13_1,rfl,rfl,HA,HK1,HO_11,BK213,HB⟩:=hrel
 obtain _|k1:=gk;·cases HA.out
 obtain⟨H⟩:=HA
 simp only[spec_l7Relay.l0]at H
 by_cases c9:x13_1<(l4.length:Int)
 rotate_left
 ·rw[if_neg c9]at H
  have c9b0:decide (x13_1<(l4.length:Int))=false:=decide_eq_false c9
  clear c9
  obtain rfl:=Option.some.inj H
  go_wp2
  go_ret
  exact⟨fe,h1 HB.out GE213.out⟩
 rw[if_pos c9]at H
 have c9b0:decide (x13_1<(l4.length:Int))=true:=decide_eq_true c9
 clear c9
 obtain⟨c10,H⟩:=gi H
 have c10b0:decide (0≤x13_1)=true:=decide_eq_true c10
 clear c10
 obtain⟨t220,A11,H⟩:=bd H;(try dsimp only at H)
 by_cases c12:t220=true
 rotate_left
 ·replace c12:=Bool.eq_false_iff.mpr c12
  subst c12
  rw[if_neg (show ¬(false=true)by decide)]at H
  obtain rfl:=Option.some.inj H
  try go_wp2
  replace HO_11:=ak (R_drew HO_11.out)
  replace BK213:=ak (blk_drew BK213.out)
  replace HB:=ak (below_drew1 HB.out)
  have p217:0≤(x13_1:Int):=od
  have q217:x13_1<(l4.length:Int):=od
  obtain⟨ad217,e217,hx217_0,hx217_1,hx217_2⟩:=at_T70 HR4.out x13_1 p217 q217
  have hw217_2:=hx217_2
  have hw217_1:=hx217_1
  have hw217_0:=hx217_0
  cases e217
  replace hx217_0:=hc HB hx217_0
  replace hx217_1:=hc HB hx217_1
  replace hx217_2:=hc HB hx217_2
  replace p217:=eq_true p217
  replace q217:=eq_true q217
  have p218:0≤(x13_1:Int):=od
  have q218:x13_1<(l4.length:Int):=od
  obtain⟨ad218,e218,hx218_0,hx218_1,hx218_2⟩:=at_T70 HR4.out x13_1 p218 q218
  have hw218_2:=hx218_2
  have hw218_1:=hx218_1
  have hw218_0:=hx218_0
  obtain rfl:ad217=ad218:=(by injection e218)
  replace hx218_0:=hc HB hx218_0
  replace hx218_1:=hc HB hx218_1
  replace hx218_2:=hc HB hx218_2
  replace p218:=eq_true p218
  replace q218:=eq_true q218
  have p219:0≤(x13_1:Int):=od
  have q219:x13_1<(l4.length:Int):=od
  obtain⟨ad219,e219,hx219_0,hx219_1,hx219_2⟩:=at_T70 HR4.out x13_1 p219 q219
  have hw219_2:=hx219_2
  have hw219_1:=hx219_1
  have hw219_0:=hx219_0
  obtain rfl:ad217=ad219:=(by injection e219)
  replace hx219_0:=hc HB hx219_0
  replace hx219_1:=hc HB hx219_1
  replace hx219_2:=hc HB hx219_2
  replace p219:=eq_true p219
  replace q219:=eq_true q219
  refine start_ (n:=18) (S:=fun w'=>w'.cell? (ad217.add ((x13_1).toNat*3))=some (.int .i64 ((rd_T70 l4 x13_1).f0))∧w'.cell? ⟨(ad217.add ((x13_1).toNat*3)).block,(ad217.add ((x13_1).toNat*3)).off+1,none⟩=some (.int .i64 ((rd_T70 l4 x13_1).f1))∧w'.cell? ⟨(ad217.add ((x13_1).toNat*3)).block,(ad217.add ((x13_1).toNat*3)).off+2,none⟩=some (.int .i64 ((rd_T70 l4 x13_1).f2))∧w'.cell? (ad217.add ((x13_1).toNat*3))=some (.int .i64 ((rd_T70 l4 x13_1).f0))∧w'.cell? ⟨(ad217.add ((x13_1).toNat*3)).block,(ad217.add ((x13_1).toNat*3)).off+1,none⟩=some (.int .i64 ((rd_T70 l4 x13_1).f1))∧w'.cell? ⟨(ad217.add ((x13_1).toNat*3)).block,(ad217.add ((x13_1).toNat*3)).off+2,none⟩=some (.int .i64 ((rd_T70 l4 x13_1).f2))∧w'.cell? (ad217.add ((x13_1).toNat*3))=some (.int .i64 ((rd_T70 l4 x13_1).f0))∧w'.cell? ⟨(ad217.add ((x13_1).toNat*3)).block,(ad217.add ((x13_1).toNat*3)).off+1,none⟩=some (.int .i64 ((rd_T70 l4 x13_1).f1))∧w'.cell? ⟨(ad217.add ((x13_1).toNat*3)).block,(ad217.add ((x13_1).toNat*3)).off+2,none⟩=some (.int .i64 ((rd_T70 l4 x13_1).f2))) (ds:=[]) (lb 18 0) (by kernel_rfl) rfl rfl ⟨((HB.out.cell (World.block_lt_of_cell? w _ hw217_0)).trans hw217_0),((HB.out.cell (World.block_lt_of_cell? w _ hw217_1)).trans hw217_1),((HB.out.cell (World.block_lt_of_cell? w _ hw217_2)).trans hw217_2),((HB.out.cell (World.block_lt_of_cell? w _ hw218_0)).trans hw218_0),((HB.out.cell (World.block_lt_of_cell? w _ hw218_1)).trans hw218_1),((HB.out.cell (World.block_lt_of_cell? w _ hw218_2)).trans hw218_2),((HB.out.cell (World.block_lt_of_cell? w _ hw219_0)).trans hw219_0),((HB.out.cell (World.block_lt_of_cell? w _ hw219_1)).trans hw219_1),((HB.out.cell (World.block_lt_of_cell? w _ hw219_2)).trans hw219_2)⟩ (fun hHeld=>?_);refine with_tabW spec_l7Relay.tab6 spec_l7Relay.bits6 (fun HT_ HW_=>?_)
  generalize wr.drew=w41 at HO_11 BK213 HB hx217_0 hx217_1 hx217_2 hx218_0 hx218_1 hx218_2 hx219_0 hx219_1 hx219_2 hHeld⊢
  refine pq 0 (N:=some 25) (lb 18 1) HT_ ?_
  refine pq 1 (N:=some 26) (lb 18 3) HT_ ?_
  refine pq 2 (N:=some 27) (lb 18 7) HT_ ?_
  refine pq 3 (N:=some 28) (lb 18 15) HT_ ?_
  refine pq 5 (N:=some 30) (lb 18 47) HT_ ?_
  refine pq 6 (N:=some 31) (lb 18 111) HT_ ?_
  refine pq 7 (N:=some 32) (lb 18 239) HT_ ?_
  refine pq 8 (N:=some 33) (lb 18 495) HT_ ?_
  refine pq 10 (N:=some 35) (lb 18 1519) HT_ ?_
  refine pq 11 (N:=some 36) (lb 18 3567) HT_ ?_
  refine pq 12 (N:=some 37) (lb 18 7663) HT_ ?_
  refine pq 13 (N:=some 38) (lb 18 15855) HT_ ?_
  refine take_ (i:=4) (N:=some 29) (v:=?_) (a':=?_) (lb 18 15871) rfl rfl (take_ofW HT_.out HW_.out (by kernel_rfl)) (fun _ _ _ h=>h) (Or.inl ⟨by rfl,?_⟩) hHeld ?_ ?_
  rotate_left
  ·rintro w' ⟨s0,s1,s2,s3,s4,s5,s6,s7,s8⟩
   go_simp
   with_reducible rfl
  rotate_left
  ·simp only[ap]
   rfl
  refine pq 15 (N:=some 14) (lb 18 48639) HT_ ?_
  refine take_ (i:=9) (N:=some 34) (v:=?_) (a':=?_) (lb 18 49151) rfl rfl (take_ofW HT_.out HW_.out (by kernel_rfl)) (fun _ _ _ h=>h) (Or.inl ⟨by rfl,?_⟩) hHeld ?_ ?_
  rotate_left
  ·rintro w' ⟨s0,s1,s2,s3,s4,s5,s6,s7,s8⟩
   go_simp
   with_reducible rfl
  rotate_left
  ·simp only[ap]
   rfl
  refine pq 16 (N:=some 15) (lb 18 114687) HT_ ?_
  refine take_ (i:=14) (N:=some 39) (v:=?_) (a':=?_) (lb 18 131071) rfl rfl (take_ofW HT_.out HW_.out (by kernel_rfl)) (fun _ _ _ h=>h) (Or.inl ⟨by rfl,?_⟩) hHeld ?_ ?_
  rotate_left
  ·rintro w' ⟨s0,s1,s2,s3,s4,s5,s6,s7,s8⟩
   go_simp
   with_reducible rfl
  rotate_left
  ·simp only[ap]
   rfl
  refine pq 17 (N:=some 16) (lb 18 262143) HT_ ?_
  refine done_ (done_of HT_.out (by kernel_rfl)) ?_
  try go_wp2
  replace HO_11:=ak (R_drew HO_11.out)
  replace BK213:=ak (blk_drew BK213.out)
  replace HB:=ak (below_drew1 HB.out)
  refine start_ (n:=40) (S:=fun w'=>True) (ds:=[]) (lb 40 0) (by kernel_rfl) rfl rfl trivial (fun hHeld=>?_);refine with_tabW spec_l7Relay.tab7 spec_l7Relay.bits7 (fun HT_ HW_=>?_)
  generalize w41.drew=w42 at HO_11 BK213 HB hHeld⊢
  refine pq 0 (N:=some 40) (lb 40 1) HT_ ?_
  refine pq 1 (N:=some 41) (lb 40 3) HT_ ?_
  refine pq 2 (N:=some 42) (lb 40 7) HT_ ?_
  refine pq 3 (N:=some 43) (lb 40 15) HT_ ?_
  refine one_ (i:=4) (N:=some 44) (lb 40 31) rfl rfl (one_of HT_.out (by kernel_rfl)) (by decide) (fun K hK=>?_)
  refine goes_ Try.func100 (by kernel_rfl) rfl #[.int .i64 ((rd_T70 l4 x13_1).f0),.int .i64 0,.int .i64 (wrap64 ((l1.length:Int)-1))] (by rfl) rfl rfl gl ?_
  with_reducible refine(spec_l1In.calls ((rd_T70 l4 x13_1).f0) 0 (wrap64 ((l1.length:Int)-1)) false _ A11.out).mono ?_
  rintro e w' ⟨rfl,⟨nd,rfl⟩⟩
  refine⟨_,rfl,?_⟩
  refine hK.out _ _ trivial (fun hHeld=>?_)
  clear hK K
  refine norm_ (a':=?_) ?_ ?_
  rotate_left
  ·show Act.put _ (some 44) _=_
   simp only[ap]
   rfl
  refine pq 5 (N:=some 45) (lb 40 63) HT_ ?_
  refine pq 6 (N:=some 46) (lb 40 127) HT_ ?_
  refine pz 7 (N:=some 47) (lb 40 255) HT_ ?_
  refine pz 8 (N:=some 48) (lb 40 511) HT_ ?_
  refine pz 9 (N:=some 49) (lb 40 1023) HT_ ?_
  refine pq 10 (N:=some 50) (lb 40 2047) HT_ ?_
  refine pq 11 (N:=some 51) (lb 40 4095) HT_ ?_
  refine pz 12 (N:=some 52) (lb 40 8191) HT_ ?_
  refine pz 13 (N:=some 53) (lb 40 16383) HT_ ?_
  refine pz 14 (N:=some 54) (lb 40 32767) HT_ ?_
  refine pq 15 (N:=some 55) (lb 40 65535) HT_ ?_
  refine pq 16 (N:=some 56) (lb 40 131071) HT_ ?_
  refine pz 17 (N:=some 57) (lb 40 262143) HT_ ?_
  refine pz 18 (N:=some 58) (lb 40 524287) HT_ ?_
  refine pz 19 (N:=some 59) (lb 40 1048575) HT_ ?_
  refine pz 20 (N:=some 60) (lb 40 2097151) HT_ ?_
  refine pz 21 (N:=some 61) (lb 40 4194303) HT_ ?_
  refine pz 22 (N:=some 62) (lb 40 8388607) HT_ ?_
  refine pq 23 (N:=some 63) (lb 40 16777215) HT_ ?_
  refine pq 24 (N:=some 64) (lb 40 33554431) HT_ ?_
  refine pz 25 (N:=some 65) (lb 40 67108863) HT_ ?_
  refine pz 26 (N:=some 66) (lb 40 134217727) HT_ ?_
  refine pz 27 (N:=some 67) (lb 40 268435455) HT_ ?_
  refine pz 28 (N:=some 68) (lb 40 536870911) HT_ ?_
  refine pz 29 (N:=some 69) (lb 40 1073741823) HT_ ?_
  refine pz 30 (N:=some 70) (lb 40 2147483647) HT_ ?_
  refine pz 31 (N:=some 71) (lb 40 4294967295) HT_ ?_
  refine pz 32 (N:=some 72) (lb 40 8589934591) HT_ ?_
  refine pz 33 (N:=some 73) (lb 40 17179869183) HT_ ?_
  refine pz 34 (N:=some 74) (lb 40 34359738367) HT_ ?_
  refine pz 35 (N:=some 75) (lb 40 68719476735) HT_ ?_
  refine pz 36 (N:=some 76) (lb 40 137438953471) HT_ ?_
  refine pz 37 (N:=some 77) (lb 40 274877906943) HT_ ?_
  refine pz 38 (N:=some 78) (lb 40 549755813887) HT_ ?_
  refine pq 39 (N:=some 79) (lb 40 1099511627775) HT_ ?_
  refine done_ (done_of HT_.out (by kernel_rfl)) ?_
  try go_wp2
  go_ret
  exact⟨fe,h1 HB.out GE213.out⟩
 subst c12
 rw[if_pos rfl]at H
 obtain⟨t221,A13,H⟩:=bd H;(try dsimp only at H)
 by_cases c14:t221=true
 ·subst c14
  rw[if_pos rfl]at H
  obtain rfl:=Option.some.inj H
  try go_wp2
  replace HO_11:=ak (R_drew HO_11.out)
  replace BK213:=ak (blk_drew BK213.out)
  replace HB:=ak (below_drew1 HB.out)
  have p217:0≤(x13_1:Int):=od
  have q217:x13_1<(l4.length:Int):=od
  obtain⟨ad217,e217,hx217_0,hx217_1,hx217_2⟩:=at_T70 HR4.out x13_1 p217 q217
  have hw217_2:=hx217_2
  have hw217_1:=hx217_1
  have hw217_0:=hx217_0
  cases e217
  replace hx217_0:=hc HB hx217_0
  replace hx217_1:=hc HB hx217_1
  replace hx217_2:=hc HB hx217_2
  replace p217:=eq_true p217
  replace q217:=eq_true q217
  have p218:0≤(x13_1:Int):=od
  have q218:x13_1<(l4.length:Int):=od
  obtain⟨ad218,e218,hx218_0,hx218_1,hx218_2⟩:=at_T70 HR4.out x13_1 p218 q218
  have hw218_2:=hx218_2
  have hw218_1:=hx218_1
  have hw218_0:=hx218_0
  obtain rfl:ad217=ad218:=(by injection e218)
  replace hx218_0:=hc HB hx218_0
  replace hx218_1:=hc HB hx218_1
  replace hx218_2:=hc HB hx218_2
  replace p218:=eq_true p218
  replace q218:=eq_true q218
  have p219:0≤(x13_1:Int):=od
  have q219:x13_1<(l4.length:Int):=od
  obtain⟨ad219,e219,hx219_0,hx219_1,hx219_2⟩:=at_T70 HR4.out x13_1 p219 q219
  have hw219_2:=hx219_2
  have hw219_1:=hx219_1
  have hw219_0:=hx219_0
  obtain rfl:ad217=ad219:=(by injection e219)
  replace hx219_0:=hc HB hx219_0
  replace hx219_1:=hc HB hx219_1
  replace hx219_2:=hc HB hx219_2
  replace p219:=eq_true p219
  replace q219:=eq_true q219
  refine start_ (n:=18) (S:=fun w'=>w'.cell? (ad217.add ((x13_1).toNat*3))=some (.int .i64 ((rd_T70 l4 x13_1).f0))∧w'.cell? ⟨(ad217.add ((x13_1).toNat*3)).block,(ad217.add ((x13_1).toNat*3)).off+1,none⟩=some (.int .i64 ((rd_T70 l4 x13_1).f1))∧w'.cell? ⟨(ad217.add ((x13_1).toNat*3)).block,(ad217.add ((x13_1).toNat*3)).off+2,none⟩=some (.int .i64 ((rd_T70 l4 x13_1).f2))∧w'.cell? (ad217.add ((x13_1).toNat*3))=some (.int .i64 ((rd_T70 l4 x13_1).f0))∧w'.cell? ⟨(ad217.add ((x13_1).toNat*3)).block,(ad217.add ((x13_1).toNat*3)).off+1,none⟩=some (.int .i64 ((rd_T70 l4 x13_1).f1))∧w'.cell? ⟨(ad217.add ((x13_1).toNat*3)).block,(ad217.add ((x13_1).toNat*3)).off+2,none⟩=some (.int .i64 ((rd_T70 l4 x13_1).f2))∧w'.cell? (ad217.add ((x13_1).toNat*3))=some (.int .i64 ((rd_T70 l4 x13_1).f0))∧w'.cell? ⟨(ad217.add ((x13_1).toNat*3)).block,(ad217.add ((x13_1).toNat*3)).off+1,none⟩=some (.int .i64 ((rd_T70 l4 x13_1).f1))∧w'.cell? ⟨(ad217.add ((x13_1).toNat*3)).block,(ad217.add ((x13_1).toNat*3)).off+2,none⟩=some (.int .i64 ((rd_T70 l4 x13_1).f2))) (ds:=[]) (lb 18 0) (by kernel_rfl) rfl rfl ⟨((HB.out.cell (World.block_lt_of_cell? w _ hw217_0)).trans hw217_0),((HB.out.cell (World.block_lt_of_cell? w _ hw217_1)).trans hw217_1),((HB.out.cell (World.block_lt_of_cell? w _ hw217_2)).trans hw217_2),((HB.out.cell (World.block_lt_of_cell? w _ hw218_0)).trans hw218_0),((HB.out.cell (World.block_lt_of_cell? w _ hw218_1)).trans hw218_1),((HB.out.cell (World.block_lt_of_cell? w _ hw218_2)).trans hw218_2),((HB.out.cell (World.block_lt_of_cell? w _ hw219_0)).trans hw219_0),((HB.out.cell (World.block_lt_of_cell? w _ hw219_1)).trans hw219_1),((HB.out.cell (World.block_lt_of_cell? w _ hw219_2)).trans hw219_2)⟩ (fun hHeld=>?_);refine with_tabW spec_l7Relay.tab6 spec_l7Relay.bits6 (fun HT_ HW_=>?_)
  generalize wr.drew=w15 at HO_11 BK213 HB hx217_0 hx217_1 hx217_2 hx218_0 hx218_1 hx218_2 hx219_0 hx219_1 hx219_2 hHeld⊢
  refine pq 0 (N:=some 25) (lb 18 1) HT_ ?_
  refine pq 1 (N:=some 26) (lb 18 3) HT_ ?_
  refine pq 2 (N:=some 27) (lb 18 7) HT_ ?_
  refine pq 3 (N:=some 28) (lb 18 15) HT_ ?_
  refine pq 5 (N:=some 30) (lb 18 47) HT_ ?_
  refine pq 6 (N:=some 31) (lb 18 111) HT_ ?_
  refine pq 7 (N:=some 32) (lb 18 239) HT_ ?_
  refine pq 8 (N:=some 33) (lb 18 495) HT_ ?_
  refine pq 10 (N:=some 35) (lb 18 1519) HT_ ?_
  refine pq 11 (N:=some 36) (lb 18 3567) HT_ ?_
  refine pq 12 (N:=some 37) (lb 18 7663) HT_ ?_
  refine pq 13 (N:=some 38) (lb 18 15855) HT_ ?_
  refine take_ (i:=4) (N:=some 29) (v:=?_) (a':=?_) (lb 18 15871) rfl rfl (take_ofW HT_.out HW_.out (by kernel_rfl)) (fun _ _ _ h=>h) (Or.inl ⟨by rfl,?_⟩) hHeld ?_ ?_
  rotate_left
  ·rintro w' ⟨s0,s1,s2,s3,s4,s5,s6,s7,s8⟩
   go_simp
   with_reducible rfl
  rotate_left
  ·simp only[ap]
   rfl
  refine pq 15 (N:=some 14) (lb 18 48639) HT_ ?_
  refine take_ (i:=9) (N:=some 34) (v:=?_) (a':=?_) (lb 18 49151) rfl rfl (take_ofW HT_.out HW_.out (by kernel_rfl)) (fun _ _ _ h=>h) (Or.inl ⟨by rfl,?_⟩) hHeld ?_ ?_
  rotate_left
  ·rintro w' ⟨s0,s1,s2,s3,s4,s5,s6,s7,s8⟩
   go_simp
   with_reducible rfl
  rotate_left
  ·simp only[ap]
   rfl
  refine pq 16 (N:=some 15) (lb 18 114687) HT_ ?_
  refine take_ (i:=14) (N:=some 39) (v:=?_) (a':=?_) (lb 18 131071) rfl rfl (take_ofW HT_.out HW_.out (by kernel_rfl)) (fun _ _ _ h=>h) (Or.inl ⟨by rfl,?_⟩) hHeld ?_ ?_
  rotate_left
  ·rintro w' ⟨s0,s1,s2,s3,s4,s5,s6,s7,s8⟩
   go_simp
   with_reducible rfl
  rotate_left
  ·simp only[ap]
   rfl
  refine pq 17 (N:=some 16) (lb 18 262143) HT_ ?_
  refine done_ (done_of HT_.out (by kernel_rfl)) ?_
  try go_wp2
  replace HO_11:=ak (R_drew HO_11.out)
  replace BK213:=ak (blk_drew BK213.out)
  replace HB:=ak (below_drew1 HB.out)
  refine start_ (n:=40) (S:=fun w'=>True) (ds:=[]) (lb 40 0) (by kernel_rfl) rfl rfl trivial (fun hHeld=>?_);refine with_tabW spec_l7Relay.tab7 spec_l7Relay.bits7 (fun HT_ HW_=>?_)
  generalize w15.drew=w16 at HO_11 BK213 HB hHeld⊢
  refine pq 0 (N:=some 40) (lb 40 1) HT_ ?_
  refine pq 1 (N:=some 41) (lb 40 3) HT_ ?_
  refine pq 2 (N:=some 42) (lb 40 7) HT_ ?_
  refine pq 3 (N:=some 43) (lb 40 15) HT_ ?_
  refine one_ (i:=4) (N:=some 44) (lb 40 31) rfl rfl (one_of HT_.out (by kernel_rfl)) (by decide) (fun K hK=>?_)
  refine goes_ Try.func100 (by kernel_rfl) rfl #[.int .i64 ((rd_T70 l4 x13_1).f0),.int .i64 0,.int .i64 (wrap64 ((l1.length:Int)-1))] (by rfl) rfl rfl gl ?_
  with_reducible refine(spec_l1In.calls ((rd_T70 l4 x13_1).f0) 0 (wrap64 ((l1.length:Int)-1)) true _ A11.out).mono ?_
  rintro e w' ⟨rfl,⟨nd,rfl⟩⟩
  refine⟨_,rfl,?_⟩
  obtain⟨Ao17,co17,eo17⟩:=R_slice HO_11.out
  (first|subst eo17|(injection eo17 with f1_ f2_ f3_;have f4_:=f1_.symm;have f5_:=f3_.symm;clear f1_ f2_ f3_;subst f4_;subst f5_))
  refine hK.out _ _ trivial (fun hHeld=>?_)
  clear hK K
  refine norm_ (a':=?_) ?_ ?_
  rotate_left
  ·show Act.put _ (some 44) _=_
   simp only[ap]
   rfl
  refine pq 5 (N:=some 45) (lb 40 63) HT_ ?_
  refine pq 6 (N:=some 46) (lb 40 127) HT_ ?_
  refine pq 7 (N:=some 47) (lb 40 255) HT_ ?_
  refine pq 8 (N:=some 48) (lb 40 511) HT_ ?_
  refine one_ (i:=9) (N:=some 49) (lb 40 1023) rfl rfl (one_of HT_.out (by kernel_rfl)) (by decide) (fun K hK=>?_)
  refine goes_ Try.func102 (by kernel_rfl) rfl #[.slice Ao17 x11_1.length co17,.int .i64 ((rd_T70 l4 x13_1).f0)] (by rfl) rfl rfl gl ?_
  with_reducible refine(spec_l1Has.calls k1 _ _ x11_1 ((rd_T70 l4 x13_1).f0) true _ ?side1 ?side2 A13.out).mono ?_
  (case side1=>exact cm (R_reads' HO_11.out).2.2)
  (case side2=>exact(R_reads' HO_11.out).2.1)
  rintro e w' ⟨rfl,⟨nd,rfl⟩⟩
  refine⟨_,rfl,?_⟩
  refine hK.out _ _ trivial (fun hHeld=>?_)
  clear hK K
  refine norm_ (a':=?_) ?_ ?_
  rotate_left
  ·show Act.put _ (some 49) _=_
   simp only[ap]
   rfl
  refine pq 10 (N:=some 50) (lb 40 2047) HT_ ?_
  refine pq 11 (N:=some 51) (lb 40 4095) HT_ ?_
  refine pz 12 (N:=some 52) (lb 40 8191) HT_ ?_
  refine pz 13 (N:=some 53) (lb 40 16383) HT_ ?_
  refine pz 14 (N:=some 54) (lb 40 32767) HT_ ?_
  refine pq 15 (N:=some 55) (lb 40 65535) HT_ ?_
  refine pq 16 (N:=some 56) (lb 40 131071) HT_ ?_
  refine pz 17 (N:=some 57) (lb 40 262143) HT_ ?_
  refine pz 18 (N:=some 58) (lb 40 524287) HT_ ?_
  refine pz 19 (N:=some 59) (lb 40 1048575) HT_ ?_
  refine pz 20 (N:=some 60) (lb 40 2097151) HT_ ?_
  refine pz 21 (N:=some 61) (lb 40 4194303) HT_ ?_
  refine pz 22 (N:=some 62) (lb 40 8388607) HT_ ?_
  refine pq 23 (N:=some 63) (lb 40 16777215) HT_ ?_
  refine pq 24 (N:=some 64) (lb 40 33554431) HT_ ?_
  refine pz 25 (N:=some 65) (lb 40 67108863) HT_ ?_
  refine pz 26 (N:=some 66) (lb 40 134217727) HT_ ?_
  refine pz 27 (N:=some 67) (lb 40 268435455) HT_ ?_
  refine pz 28 (N:=some 68) (lb 40 536870911) HT_ ?_
  refine pz 29 (N:=some 69) (lb 40 1073741823) HT_ ?_
  refine pz 30 (N:=some 70) (lb 40 2147483647) HT_ ?_
  refine pz 31 (N:=some 71) (lb 40 4294967295) HT_ ?_
  refine pz 32 (N:=some 72) (lb 40 8589934591) HT_ ?_
  refine pz 33 (N:=some 73) (lb 40 17179869183) HT_ ?_
  refine pz 34 (N:=some 74) (lb 40 34359738367) HT_ ?_
  refine pz 35 (N:=some 75) (lb 40 68719476735) HT_ ?_
  refine pz 36 (N:=some 76) (lb 40 137438953471) HT_ ?_
  refine pz 37 (N:=some 77) (lb 40 274877906943) HT_ ?_
  refine pz 38 (N:=some 78) (lb 40 549755813887) HT_ ?_
  refine pq 39 (N:=some 79) (lb 40 1099511627775) HT_ ?_
  refine done_ (done_of HT_.out (by kernel_rfl)) ?_
  try go_wp2
  go_ret
  exact⟨fe,h1 HB.out GE213.out⟩
 replace c14:=Bool.eq_false_iff.mpr c14
 subst c14
 rw[if_neg (show ¬(false=true)by decide)]at H
 by_cases c18: ((rd_T70 l4 x13_1).f1)=x12_1
 rotate_left
 ·rw[if_neg c18]at H
  have c18b0: (((rd_T70 l4 x13_1).f1)==x12_1)=false:=beq_eq_false_iff_ne.mpr c18
  have c18b1: (((rd_T70 l4 x13_1).f1) !=x12_1)=true:=bne_iff_ne.mpr c18
  obtain rfl:=Option.some.inj H
  try go_wp2
  replace HO_11:=ak (R_drew HO_11.out)
  replace BK213:=ak (blk_drew BK213.out)
  replace HB:=ak (below_drew1 HB.out)
  have p217:0≤(x13_1:Int):=od
  have q217:x13_1<(l4.length:Int):=od
  obtain⟨ad217,e217,hx217_0,hx217_1,hx217_2⟩:=at_T70 HR4.out x13_1 p217 q217
  have hw217_2:=hx217_2
  have hw217_1:=hx217_1
  have hw217_0:=hx217_0
  cases e217
  replace hx217_0:=hc HB hx217_0
  replace hx217_1:=hc HB hx217_1
  replace hx217_2:=hc HB hx217_2
  replace p217:=eq_true p217
  replace q217:=eq_true q217
  have p218:0≤(x13_1:Int):=od
  have q218:x13_1<(l4.length:Int):=od
  obtain⟨ad218,e218,hx218_0,hx218_1,hx218_2⟩:=at_T70 HR4.out x13_1 p218 q218
  have hw218_2:=hx218_2
  have hw218_1:=hx218_1
  have hw218_0:=hx218_0
  obtain rfl:ad217=ad218:=(by injection e218)
  replace hx218_0:=hc HB hx218_0
  replace hx218_1:=hc HB hx218_1
  replace hx218_2:=hc HB hx218_2
  replace p218:=eq_true p218
  replace q218:=eq_true q218
  have p219:0≤(x13_1:Int):=od
  have q219:x13_1<(l4.length:Int):=od
  obtain⟨ad219,e219,hx219_0,hx219_1,hx219_2⟩:=at_T70 HR4.out x13_1 p219 q219
  have hw219_2:=hx219_2
  have hw219_1:=hx219_1
  have hw219_0:=hx219_0
  obtain rfl:ad217=ad219:=(by injection e219)
  replace hx219_0:=hc HB hx219_0
  replace hx219_1:=hc HB hx219_1
  replace hx219_2:=hc HB hx219_2
  replace p219:=eq_true p219
  replace q219:=eq_true q219
  refine start_ (n:=18) (S:=fun w'=>w'.cell? (ad217.add ((x13_1).toNat*3))=some (.int .i64 ((rd_T70 l4 x13_1).f0))∧w'.cell? ⟨(ad217.add ((x13_1).toNat*3)).block,(ad217.add ((x13_1).toNat*3)).off+1,none⟩=some (.int .i64 ((rd_T70 l4 x13_1).f1))∧w'.cell? ⟨(ad217.add ((x13_1).toNat*3)).block,(ad217.add ((x13_1).toNat*3)).off+2,none⟩=some (.int .i64 ((rd_T70 l4 x13_1).f2))∧w'.cell? (ad217.add ((x13_1).toNat*3))=some (.int .i64 ((rd_T70 l4 x13_1).f0))∧w'.cell? ⟨(ad217.add ((x13_1).toNat*3)).block,(ad217.add ((x13_1).toNat*3)).off+1,none⟩=some (.int .i64 ((rd_T70 l4 x13_1).f1))∧w'.cell? ⟨(ad217.add ((x13_1).toNat*3)).block,(ad217.add ((x13_1).toNat*3)).off+2,none⟩=some (.int .i64 ((rd_T70 l4 x13_1).f2))∧w'.cell? (ad217.add ((x13_1).toNat*3))=some (.int .i64 ((rd_T70 l4 x13_1).f0))∧w'.cell? ⟨(ad217.add ((x13_1).toNat*3)).block,(ad217.add ((x13_1).toNat*3)).off+1,none⟩=some (.int .i64 ((rd_T70 l4 x13_1).f1))∧w'.cell? ⟨(ad217.add ((x13_1).toNat*3)).block,(ad217.add ((x13_1).toNat*3)).off+2,none⟩=some (.int .i64 ((rd_T70 l4 x13_1).f2))) (ds:=[]) (lb 18 0) (by kernel_rfl) rfl rfl ⟨((HB.out.cell (World.block_lt_of_cell? w _ hw217_0)).trans hw217_0),((HB.out.cell (World.block_lt_of_cell? w _ hw217_1)).trans hw217_1),((HB.out.cell (World.block_lt_of_cell? w _ hw217_2)).trans hw217_2),((HB.out.cell (World.block_lt_of_cell? w _ hw218_0)).trans hw218_0),((HB.out.cell (World.block_lt_of_cell? w _ hw218_1)).trans hw218_1),((HB.out.cell (World.block_lt_of_cell? w _ hw218_2)).trans hw218_2),((HB.out.cell (World.block_lt_of_cell? w _ hw219_0)).trans hw219_0),((HB.out.cell (World.block_lt_of_cell? w _ hw219_1)).trans hw219_1),((HB.out.cell (World.block_lt_of_cell? w _ hw219_2)).trans hw219_2)⟩ (fun hHeld=>?_);refine with_tabW spec_l7Relay.tab6 spec_l7Relay.bits6 (fun HT_ HW_=>?_)
  generalize wr.drew=w38 at HO_11 BK213 HB hx217_0 hx217_1 hx217_2 hx218_0 hx218_1 hx218_2 hx219_0 hx219_1 hx219_2 hHeld⊢
  refine pq 0 (N:=some 25) (lb 18 1) HT_ ?_
  refine pq 1 (N:=some 26) (lb 18 3) HT_ ?_
  refine pq 2 (N:=some 27) (lb 18 7) HT_ ?_
  refine pq 3 (N:=some 28) (lb 18 15) HT_ ?_
  refine pq 5 (N:=some 30) (lb 18 47) HT_ ?_
  refine pq 6 (N:=some 31) (lb 18 111) HT_ ?_
  refine pq 7 (N:=some 32) (lb 18 239) HT_ ?_
  refine pq 8 (N:=some 33) (lb 18 495) HT_ ?_
  refine pq 10 (N:=some 35) (lb 18 1519) HT_ ?_
  refine pq 11 (N:=some 36) (lb 18 3567) HT_ ?_
  refine pq 12 (N:=some 37) (lb 18 7663) HT_ ?_
  refine pq 13 (N:=some 38) (lb 18 15855) HT_ ?_
  refine take_ (i:=4) (N:=some 29) (v:=?_) (a':=?_) (lb 18 15871) rfl rfl (take_ofW HT_.out HW_.out (by kernel_rfl)) (fun _ _ _ h=>h) (Or.inl ⟨by rfl,?_⟩) hHeld ?_ ?_
  rotate_left
  ·rintro w' ⟨s0,s1,s2,s3,s4,s5,s6,s7,s8⟩
   go_simp
   with_reducible rfl
  rotate_left
  ·simp only[ap]
   rfl
  refine pq 15 (N:=some 14) (lb 18 48639) HT_ ?_
  refine take_ (i:=9) (N:=some 34) (v:=?_) (a':=?_) (lb 18 49151) rfl rfl (take_ofW HT_.out HW_.out (by kernel_rfl)) (fun _ _ _ h=>h) (Or.inl ⟨by rfl,?_⟩) hHeld ?_ ?_
  rotate_left
  ·rintro w' ⟨s0,s1,s2,s3,s4,s5,s6,s7,s8⟩
   go_simp
   with_reducible rfl
  rotate_left
  ·simp only[ap]
   rfl
  refine pq 16 (N:=some 15) (lb 18 114687) HT_ ?_
  refine take_ (i:=14) (N:=some 39) (v:=?_) (a':=?_) (lb 18 131071) rfl rfl (take_ofW HT_.out HW_.out (by kernel_rfl)) (fun _ _ _ h=>h) (Or.inl ⟨by rfl,?_⟩) hHeld ?_ ?_
  rotate_left
  ·rintro w' ⟨s0,s1,s2,s3,s4,s5,s6,s7,s8⟩
   go_simp
   with_reducible rfl
  rotate_left
  ·simp only[ap]
   rfl
  refine pq 17 (N:=some 16) (lb 18 262143) HT_ ?_
  refine done_ (done_of HT_.out (by kernel_rfl)) ?_
  try go_wp2
  replace HO_11:=ak (R_drew HO_11.out)
  replace BK213:=ak (blk_drew BK213.out)
  replace HB:=ak (below_drew1 HB.out)
  refine start_ (n:=40) (S:=fun w'=>True) (ds:=[]) (lb 40 0) (by kernel_rfl) rfl rfl trivial (fun hHeld=>?_);refine with_tabW spec_l7Relay.tab7 spec_l7Relay.bits7 (fun HT_ HW_=>?_)
  generalize w38.drew=w39 at HO_11 BK213 HB hHeld⊢
  refine pq 0 (N:=some 40) (lb 40 1) HT_ ?_
  refine pq 1 (N:=some 41) (lb 40 3) HT_ ?_
  refine pq 2 (N:=some 42) (lb 40 7) HT_ ?_
  refine pq 3 (N:=some 43) (lb 40 15) HT_ ?_
  refine one_ (i:=4) (N:=some 44) (lb 40 31) rfl rfl (one_of HT_.out (by kernel_rfl)) (by decide) (fun K hK=>?_)
  refine goes_ Try.func100 (by kernel_rfl) rfl #[.int .i64 ((rd_T70 l4 x13_1).f0),.int .i64 0,.int .i64 (wrap64 ((l1.length:Int)-1))] (by rfl) rfl rfl gl ?_
  with_reducible refine(spec_l1In.calls ((rd_T70 l4 x13_1).f0) 0 (wrap64 ((l1.length:Int)-1)) true _ A11.out).mono ?_
  rintro e w' ⟨rfl,⟨nd,rfl⟩⟩
  refine⟨_,rfl,?_⟩
  obtain⟨Ao40,co40,eo40⟩:=R_slice HO_11.out
  (first|subst eo40|(injection eo40 with f1_ f2_ f3_;have f4_:=f1_.symm;have f5_:=f3_.symm;clear f1_ f2_ f3_;subst f4_;subst f5_))
  refine hK.out _ _ trivial (fun hHeld=>?_)
  clear hK K
  refine norm_ (a':=?_) ?_ ?_
  rotate_left
  ·show Act.put _ (some 44) _=_
   simp only[ap]
   rfl
  refine pq 5 (N:=some 45) (lb 40 63) HT_ ?_
  refine pq 6 (N:=some 46) (lb 40 127) HT_ ?_
  refine pq 7 (N:=some 47) (lb 40 255) HT_ ?_
  refine pq 8 (N:=some 48) (lb 40 511) HT_ ?_
  refine one_ (i:=9) (N:=some 49) (lb 40 1023) rfl rfl (one_of HT_.out (by kernel_rfl)) (by decide) (fun K hK=>?_)
  refine goes_ Try.func102 (by kernel_rfl) rfl #[.slice Ao40 x11_1.length co40,.int .i64 ((rd_T70 l4 x13_1).f0)] (by rfl) rfl rfl gl ?_
  with_reducible refine(spec_l1Has.calls k1 _ _ x11_1 ((rd_T70 l4 x13_1).f0) false _ ?side1 ?side2 A13.out).mono ?_
  (case side1=>exact cm (R_reads' HO_11.out).2.2)
  (case side2=>exact(R_reads' HO_11.out).2.1)
  rintro e w' ⟨rfl,⟨nd,rfl⟩⟩
  refine⟨_,rfl,?_⟩
  refine hK.out _ _ trivial (fun hHeld=>?_)
  clear hK K
  refine norm_ (a':=?_) ?_ ?_
  rotate_left
  ·show Act.put _ (some 49) _=_
   simp only[ap]
   rfl
  refine pq 10 (N:=some 50) (lb 40 2047) HT_ ?_
  refine pq 11 (N:=some 51) (lb 40 4095) HT_ ?_
  refine pq 12 (N:=some 52) (lb 40 8191) HT_ ?_
  refine pq 13 (N:=some 53) (lb 40 16383) HT_ ?_
  refine pq 14 (N:=some 54) (lb 40 32767) HT_ ?_
  refine pq 15 (N:=some 55) (lb 40 65535) HT_ ?_
  refine pq 16 (N:=some 56) (lb 40 131071) HT_ ?_
  refine pz 17 (N:=some 57) (lb 40 262143) HT_ ?_
  refine pz 18 (N:=some 58) (lb 40 524287) HT_ ?_
  refine pz 19 (N:=some 59) (lb 40 1048575) HT_ ?_
  refine pz 20 (N:=some 60) (lb 40 2097151) HT_ ?_
  refine pz 21 (N:=some 61) (lb 40 4194303) HT_ ?_
  refine pz 22 (N:=some 62) (lb 40 8388607) HT_ ?_
  refine pq 23 (N:=some 63) (lb 40 16777215) HT_ ?_
  refine pq 24 (N:=some 64) (lb 40 33554431) HT_ ?_
  refine pz 25 (N:=some 65) (lb 40 67108863) HT_ ?_
  refine pz 26 (N:=some 66) (lb 40 134217727) HT_ ?_
  refine pz 27 (N:=some 67) (lb 40 268435455) HT_ ?_
  refine pz 28 (N:=some 68) (lb 40 536870911) HT_ ?_
  refine pz 29 (N:=some 69) (lb 40 1073741823) HT_ ?_
  refine pz 30 (N:=some 70) (lb 40 2147483647) HT_ ?_
  refine pz 31 (N:=some 71) (lb 40 4294967295) HT_ ?_
  refine pz 32 (N:=some 72) (lb 40 8589934591) HT_ ?_
  refine pz 33 (N:=some 73) (lb 40 17179869183) HT_ ?_
  refine pz 34 (N:=some 74) (lb 40 34359738367) HT_ ?_
  refine pz 35 (N:=some 75) (lb 40 68719476735) HT_ ?_
  refine pz 36 (N:=some 76) (lb 40 137438953471) HT_ ?_
  refine pz 37 (N:=some 77) (lb 40 274877906943) HT_ ?_
  refine pz 38 (N:=some 78) (lb 40 549755813887) HT_ ?_
  refine pq 39 (N:=some 79) (lb 40 1099511627775) HT_ ?_
  refine done_ (done_of HT_.out (by kernel_rfl)) ?_
  try go_wp2
  go_ret
  exact⟨fe,h1 HB.out GE213.out⟩
 rw[if_pos c18]at H
 have c18b0: (((rd_T70 l4 x13_1).f1)==x12_1)=true:=beq_iff_eq.mpr c18
 have c18b1: (((rd_T70 l4 x13_1).f1) !=x12_1)=false:=bne_eq_false_iff_eq.mpr c18
 clear c18
 obtain⟨t222,A19,H⟩:=bd H;(try dsimp only at H)
 by_cases c20:t222=true
 rotate_left
 ·replace c20:=Bool.eq_false_iff.mpr c20
  subst c20
  rw[if_neg (show ¬(false=true)by decide)]at H
  obtain rfl:=Option.some.inj H
  try go_wp2
  replace HO_11:=ak (R_drew HO_11.out)
  replace BK213:=ak (blk_drew BK213.out)
  replace HB:=ak (below_drew1 HB.out)
  have p217:0≤(x13_1:Int):=od
  have q217:x13_1<(l4.length:Int):=od
  obtain⟨ad217,e217,hx217_0,hx217_1,hx217_2⟩:=at_T70 HR4.out x13_1 p217 q217
  have hw217_2:=hx217_2
  have hw217_1:=hx217_1
  have hw217_0:=hx217_0
  cases e217
  replace hx217_0:=hc HB hx217_0
  replace hx217_1:=hc HB hx217_1
  replace hx217_2:=hc HB hx217_2
  replace p217:=eq_true p217
  replace q217:=eq_true q217
  have p218:0≤(x13_1:Int):=od
  have q218:x13_1<(l4.length:Int):=od
  obtain⟨ad218,e218,hx218_0,hx218_1,hx218_2⟩:=at_T70 HR4.out x13_1 p218 q218
  have hw218_2:=hx218_2
  have hw218_1:=hx218_1
  have hw218_0:=hx218_0
  obtain rfl:ad217=ad218:=(by injection e218)
  replace hx218_0:=hc HB hx218_0
  replace hx218_1:=hc HB hx218_1
  replace hx218_2:=hc HB hx218_2
  replace p218:=eq_true p218
  replace q218:=eq_true q218
  have p219:0≤(x13_1:Int):=od
  have q219:x13_1<(l4.length:Int):=od
  obtain⟨ad219,e219,hx219_0,hx219_1,hx219_2⟩:=at_T70 HR4.out x13_1 p219 q219
  have hw219_2:=hx219_2
  have hw219_1:=hx219_1
  have hw219_0:=hx219_0
  obtain rfl:ad217=ad219:=(by injection e219)
  replace hx219_0:=hc HB hx219_0
  replace hx219_1:=hc HB hx219_1
  replace hx219_2:=hc HB hx219_2
  replace p219:=eq_true p219
  replace q219:=eq_true q219
  refine start_ (n:=18) (S:=fun w'=>w'.cell? (ad217.add ((x13_1).toNat*3))=some (.int .i64 ((rd_T70 l4 x13_1).f0))∧w'.cell? ⟨(ad217.add ((x13_1).toNat*3)).block,(ad217.add ((x13_1).toNat*3)).off+1,none⟩=some (.int .i64 ((rd_T70 l4 x13_1).f1))∧w'.cell? ⟨(ad217.add ((x13_1).toNat*3)).block,(ad217.add ((x13_1).toNat*3)).off+2,none⟩=some (.int .i64 ((rd_T70 l4 x13_1).f2))∧w'.cell? (ad217.add ((x13_1).toNat*3))=some (.int .i64 ((rd_T70 l4 x13_1).f0))∧w'.cell? ⟨(ad217.add ((x13_1).toNat*3)).block,(ad217.add ((x13_1).toNat*3)).off+1,none⟩=some (.int .i64 ((rd_T70 l4 x13_1).f1))∧w'.cell? ⟨(ad217.add ((x13_1).toNat*3)).block,(ad217.add ((x13_1).toNat*3)).off+2,none⟩=some (.int .i64 ((rd_T70 l4 x13_1).f2))∧w'.cell? (ad217.add ((x13_1).toNat*3))=some (.int .i64 ((rd_T70 l4 x13_1).f0))∧w'.cell? ⟨(ad217.add ((x13_1).toNat*3)).block,(ad217.add ((x13_1).toNat*3)).off+1,none⟩=some (.int .i64 ((rd_T70 l4 x13_1).f1))∧w'.cell? ⟨(ad217.add ((x13_1).toNat*3)).block,(ad217.add ((x13_1).toNat*3)).off+2,none⟩=some (.int .i64 ((rd_T70 l4 x13_1).f2))) (ds:=[]) (lb 18 0) (by kernel_rfl) rfl rfl ⟨((HB.out.cell (World.block_lt_of_cell? w _ hw217_0)).trans hw217_0),((HB.out.cell (World.block_lt_of_cell? w _ hw217_1)).trans hw217_1),((HB.out.cell (World.block_lt_of_cell? w _ hw217_2)).trans hw217_2),((HB.out.cell (World.block_lt_of_cell? w _ hw218_0)).trans hw218_0),((HB.out.cell (World.block_lt_of_cell? w _ hw218_1)).trans hw218_1),((HB.out.cell (World.block_lt_of_cell? w _ hw218_2)).trans hw218_2),((HB.out.cell (World.block_lt_of_cell? w _ hw219_0)).trans hw219_0),((HB.out.cell (World.block_lt_of_cell? w _ hw219_1)).trans hw219_1),((HB.out.cell (World.block_lt_of_cell? w _ hw219_2)).trans hw219_2)⟩ (fun hHeld=>?_);refine with_tabW spec_l7Relay.tab6 spec_l7Relay.bits6 (fun HT_ HW_=>?_)
  generalize wr.drew=w35 at HO_11 BK213 HB hx217_0 hx217_1 hx217_2 hx218_0 hx218_1 hx218_2 hx219_0 hx219_1 hx219_2 hHeld⊢
  refine pq 0 (N:=some 25) (lb 18 1) HT_ ?_
  refine pq 1 (N:=some 26) (lb 18 3) HT_ ?_
  refine pq 2 (N:=some 27) (lb 18 7) HT_ ?_
  refine pq 3 (N:=some 28) (lb 18 15) HT_ ?_
  refine pq 5 (N:=some 30) (lb 18 47) HT_ ?_
  refine pq 6 (N:=some 31) (lb 18 111) HT_ ?_
  refine pq 7 (N:=some 32) (lb 18 239) HT_ ?_
  refine pq 8 (N:=some 33) (lb 18 495) HT_ ?_
  refine pq 10 (N:=some 35) (lb 18 1519) HT_ ?_
  refine pq 11 (N:=some 36) (lb 18 3567) HT_ ?_
  refine pq 12 (N:=some 37) (lb 18 7663) HT_ ?_
  refine pq 13 (N:=some 38) (lb 18 15855) HT_ ?_
  refine take_ (i:=4) (N:=some 29) (v:=?_) (a':=?_) (lb 18 15871) rfl rfl (take_ofW HT_.out HW_.out (by kernel_rfl)) (fun _ _ _ h=>h) (Or.inl ⟨by rfl,?_⟩) hHeld ?_ ?_
  rotate_left
  ·rintro w' ⟨s0,s1,s2,s3,s4,s5,s6,s7,s8⟩
   go_simp
   with_reducible rfl
  rotate_left
  ·simp only[ap]
   rfl
  refine pq 15 (N:=some 14) (lb 18 48639) HT_ ?_
  refine take_ (i:=9) (N:=some 34) (v:=?_) (a':=?_) (lb 18 49151) rfl rfl (take_ofW HT_.out HW_.out (by kernel_rfl)) (fun _ _ _ h=>h) (Or.inl ⟨by rfl,?_⟩) hHeld ?_ ?_
  rotate_left
  ·rintro w' ⟨s0,s1,s2,s3,s4,s5,s6,s7,s8⟩
   go_simp
   with_reducible rfl
  rotate_left
  ·simp only[ap]
   rfl
  refine pq 16 (N:=some 15) (lb 18 114687) HT_ ?_
  refine take_ (i:=14) (N:=some 39) (v:=?_) (a':=?_) (lb 18 131071) rfl rfl (take_ofW HT_.out HW_.out (by kernel_rfl)) (fun _ _ _ h=>h) (Or.inl ⟨by rfl,?_⟩) hHeld ?_ ?_
  rotate_left
  ·rintro w' ⟨s0,s1,s2,s3,s4,s5,s6,s7,s8⟩
   go_simp
   with_reducible rfl
  rotate_left
  ·simp only[ap]
   rfl
  refine pq 17 (N:=some 16) (lb 18 262143) HT_ ?_
  refine done_ (done_of HT_.out (by kernel_rfl)) ?_
  try go_wp2
  replace HO_11:=ak (R_drew HO_11.out)
  replace BK213:=ak (blk_drew BK213.out)
  replace HB:=ak (below_drew1 HB.out)
  refine start_ (n:=40) (S:=fun w'=>True) (ds:=[]) (lb 40 0) (by kernel_rfl) rfl rfl trivial (fun hHeld=>?_);refine with_tabW spec_l7Relay.tab7 spec_l7Relay.bits7 (fun HT_ HW_=>?_)
  generalize w35.drew=w36 at HO_11 BK213 HB hHeld⊢
  refine pq 0 (N:=some 40) (lb 40 1) HT_ ?_
  refine pq 1 (N:=some 41) (lb 40 3) HT_ ?_
  refine pq 2 (N:=some 42) (lb 40 7) HT_ ?_
  refine pq 3 (N:=some 43) (lb 40 15) HT_ ?_
  refine one_ (i:=4) (N:=some 44) (lb 40 31) rfl rfl (one_of HT_.out (by kernel_rfl)) (by decide) (fun K hK=>?_)
  refine goes_ Try.func100 (by kernel_rfl) rfl #[.int .i64 ((rd_T70 l4 x13_1).f0),.int .i64 0,.int .i64 (wrap64 ((l1.length:Int)-1))] (by rfl) rfl rfl gl ?_
  with_reducible refine(spec_l1In.calls ((rd_T70 l4 x13_1).f0) 0 (wrap64 ((l1.length:Int)-1)) true _ A11.out).mono ?_
  rintro e w' ⟨rfl,⟨nd,rfl⟩⟩
  refine⟨_,rfl,?_⟩
  obtain⟨Ao37,co37,eo37⟩:=R_slice HO_11.out
  (first|subst eo37|(injection eo37 with f1_ f2_ f3_;have f4_:=f1_.symm;have f5_:=f3_.symm;clear f1_ f2_ f3_;subst f4_;subst f5_))
  refine hK.out _ _ trivial (fun hHeld=>?_)
  clear hK K
  refine norm_ (a':=?_) ?_ ?_
  rotate_left
  ·show Act.put _ (some 44) _=_
   simp only[ap]
   rfl
  refine pq 5 (N:=some 45) (lb 40 63) HT_ ?_
  refine pq 6 (N:=some 46) (lb 40 127) HT_ ?_
  refine pq 7 (N:=some 47) (lb 40 255) HT_ ?_
  refine pq 8 (N:=some 48) (lb 40 511) HT_ ?_
  refine one_ (i:=9) (N:=some 49) (lb 40 1023) rfl rfl (one_of HT_.out (by kernel_rfl)) (by decide) (fun K hK=>?_)
  refine goes_ Try.func102 (by kernel_rfl) rfl #[.slice Ao37 x11_1.length co37,.int .i64 ((rd_T70 l4 x13_1).f0)] (by rfl) rfl rfl gl ?_
  with_reducible refine(spec_l1Has.calls k1 _ _ x11_1 ((rd_T70 l4 x13_1).f0) false _ ?side1 ?side2 A13.out).mono ?_
  (case side1=>exact cm (R_reads' HO_11.out).2.2)
  (case side2=>exact(R_reads' HO_11.out).2.1)
  rintro e w' ⟨rfl,⟨nd,rfl⟩⟩
  refine⟨_,rfl,?_⟩
  refine hK.out _ _ trivial (fun hHeld=>?_)
  clear hK K
  refine norm_ (a':=?_) ?_ ?_
  rotate_left
  ·show Act.put _ (some 49) _=_
   simp only[ap]
   rfl
  refine pq 10 (N:=some 50) (lb 40 2047) HT_ ?_
  refine pq 11 (N:=some 51) (lb 40 4095) HT_ ?_
  refine pq 12 (N:=some 52) (lb 40 8191) HT_ ?_
  refine pq 13 (N:=some 53) (lb 40 16383) HT_ ?_
  refine pq 14 (N:=some 54) (lb 40 32767) HT_ ?_
  refine pq 15 (N:=some 55) (lb 40 65535) HT_ ?_
  refine pq 16 (N:=some 56) (lb 40 131071) HT_ ?_
  refine pq 17 (N:=some 57) (lb 40 262143) HT_ ?_
  refine pq 18 (N:=some 58) (lb 40 524287) HT_ ?_
  refine pq 19 (N:=some 59) (lb 40 1048575) HT_ ?_
  refine pq 20 (N:=some 60) (lb 40 2097151) HT_ ?_
  refine one_ (i:=21) (N:=some 61) (lb 40 4194303) rfl rfl (one_of HT_.out (by kernel_rfl)) (by decide) (fun K hK=>?_)
  refine goes_ Try.func100 (by kernel_rfl) rfl #[.int .i64 ((rd_T70 l4 x13_1).f2),.int .i64 (wrap64 (((rd_T70 l4 x13_1).f1)+1)),.int .i64 a3] (by rfl) rfl rfl gl ?_
  with_reducible refine(spec_l1In.calls ((rd_T70 l4 x13_1).f2) (wrap64 (((rd_T70 l4 x13_1).f1)+1)) a3 false _ A19.out).mono ?_
  rintro e w' ⟨rfl,⟨nd,rfl⟩⟩
  refine⟨_,rfl,?_⟩
  refine hK.out _ _ trivial (fun hHeld=>?_)
  clear hK K
  refine norm_ (a':=?_) ?_ ?_
  rotate_left
  ·show Act.put _ (some 61) _=_
   simp only[ap]
   rfl
  refine pq 22 (N:=some 62) (lb 40 8388607) HT_ ?_
  refine pq 23 (N:=some 63) (lb 40 16777215) HT_ ?_
  refine pq 24 (N:=some 64) (lb 40 33554431) HT_ ?_
  refine pz 25 (N:=some 65) (lb 40 67108863) HT_ ?_
  refine pz 26 (N:=some 66) (lb 40 134217727) HT_ ?_
  refine pz 27 (N:=some 67) (lb 40 268435455) HT_ ?_
  refine pz 28 (N:=some 68) (lb 40 536870911) HT_ ?_
  refine pz 29 (N:=some 69) (lb 40 1073741823) HT_ ?_
  refine pz 30 (N:=some 70) (lb 40 2147483647) HT_ ?_
  refine pz 31 (N:=some 71) (lb 40 4294967295) HT_ ?_
  refine pz 32 (N:=some 72) (lb 40 8589934591) HT_ ?_
  refine pz 33 (N:=some 73) (lb 40 17179869183) HT_ ?_
  refine pz 34 (N:=some 74) (lb 40 34359738367) HT_ ?_
  refine pz 35 (N:=some 75) (lb 40 68719476735) HT_ ?_
  refine pz 36 (N:=some 76) (lb 40 137438953471) HT_ ?_
  refine pz 37 (N:=some 77) (lb 40 274877906943) HT_ ?_
  refine pz 38 (N:=some 78) (lb 40 549755813887) HT_ ?_
  refine pq 39 (N:=some 79) (lb 40 1099511627775) HT_ ?_
  refine done_ (done_of HT_.out (by kernel_rfl)) ?_
  try go_wp2
  go_ret
  exact⟨fe,h1 HB.out GE213.out⟩
 subst c20
 rw[if_pos rfl]at H
 obtain⟨c21,H⟩:=gi H
 have c21b0:decide (0≤((rd_T70 l4 x13_1).f0))=true:=decide_eq_true c21
 clear c21
 obtain⟨c22,H⟩:=gi H
 have c22b0:decide (((rd_T70 l4 x13_1).f0)<(l1.length:Int))=true:=decide_eq_true c22
 clear c22
 obtain⟨t224,A23,H⟩:=bd H;(try dsimp only at H)
 by_cases c24:t224>((rd_T63 l1 ((rd_T70 l4 x13_1).f0)).f1)
 ·rw[if_pos c24]at H
  have c24b0:decide (((rd_T63 l1 ((rd_T70 l4 x13_1).f0)).f1)<t224)=true:=decide_eq_true c24
  clear c24
  obtain rfl:=Option.some.inj H
  try go_wp2
  replace HO_11:=ak (R_drew HO_11.out)
  replace BK213:=ak (blk_drew BK213.out)
  replace HB:=ak (below_drew1 HB.out)
  have p217:0≤(x13_1:Int):=od
  have q217:x13_1<(l4.length:Int):=od
  obtain⟨ad217,e217,hx217_0,hx217_1,hx217_2⟩:=at_T70 HR4.out x13_1 p217 q217
  have hw217_2:=hx217_2
  have hw217_1:=hx217_1
  have hw217_0:=hx217_0
  cases e217
  replace hx217_0:=hc HB hx217_0
  replace hx217_1:=hc HB hx217_1
  replace hx217_2:=hc HB hx217_2
  replace p217:=eq_true p217
  replace q217:=eq_true q217
  have p218:0≤(x13_1:Int):=od
  have q218:x13_1<(l4.length:Int):=od
  obtain⟨ad218,e218,hx218_0,hx218_1,hx218_2⟩:=at_T70 HR4.out x13_1 p218 q218
  have hw218_2:=hx218_2
  have hw218_1:=hx218_1
  have hw218_0:=hx218_0
  obtain rfl:ad217=ad218:=(by injection e218)
  replace hx218_0:=hc HB hx218_0
  replace hx218_1:=hc HB hx218_1
  replace hx218_2:=hc HB hx218_2
  replace p218:=eq_true p218
  replace q218:=eq_true q218
  have p219:0≤(x13_1:Int):=od
  have q219:x13_1<(l4.length:Int):=od
  obtain⟨ad219,e219,hx219_0,hx219_1,hx219_2⟩:=at_T70 HR4.out x13_1 p219 q219
  have hw219_2:=hx219_2
  have hw219_1:=hx219_1
  have hw219_0:=hx219_0
  obtain rfl:ad217=ad219:=(by injection e219)
  replace hx219_0:=hc HB hx219_0
  replace hx219_1:=hc HB hx219_1
  replace hx219_2:=hc HB hx219_2
  replace p219:=eq_true p219
  replace q219:=eq_true q219
  refine start_ (n:=18) (S:=fun w'=>w'.cell? (ad217.add ((x13_1).toNat*3))=some (.int .i64 ((rd_T70 l4 x13_1).f0))∧w'.cell? ⟨(ad217.add ((x13_1).toNat*3)).block,(ad217.add ((x13_1).toNat*3)).off+1,none⟩=some (.int .i64 ((rd_T70 l4 x13_1).f1))∧w'.cell? ⟨(ad217.add ((x13_1).toNat*3)).block,(ad217.add ((x13_1).toNat*3)).off+2,none⟩=some (.int .i64 ((rd_T70 l4 x13_1).f2))∧w'.cell? (ad217.add ((x13_1).toNat*3))=some (.int .i64 ((rd_T70 l4 x13_1).f0))∧w'.cell? ⟨(ad217.add ((x13_1).toNat*3)).block,(ad217.add ((x13_1).toNat*3)).off+1,none⟩=some (.int .i64 ((rd_T70 l4 x13_1).f1))∧w'.cell? ⟨(ad217.add ((x13_1).toNat*3)).block,(ad217.add ((x13_1).toNat*3)).off+2,none⟩=some (.int .i64 ((rd_T70 l4 x13_1).f2))∧w'.cell? (ad217.add ((x13_1).toNat*3))=some (.int .i64 ((rd_T70 l4 x13_1).f0))∧w'.cell? ⟨(ad217.add ((x13_1).toNat*3)).block,(ad217.add ((x13_1).toNat*3)).off+1,none⟩=some (.int .i64 ((rd_T70 l4 x13_1).f1))∧w'.cell? ⟨(ad217.add ((x13_1).toNat*3)).block,(ad217.add ((x13_1).toNat*3)).off+2,none⟩=some (.int .i64 ((rd_T70 l4 x13_1).f2))) (ds:=[]) (lb 18 0) (by kernel_rfl) rfl rfl ⟨((HB.out.cell (World.block_lt_of_cell? w _ hw217_0)).trans hw217_0),((HB.out.cell (World.block_lt_of_cell? w _ hw217_1)).trans hw217_1),((HB.out.cell (World.block_lt_of_cell? w _ hw217_2)).trans hw217_2),((HB.out.cell (World.block_lt_of_cell? w _ hw218_0)).trans hw218_0),((HB.out.cell (World.block_lt_of_cell? w _ hw218_1)).trans hw218_1),((HB.out.cell (World.block_lt_of_cell? w _ hw218_2)).trans hw218_2),((HB.out.cell (World.block_lt_of_cell? w _ hw219_0)).trans hw219_0),((HB.out.cell (World.block_lt_of_cell? w _ hw219_1)).trans hw219_1),((HB.out.cell (World.block_lt_of_cell? w _ hw219_2)).trans hw219_2)⟩ (fun hHeld=>?_);refine with_tabW spec_l7Relay.tab6 spec_l7Relay.bits6 (fun HT_ HW_=>?_)
  generalize wr.drew=w25 at HO_11 BK213 HB hx217_0 hx217_1 hx217_2 hx218_0 hx218_1 hx218_2 hx219_0 hx219_1 hx219_2 hHeld⊢
  refine pq 0 (N:=some 25) (lb 18 1) HT_ ?_
  refine pq 1 (N:=some 26) (lb 18 3) HT_ ?_
  refine pq 2 (N:=some 27) (lb 18 7) HT_ ?_
  refine pq 3 (N:=some 28) (lb 18 15) HT_ ?_
  refine pq 5 (N:=some 30) (lb 18 47) HT_ ?_
  refine pq 6 (N:=some 31) (lb 18 111) HT_ ?_
  refine pq 7 (N:=some 32) (lb 18 239) HT_ ?_
  refine pq 8 (N:=some 33) (lb 18 495) HT_ ?_
  refine pq 10 (N:=some 35) (lb 18 1519) HT_ ?_
  refine pq 11 (N:=some 36) (lb 18 3567) HT_ ?_
  refine pq 12 (N:=some 37) (lb 18 7663) HT_ ?_
  refine pq 13 (N:=some 38) (lb 18 15855) HT_ ?_
  refine take_ (i:=4) (N:=some 29) (v:=?_) (a':=?_) (lb 18 15871) rfl rfl (take_ofW HT_.out HW_.out (by kernel_rfl)) (fun _ _ _ h=>h) (Or.inl ⟨by rfl,?_⟩) hHeld ?_ ?_
  rotate_left
  ·rintro w' ⟨s0,s1,s2,s3,s4,s5,s6,s7,s8⟩
   go_simp
   with_reducible rfl
  rotate_left
  ·simp only[ap]
   rfl
  refine pq 15 (N:=some 14) (lb 18 48639) HT_ ?_
  refine take_ (i:=9) (N:=some 34) (v:=?_) (a':=?_) (lb 18 49151) rfl rfl (take_ofW HT_.out HW_.out (by kernel_rfl)) (fun _ _ _ h=>h) (Or.inl ⟨by rfl,?_⟩) hHeld ?_ ?_
  rotate_left
  ·rintro w' ⟨s0,s1,s2,s3,s4,s5,s6,s7,s8⟩
   go_simp
   with_reducible rfl
  rotate_left
  ·simp only[ap]
   rfl
  refine pq 16 (N:=some 15) (lb 18 114687) HT_ ?_
  refine take_ (i:=14) (N:=some 39) (v:=?_) (a':=?_) (lb 18 131071) rfl rfl (take_ofW HT_.out HW_.out (by kernel_rfl)) (fun _ _ _ h=>h) (Or.inl ⟨by rfl,?_⟩) hHeld ?_ ?_
  rotate_left
  ·rintro w' ⟨s0,s1,s2,s3,s4,s5,s6,s7,s8⟩
   go_simp
   with_reducible rfl
  rotate_left
  ·simp only[ap]
   rfl
  refine pq 17 (N:=some 16) (lb 18 262143) HT_ ?_
  refine done_ (done_of HT_.out (by kernel_rfl)) ?_
  try go_wp2
  replace HO_11:=ak (R_drew HO_11.out)
  replace BK213:=ak (blk_drew BK213.out)
  replace HB:=ak (below_drew1 HB.out)
  have p223:0≤(((rd_T70 l4 x13_1).f0):Int):=od
  have q223: ((rd_T70 l4 x13_1).f0)<(l1.length:Int):=od
  obtain⟨ad223,e223,hx223_0,hx223_1,hx223_2⟩:=at_T63 HR1.out ((rd_T70 l4 x13_1).f0) p223 q223
  have hw223_2:=hx223_2
  have hw223_1:=hx223_1
  have hw223_0:=hx223_0
  cases e223
  replace hx223_0:=hc HB hx223_0
  replace hx223_1:=hc HB hx223_1
  replace hx223_2:=hc HB hx223_2
  replace p223:=eq_true p223
  replace q223:=eq_true q223
  have p225:0≤(((rd_T70 l4 x13_1).f0):Int):=od
  have q225: ((rd_T70 l4 x13_1).f0)<(l1.length:Int):=od
  obtain⟨ad225,e225,hx225_0,hx225_1,hx225_2⟩:=at_T63 HR1.out ((rd_T70 l4 x13_1).f0) p225 q225
  have hw225_2:=hx225_2
  have hw225_1:=hx225_1
  have hw225_0:=hx225_0
  obtain rfl:ad223=ad225:=(by injection e225)
  replace hx225_0:=hc HB hx225_0
  replace hx225_1:=hc HB hx225_1
  replace hx225_2:=hc HB hx225_2
  replace p225:=eq_true p225
  replace q225:=eq_true q225
  refine start_ (n:=40) (S:=fun w'=>w'.cell? ⟨gb213,0,none⟩=some (.int .i64 a0_0)∧w'.cell? ⟨gb213,1,none⟩=some (.bool a0_1)∧w'.cell? (ad223.add ((((rd_T70 l4 x13_1).f0)).toNat*3))=some (.int .i64 ((rd_T63 l1 ((rd_T70 l4 x13_1).f0)).f0))∧w'.cell? ⟨(ad223.add ((((rd_T70 l4 x13_1).f0)).toNat*3)).block,(ad223.add ((((rd_T70 l4 x13_1).f0)).toNat*3)).off+1,none⟩=some (.int .i64 ((rd_T63 l1 ((rd_T70 l4 x13_1).f0)).f1))∧w'.cell? ⟨(ad223.add ((((rd_T70 l4 x13_1).f0)).toNat*3)).block,(ad223.add ((((rd_T70 l4 x13_1).f0)).toNat*3)).off+2,none⟩=some (.int .i64 ((rd_T63 l1 ((rd_T70 l4 x13_1).f0)).f2))∧w'.cell? (ad223.add ((((rd_T70 l4 x13_1).f0)).toNat*3))=some (.int .i64 ((rd_T63 l1 ((rd_T70 l4 x13_1).f0)).f0))∧w'.cell? ⟨(ad223.add ((((rd_T70 l4 x13_1).f0)).toNat*3)).block,(ad223.add ((((rd_T70 l4 x13_1).f0)).toNat*3)).off+1,none⟩=some (.int .i64 ((rd_T63 l1 ((rd_T70 l4 x13_1).f0)).f1))∧w'.cell? ⟨(ad223.add ((((rd_T70 l4 x13_1).f0)).toNat*3)).block,(ad223.add ((((rd_T70 l4 x13_1).f0)).toNat*3)).off+2,none⟩=some (.int .i64 ((rd_T63 l1 ((rd_T70 l4 x13_1).f0)).f2))) (ds:=[]) (lb 40 0) (by kernel_rfl) rfl rfl ⟨bc BK213 0 rfl,bc BK213 1 rfl,((HB.out.cell (World.block_lt_of_cell? w _ hw223_0)).trans hw223_0),((HB.out.cell (World.block_lt_of_cell? w _ hw223_1)).trans hw223_1),((HB.out.cell (World.block_lt_of_cell? w _ hw223_2)).trans hw223_2),((HB.out.cell (World.block_lt_of_cell? w _ hw225_0)).trans hw225_0),((HB.out.cell (World.block_lt_of_cell? w _ hw225_1)).trans hw225_1),((HB.out.cell (World.block_lt_of_cell? w _ hw225_2)).trans hw225_2)⟩ (fun hHeld=>?_);refine with_tabW spec_l7Relay.tab7 spec_l7Relay.bits7 (fun HT_ HW_=>?_)
  generalize w25.drew=w26 at HO_11 BK213 HB hx223_0 hx223_1 hx223_2 hx225_0 hx225_1 hx225_2 hHeld⊢
  refine pq 0 (N:=some 40) (lb 40 1) HT_ ?_
  refine pq 1 (N:=some 41) (lb 40 3) HT_ ?_
  refine pq 2 (N:=some 42) (lb 40 7) HT_ ?_
  refine pq 3 (N:=some 43) (lb 40 15) HT_ ?_
  refine one_ (i:=4) (N:=some 44) (lb 40 31) rfl rfl (one_of HT_.out (by kernel_rfl)) (by decide) (fun K hK=>?_)
  refine goes_ Try.func100 (by kernel_rfl) rfl #[.int .i64 ((rd_T70 l4 x13_1).f0),.int .i64 0,.int .i64 (wrap64 ((l1.length:Int)-1))] (by rfl) rfl rfl gl ?_
  with_reducible refine(spec_l1In.calls ((rd_T70 l4 x13_1).f0) 0 (wrap64 ((l1.length:Int)-1)) true _ A11.out).mono ?_
  rintro e w' ⟨rfl,⟨nd,rfl⟩⟩
  refine⟨_,rfl,?_⟩
  obtain⟨Ao27,co27,eo27⟩:=R_slice HO_11.out
  (first|subst eo27|(injection eo27 with f1_ f2_ f3_;have f4_:=f1_.symm;have f5_:=f3_.symm;clear f1_ f2_ f3_;subst f4_;subst f5_))
  refine hK.out _ _ ⟨bc BK213 0 rfl,bc BK213 1 rfl,((HB.out.cell (World.block_lt_of_cell? w _ hw223_0)).trans hw223_0),((HB.out.cell (World.block_lt_of_cell? w _ hw223_1)).trans hw223_1),((HB.out.cell (World.block_lt_of_cell? w _ hw223_2)).trans hw223_2),((HB.out.cell (World.block_lt_of_cell? w _ hw225_0)).trans hw225_0),((HB.out.cell (World.block_lt_of_cell? w _ hw225_1)).trans hw225_1),((HB.out.cell (World.block_lt_of_cell? w _ hw225_2)).trans hw225_2)⟩ (fun hHeld=>?_)
  clear hK K
  refine norm_ (a':=?_) ?_ ?_
  rotate_left
  ·show Act.put _ (some 44) _=_
   simp only[ap]
   rfl
  refine pq 5 (N:=some 45) (lb 40 63) HT_ ?_
  refine pq 6 (N:=some 46) (lb 40 127) HT_ ?_
  refine pq 7 (N:=some 47) (lb 40 255) HT_ ?_
  refine pq 8 (N:=some 48) (lb 40 511) HT_ ?_
  refine one_ (i:=9) (N:=some 49) (lb 40 1023) rfl rfl (one_of HT_.out (by kernel_rfl)) (by decide) (fun K hK=>?_)
  refine goes_ Try.func102 (by kernel_rfl) rfl #[.slice Ao27 x11_1.length co27,.int .i64 ((rd_T70 l4 x13_1).f0)] (by rfl) rfl rfl gl ?_
  with_reducible refine(spec_l1Has.calls k1 _ _ x11_1 ((rd_T70 l4 x13_1).f0) false _ ?side1 ?side2 A13.out).mono ?_
  (case side1=>exact cm (R_reads' HO_11.out).2.2)
  (case side2=>exact(R_reads' HO_11.out).2.1)
  rintro e w' ⟨rfl,⟨nd,rfl⟩⟩
  refine⟨_,rfl,?_⟩
  refine hK.out _ _ ⟨bc BK213 0 rfl,bc BK213 1 rfl,((HB.out.cell (World.block_lt_of_cell? w _ hw223_0)).trans hw223_0),((HB.out.cell (World.block_lt_of_cell? w _ hw223_1)).trans hw223_1),((HB.out.cell (World.block_lt_of_cell? w _ hw223_2)).trans hw223_2),((HB.out.cell (World.block_lt_of_cell? w _ hw225_0)).trans hw225_0),((HB.out.cell (World.block_lt_of_cell? w _ hw225_1)).trans hw225_1),((HB.out.cell (World.block_lt_of_cell? w _ hw225_2)).trans hw225_2)⟩ (fun hHeld=>?_)
  clear hK K
  refine norm_ (a':=?_) ?_ ?_
  rotate_left
  ·show Act.put _ (some 49) _=_
   simp only[ap]
   rfl
  refine pq 10 (N:=some 50) (lb 40 2047) HT_ ?_
  refine pq 11 (N:=some 51) (lb 40 4095) HT_ ?_
  refine pq 12 (N:=some 52) (lb 40 8191) HT_ ?_
  refine pq 13 (N:=some 53) (lb 40 16383) HT_ ?_
  refine pq 14 (N:=some 54) (lb 40 32767) HT_ ?_
  refine pq 15 (N:=some 55) (lb 40 65535) HT_ ?_
  refine pq 16 (N:=some 56) (lb 40 131071) HT_ ?_
  refine pq 17 (N:=some 57) (lb 40 262143) HT_ ?_
  refine pq 18 (N:=some 58) (lb 40 524287) HT_ ?_
  refine pq 19 (N:=some 59) (lb 40 1048575) HT_ ?_
  refine pq 20 (N:=some 60) (lb 40 2097151) HT_ ?_
  refine one_ (i:=21) (N:=some 61) (lb 40 4194303) rfl rfl (one_of HT_.out (by kernel_rfl)) (by decide) (fun K hK=>?_)
  refine goes_ Try.func100 (by kernel_rfl) rfl #[.int .i64 ((rd_T70 l4 x13_1).f2),.int .i64 (wrap64 (((rd_T70 l4 x13_1).f1)+1)),.int .i64 a3] (by rfl) rfl rfl gl ?_
  with_reducible refine(spec_l1In.calls ((rd_T70 l4 x13_1).f2) (wrap64 (((rd_T70 l4 x13_1).f1)+1)) a3 true _ A19.out).mono ?_
  rintro e w' ⟨rfl,⟨nd,rfl⟩⟩
  refine⟨_,rfl,?_⟩
  refine hK.out _ _ ⟨bc BK213 0 rfl,bc BK213 1 rfl,((HB.out.cell (World.block_lt_of_cell? w _ hw223_0)).trans hw223_0),((HB.out.cell (World.block_lt_of_cell? w _ hw223_1)).trans hw223_1),((HB.out.cell (World.block_lt_of_cell? w _ hw223_2)).trans hw223_2),((HB.out.cell (World.block_lt_of_cell? w _ hw225_0)).trans hw225_0),((HB.out.cell (World.block_lt_of_cell? w _ hw225_1)).trans hw225_1),((HB.out.cell (World.block_lt_of_cell? w _ hw225_2)).trans hw225_2)⟩ (fun hHeld=>?_)
  clear hK K
  refine norm_ (a':=?_) ?_ ?_
  rotate_left
  ·show Act.put _ (some 61) _=_
   simp only[ap]
   rfl
  refine pq 22 (N:=some 62) (lb 40 8388607) HT_ ?_
  refine pq 23 (N:=some 63) (lb 40 16777215) HT_ ?_
  refine pq 24 (N:=some 64) (lb 40 33554431) HT_ ?_
  refine pq 26 (N:=some 66) (lb 40 100663295) HT_ ?_
  refine pq 27 (N:=some 67) (lb 40 234881023) HT_ ?_
  refine pq 28 (N:=some 68) (lb 40 503316479) HT_ ?_
  refine pq 30 (N:=some 70) (lb 40 1577058303) HT_ ?_
  refine pq 31 (N:=some 71) (lb 40 3724541951) HT_ ?_
  refine pq 33 (N:=some 73) (lb 40 12314476543) HT_ ?_
  refine pq 34 (N:=some 74) (lb 40 29494345727) HT_ ?_
  refine pq 35 (N:=some 75) (lb 40 63854084095) HT_ ?_
  refine pq 36 (N:=some 76) (lb 40 132573560831) HT_ ?_
  refine take_ (i:=25) (N:=some 65) (v:=?_) (a':=?_) (lb 40 132607115263) rfl rfl (take_ofW HT_.out HW_.out (by kernel_rfl)) (fun _ _ _ h=>h) (Or.inl ⟨by rfl,?_⟩) hHeld ?_ ?_
  rotate_left
  ·rintro w' ⟨s0,s1,s2,s3,s4,s5,s6,s7⟩
   go_simp
   with_reducible rfl
  rotate_left
  ·simp only[ap]
   rfl
  refine take_ (i:=29) (N:=some 69) (v:=?_) (a':=?_) (lb 40 133143986175) rfl rfl (take_ofW HT_.out HW_.out (by kernel_rfl)) (fun _ _ _ h=>h) (Or.inl ⟨by rfl,?_⟩) hHeld ?_ ?_
  rotate_left
  ·rintro w' ⟨s0,s1,s2,s3,s4,s5,s6,s7⟩
   go_simp
   with_reducible rfl
  rotate_left
  ·simp only[ap]
   rfl
  refine take_ (i:=37) (N:=some 77) (v:=?_) (a':=?_) (lb 40 270582939647) rfl rfl (take_ofW HT_.out HW_.out (by kernel_rfl)) (fun _ _ _ h=>h) (Or.inl ⟨by rfl,?_⟩) hHeld ?_ ?_
  rotate_left
  ·rintro w' ⟨s0,s1,s2,s3,s4,s5,s6,s7⟩
   go_simp
   with_reducible rfl
  rotate_left
  ·simp only[ap]
   rfl
  refine one_ (i:=32) (N:=some 72) (lb 40 274877906943) rfl rfl (one_of HT_.out (by kernel_rfl)) (by decide) (fun K hK=>?_)
  refine goes_ Try.func61 (by kernel_rfl) rfl #[.agg #[.int .i64 a0_0,.bool a0_1],.agg #[.int .i64 ((rd_T63 l1 ((rd_T70 l4 x13_1).f0)).f0),.int .i64 ((rd_T63 l1 ((rd_T70 l4 x13_1).f0)).f1),.int .i64 ((rd_T63 l1 ((rd_T70 l4 x13_1).f0)).f2)],.int .i64 ((rd_T70 l4 x13_1).f1),.int .i64 ((rd_T70 l4 x13_1).f2)] (by rfl) rfl rfl gl ?_
  with_reducible refine(spec_l7Steps.calls a0_0 a0_1 ((rd_T63 l1 ((rd_T70 l4 x13_1).f0)).f0) ((rd_T63 l1 ((rd_T70 l4 x13_1).f0)).f1) ((rd_T63 l1 ((rd_T70 l4 x13_1).f0)).f2) ((rd_T70 l4 x13_1).f1) ((rd_T70 l4 x13_1).f2) t224 _ A23.out).mono ?_
  rintro e w28 ⟨rfl,hb⟩
  refine⟨_,rfl,?_⟩
  replace HO_11:=rb HO_11 hb
  replace BK213:=kb BK213 hb
  replace HB:=ak (below_step (h1 HB.out GE213.out) hb)
  (try clear hb)
  (try clear hb2)
  (try clear hk)
  (try clear hi)
  refine hK.out _ _ ⟨bc BK213 0 rfl,bc BK213 1 rfl,((HB.out.cell (World.block_lt_of_cell? w _ hw223_0)).trans hw223_0),((HB.out.cell (World.block_lt_of_cell? w _ hw223_1)).trans hw223_1),((HB.out.cell (World.block_lt_of_cell? w _ hw223_2)).trans hw223_2),((HB.out.cell (World.block_lt_of_cell? w _ hw225_0)).trans hw225_0),((HB.out.cell (World.block_lt_of_cell? w _ hw225_1)).trans hw225_1),((HB.out.cell (World.block_lt_of_cell? w _ hw225_2)).trans hw225_2)⟩ (fun hHeld=>?_)
  clear hK K
  refine norm_ (a':=?_) ?_ ?_
  rotate_left
  ·show Act.put _ (some 72) _=_
   simp only[ap]
   rfl
  refine pq 38 (N:=some 78) (lb 40 549755813887) HT_ ?_
  refine pq 39 (N:=some 79) (lb 40 1099511627775) HT_ ?_
  refine done_ (done_of HT_.out (by kernel_rfl)) ?_
  try go_wp2
  go_ret
  exact⟨fe,h1 HB.out GE213.out⟩
 rw[if_neg c24]at H
 have c24b0:decide (((rd_T63 l1 ((rd_T70 l4 x13_1).f0)).f1)<t224)=false:=decide_eq_false c24
 clear c24
 obtain⟨c29,H⟩:=gi H
 have LMc29:=Aside0.mk c29
 clear c29
 generalize hy226: (x11_1++[(rd_T70 l4 x13_1).f0]:List Int)=y226 at H
 have Ny226:=ak hy226.symm
 clear hy226
 have H':=Aside0.mk H
 clear H
 try go_wp2
 replace HO_11:=ak (R_drew HO_11.out)
 replace BK213:=ak (blk_drew BK213.out)
 replace HB:=ak (below_drew1 HB.out)
 have p217:0≤(x13_1:Int):=od
 have q217:x13_1<(l4.length:Int):=od
 obtain⟨ad217,e217,hx217_0,hx217_1,hx217_2⟩:=at_T70 HR4.out x13_1 p217 q217
 have hw217_2:=hx217_2
 have hw217_1:=hx217_1
 have hw217_0:=hx217_0
 cases e217
 replace hx217_0:=hc HB hx217_0
 replace hx217_1:=hc HB hx217_1
 replace hx217_2:=hc HB hx217_2
 replace p217:=eq_true p217
 replace q217:=eq_true q217
 have p218:0≤(x13_1:Int):=od
 have q218:x13_1<(l4.length:Int):=od
 obtain⟨ad218,e218,hx218_0,hx218_1,hx218_2⟩:=at_T70 HR4.out x13_1 p218 q218
 have hw218_2:=hx218_2
 have hw218_1:=hx218_1
 have hw218_0:=hx218_0
 obtain rfl:ad217=ad218:=(by injection e218)
 replace hx218_0:=hc HB hx218_0
 replace hx218_1:=hc HB hx218_1
 replace hx218_2:=hc HB hx218_2
 replace p218:=eq_true p218
 replace q218:=eq_true q218
 have p219:0≤(x13_1:Int):=od
 have q219:x13_1<(l4.length:Int):=od
 obtain⟨ad219,e219,hx219_0,hx219_1,hx219_2⟩:=at_T70 HR4.out x13_1 p219 q219
 have hw219_2:=hx219_2
 have hw219_1:=hx219_1
 have hw219_0:=hx219_0
 obtain rfl:ad217=ad219:=(by injection e219)
 replace hx219_0:=hc HB hx219_0
 replace hx219_1:=hc HB hx219_1
 replace hx219_2:=hc HB hx219_2
 replace p219:=eq_true p219
 replace q219:=eq_true q219
 refine start_ (n:=18) (S:=fun w'=>w'.cell? (ad217.add ((x13_1).toNat*3))=some (.int .i64 ((rd_T70 l4 x13_1).f0))∧w'.cell? ⟨(ad217.add ((x13_1).toNat*3)).block,(ad217.add ((x13_1).toNat*3)).off+1,none⟩=some (.int .i64 ((rd_T70 l4 x13_1).f1))∧w'.cell? ⟨(ad217.add ((x13_1).toNat*3)).block,(ad217.add ((x13_1).toNat*3)).off+2,none⟩=some (.int .i64 ((rd_T70 l4 x13_1).f2))∧w'.cell? (ad217.add ((x13_1).toNat*3))=some (.int .i64 ((rd_T70 l4 x13_1).f0))∧w'.cell? ⟨(ad217.add ((x13_1).toNat*3)).block,(ad217.add ((x13_1).toNat*3)).off+1,none⟩=some (.int .i64 ((rd_T70 l4 x13_1).f1))∧w'.cell? ⟨(ad217.add ((x13_1).toNat*3)).block,(ad217.add ((x13_1).toNat*3)).off+2,none⟩=some (.int .i64 ((rd_T70 l4 x13_1).f2))∧w'.cell? (ad217.add ((x13_1).toNat*3))=some (.int .i64 ((rd_T70 l4 x13_1).f0))∧w'.cell? ⟨(ad217.add ((x13_1).toNat*3)).block,(ad217.add ((x13_1).toNat*3)).off+1,none⟩=some (.int .i64 ((rd_T70 l4 x13_1).f1))∧w'.cell? ⟨(ad217.add ((x13_1).toNat*3)).block,(ad217.add ((x13_1).toNat*3)).off+2,none⟩=some (.int .i64 ((rd_T70 l4 x13_1).f2))) (ds:=[]) (lb 18 0) (by kernel_rfl) rfl rfl ⟨((HB.out.cell (World.block_lt_of_cell? w _ hw217_0)).trans hw217_0),((HB.out.cell (World.block_lt_of_cell? w _ hw217_1)).trans hw217_1),((HB.out.cell (World.block_lt_of_cell? w _ hw217_2)).trans hw217_2),((HB.out.cell (World.block_lt_of_cell? w _ hw218_0)).trans hw218_0),((HB.out.cell (World.block_lt_of_cell? w _ hw218_1)).trans hw218_1),((HB.out.cell (World.block_lt_of_cell? w _ hw218_2)).trans hw218_2),((HB.out.cell (World.block_lt_of_cell? w _ hw219_0)).trans hw219_0),((HB.out.cell (World.block_lt_of_cell? w _ hw219_1)).trans hw219_1),((HB.out.cell (World.block_lt_of_cell? w _ hw219_2)).trans hw219_2)⟩ (fun hHeld=>?_);refine with_tabW spec_l7Relay.tab6 spec_l7Relay.bits6 (fun HT_ HW_=>?_)
 generalize wr.drew=w30 at HO_11 BK213 HB hx217_0 hx217_1 hx217_2 hx218_0 hx218_1 hx218_2 hx219_0 hx219_1 hx219_2 hHeld⊢
 refine pq 0 (N:=some 25) (lb 18 1) HT_ ?_
 refine pq 1 (N:=some 26) (lb 18 3) HT_ ?_
 refine pq 2 (N:=some 27) (lb 18 7) HT_ ?_
 refine pq 3 (N:=some 28) (lb 18 15) HT_ ?_
 refine pq 5 (N:=some 30) (lb 18 47) HT_ ?_
 refine pq 6 (N:=some 31) (lb 18 111) HT_ ?_
 refine pq 7 (N:=some 32) (lb 18 239) HT_ ?_
 refine pq 8 (N:=some 33) (lb 18 495) HT_ ?_
 refine pq 10 (N:=some 35) (lb 18 1519) HT_ ?_
 refine pq 11 (N:=some 36) (lb 18 3567) HT_ ?_
 refine pq 12 (N:=some 37) (lb 18 7663) HT_ ?_
 refine pq 13 (N:=some 38) (lb 18 15855) HT_ ?_
 refine take_ (i:=4) (N:=some 29) (v:=?_) (a':=?_) (lb 18 15871) rfl rfl (take_ofW HT_.out HW_.out (by kernel_rfl)) (fun _ _ _ h=>h) (Or.inl ⟨by rfl,?_⟩) hHeld ?_ ?_
 rotate_left
 ·rintro w' ⟨s0,s1,s2,s3,s4,s5,s6,s7,s8⟩
  go_simp
  with_reducible rfl
 rotate_left
 ·simp only[ap]
  rfl
 refine pq 15 (N:=some 14) (lb 18 48639) HT_ ?_
 refine take_ (i:=9) (N:=some 34) (v:=?_) (a':=?_) (lb 18 49151) rfl rfl (take_ofW HT_.out HW_.out (by kernel_rfl)) (fun _ _ _ h=>h) (Or.inl ⟨by rfl,?_⟩) hHeld ?_ ?_
 rotate_left
 ·rintro w' ⟨s0,s1,s2,s3,s4,s5,s6,s7,s8⟩
  go_simp
  with_reducible rfl
 rotate_left
 ·simp only[ap]
  rfl
 refine pq 16 (N:=some 15) (lb 18 114687) HT_ ?_
 refine take_ (i:=14) (N:=some 39) (v:=?_) (a':=?_) (lb 18 131071) rfl rfl (take_ofW HT_.out HW_.out (by kernel_rfl)) (fun _ _ _ h=>h) (Or.inl ⟨by rfl,?_⟩) hHeld ?_ ?_
 rotate_left
 ·rintro w' ⟨s0,s1,s2,s3,s4,s5,s6,s7,s8⟩
  go_simp
  with_reducible rfl
 rotate_left
 ·simp only[ap]
  rfl
 refine pq 17 (N:=some 16) (lb 18 262143) HT_ ?_
 refine done_ (done_of HT_.out (by kernel_rfl)) ?_
 try go_wp2
 replace HO_11:=ak (R_drew HO_11.out)
 replace BK213:=ak (blk_drew BK213.out)
 replace HB:=ak (below_drew1 HB.out)
 have p223:0≤(((rd_T70 l4 x13_1).f0):Int):=od
 have q223: ((rd_T70 l4 x13_1).f0)<(l1.length:Int):=od
 obtain⟨ad223,e223,hx223_0,hx223_1,hx223_2⟩:=at_T63 HR1.out ((rd_T70 l4 x13_1).f0) p223 q223
 have hw223_2:=hx223_2
 have hw223_1:=hx223_1
 have hw223_0:=hx223_0
 cases e223
 replace hx223_0:=hc HB hx223_0
 replace hx223_1:=hc HB hx223_1
 replace hx223_2:=hc HB hx223_2
 replace p223:=eq_true p223
 replace q223:=eq_true q223
 have p225:0≤(((rd_T70 l4 x13_1).f0):Int):=od
 have q225: ((rd_T70 l4 x13_1).f0)<(l1.length:Int):=od
 obtain⟨ad225,e225,hx225_0,hx225_1,hx225_2⟩:=at_T63 HR1.out ((rd_T70 l4 x13_1).f0) p225 q225
 have hw225_2:=hx225_2
 have hw225_1:=hx225_1
 have hw225_0:=hx225_0
 obtain rfl:ad223=ad225:=(by injection e225)
 replace hx225_0:=hc HB hx225_0
 replace hx225_1:=hc HB hx225_1
 replace hx225_2:=hc HB hx225_2
 replace p225:=eq_true p225
 replace q225:=eq_true q225
 refine start_ (n:=40) (S:=fun w'=>w'.cell? ⟨gb213,0,none⟩=some (.int .i64 a0_0)∧w'.cell? ⟨gb213,1,none⟩=some (.bool a0_1)∧w'.cell? (ad223.add ((((rd_T70 l4 x13_1).f0)).toNat*3))=some (.int .i64 ((rd_T63 l1 ((rd_T70 l4 x13_1).f0)).f0))∧w'.cell? ⟨(ad223.add ((((rd_T70 l4 x13_1).f0)).toNat*3)).block,(ad223.add ((((rd_T70 l4 x13_1).f0)).toNat*3)).off+1,none⟩=some (.int .i64 ((rd_T63 l1 ((rd_T70 l4 x13_1).f0)).f1))∧w'.cell? ⟨(ad223.add ((((rd_T70 l4 x13_1).f0)).toNat*3)).block,(ad223.add ((((rd_T70 l4 x13_1).f0)).toNat*3)).off+2,none⟩=some (.int .i64 ((rd_T63 l1 ((rd_T70 l4 x13_1).f0)).f2))∧w'.cell? (ad223.add ((((rd_T70 l4 x13_1).f0)).toNat*3))=some (.int .i64 ((rd_T63 l1 ((rd_T70 l4 x13_1).f0)).f0))∧w'.cell? ⟨(ad223.add ((((rd_T70 l4 x13_1).f0)).toNat*3)).block,(ad223.add ((((rd_T70 l4 x13_1).f0)).toNat*3)).off+1,none⟩=some (.int .i64 ((rd_T63 l1 ((rd_T70 l4 x13_1).f0)).f1))∧w'.cell? ⟨(ad223.add ((((rd_T70 l4 x13_1).f0)).toNat*3)).block,(ad223.add ((((rd_T70 l4 x13_1).f0)).toNat*3)).off+2,none⟩=some (.int .i64 ((rd_T63 l1 ((rd_T70 l4 x13_1).f0)).f2))) (ds:=[]) (lb 40 0) (by kernel_rfl) rfl rfl ⟨bc BK213 0 rfl,bc BK213 1 rfl,((HB.out.cell (World.block_lt_of_cell? w _ hw223_0)).trans hw223_0),((HB.out.cell (World.block_lt_of_cell? w _ hw223_1)).trans hw223_1),((HB.out.cell (World.block_lt_of_cell? w _ hw223_2)).trans hw223_2),((HB.out.cell (World.block_lt_of_cell? w _ hw225_0)).trans hw225_0),((HB.out.cell (World.block_lt_of_cell? w _ hw225_1)).trans hw225_1),((HB.out.cell (World.block_lt_of_cell? w _ hw225_2)).trans hw225_2)⟩ (fun hHeld=>?_);refine with_tabW spec_l7Relay.tab7 spec_l7Relay.bits7 (fun HT_ HW_=>?_)
 generalize w30.drew=w31 at HO_11 BK213 HB hx223_0 hx223_1 hx223_2 hx225_0 hx225_1 hx225_2 hHeld⊢
 refine pq 0 (N:=some 40) (lb 40 1) HT_ ?_
 refine pq 1 (N:=some 41) (lb 40 3) HT_ ?_
 refine pq 2 (N:=some 42) (lb 40 7) HT_ ?_
 refine pq 3 (N:=some 43) (lb 40 15) HT_ ?_
 refine one_ (i:=4) (N:=some 44) (lb 40 31) rfl rfl (one_of HT_.out (by kernel_rfl)) (by decide) (fun K hK=>?_)
 refine goes_ Try.func100 (by kernel_rfl) rfl #[.int .i64 ((rd_T70 l4 x13_1).f0),.int .i64 0,.int .i64 (wrap64 ((l1.length:Int)-1))] (by rfl) rfl rfl gl ?_
 with_reducible refine(spec_l1In.calls ((rd_T70 l4 x13_1).f0) 0 (wrap64 ((l1.length:Int)-1)) true _ A11.out).mono ?_
 rintro e w' ⟨rfl,⟨nd,rfl⟩⟩
 refine⟨_,rfl,?_⟩
 obtain⟨Ao32,co32,eo32⟩:=R_slice HO_11.out
 (first|subst eo32|(injection eo32 with f1_ f2_ f3_;have f4_:=f1_.symm;have f5_:=f3_.symm;clear f1_ f2_ f3_;subst f4_;subst f5_))
 refine hK.out _ _ ⟨bc BK213 0 rfl,bc BK213 1 rfl,((HB.out.cell (World.block_lt_of_cell? w _ hw223_0)).trans hw223_0),((HB.out.cell (World.block_lt_of_cell? w _ hw223_1)).trans hw223_1),((HB.out.cell (World.block_lt_of_cell? w _ hw223_2)).trans hw223_2),((HB.out.cell (World.block_lt_of_cell? w _ hw225_0)).trans hw225_0),((HB.out.cell (World.block_lt_of_cell? w _ hw225_1)).trans hw225_1),((HB.out.cell (World.block_lt_of_cell? w _ hw225_2)).trans hw225_2)⟩ (fun hHeld=>?_)
 clear hK K
 refine norm_ (a':=?_) ?_ ?_
 rotate_left
 ·show Act.put _ (some 44) _=_
  simp only[ap]
  rfl
 refine pq 5 (N:=some 45) (lb 40 63) HT_ ?_
 refine pq 6 (N:=some 46) (lb 40 127) HT_ ?_
 refine pq 7 (N:=some 47) (lb 40 255) HT_ ?_
 refine pq 8 (N:=some 48) (lb 40 511) HT_ ?_
 refine one_ (i:=9) (N:=some 49) (lb 40 1023) rfl rfl (one_of HT_.out (by kernel_rfl)) (by decide) (fun K hK=>?_)
 refine goes_ Try.func102 (by kernel_rfl) rfl #[.slice Ao32 x11_1.length co32,.int .i64 ((rd_T70 l4 x13_1).f0)] (by rfl) rfl rfl gl ?_
 with_reducible refine(spec_l1Has.calls k1 _ _ x11_1 ((rd_T70 l4 x13_1).f0) false _ ?side1 ?side2 A13.out).mono ?_
 (case side1=>exact cm (R_reads' HO_11.out).2.2)
 (case side2=>exact(R_reads' HO_11.out).2.1)
 rintro e w' ⟨rfl,⟨nd,rfl⟩⟩
 refine⟨_,rfl,?_⟩
 refine hK.out _ _ ⟨bc BK213 0 rfl,bc BK213 1 rfl,((HB.out.cell (World.block_lt_of_cell? w _ hw223_0)).trans hw223_0),((HB.out.cell (World.block_lt_of_cell? w _ hw223_1)).trans hw223_1),((HB.out.cell (World.block_lt_of_cell? w _ hw223_2)).trans hw223_2),((HB.out.cell (World.block_lt_of_cell? w _ hw225_0)).trans hw225_0),((HB.out.cell (World.block_lt_of_cell? w _ hw225_1)).trans hw225_1),((HB.out.cell (World.block_lt_of_cell? w _ hw225_2)).trans hw225_2)⟩ (fun hHeld=>?_)
 clear hK K
 refine norm_ (a':=?_) ?_ ?_
 rotate_left
 ·show Act.put _ (some 49) _=_
  simp only[ap]
  rfl
 refine pq 10 (N:=some 50) (lb 40 2047) HT_ ?_
 refine pq 11 (N:=some 51) (lb 40 4095) HT_ ?_
 refine pq 12 (N:=some 52) (lb 40 8191) HT_ ?_
 refine pq 13 (N:=some 53) (lb 40 16383) HT_ ?_
 refine pq 14 (N:=some 54) (lb 40 32767) HT_ ?_
 refine pq 15 (N:=some 55) (lb 40 65535) HT_ ?_
 refine pq 16 (N:=some 56) (lb 40 131071) HT_ ?_
 refine pq 17 (N:=some 57) (lb 40 262143) HT_ ?_
 refine pq 18 (N:=some 58) (lb 40 524287) HT_ ?_
 refine pq 19 (N:=some 59) (lb 40 1048575) HT_ ?_
 refine pq 20 (N:=some 60) (lb 40 2097151) HT_ ?_
 refine one_ (i:=21) (N:=some 61) (lb 40 4194303) rfl rfl (one_of HT_.out (by kernel_rfl)) (by decide) (fun K hK=>?_)
 refine goes_ Try.func100 (by kernel_rfl) rfl #[.int .i64 ((rd_T70 l4 x13_1).f2),.int .i64 (wrap64 (((rd_T70 l4 x13_1).f1)+1)),.int .i64 a3] (by rfl) rfl rfl gl ?_
 with_reducible refine(spec_l1In.calls ((rd_T70 l4 x13_1).f2) (wrap64 (((rd_T70 l4 x13_1).f1)+1)) a3 true _ A19.out).mono ?_
 rintro e w' ⟨rfl,⟨nd,rfl⟩⟩
 refine⟨_,rfl,?_⟩
 refine hK.out _ _ ⟨bc BK213 0 rfl,bc BK213 1 rfl,((HB.out.cell (World.block_lt_of_cell? w _ hw223_0)).trans hw223_0),((HB.out.cell (World.block_lt_of_cell? w _ hw223_1)).trans hw223_1),((HB.out.cell (World.block_lt_of_cell? w _ hw223_2)).trans hw223_2),((HB.out.cell (World.block_lt_of_cell? w _ hw225_0)).trans hw225_0),((HB.out.cell (World.block_lt_of_cell? w _ hw225_1)).trans hw225_1),((HB.out.cell (World.block_lt_of_cell? w _ hw225_2)).trans hw225_2)⟩ (fun hHeld=>?_)
 clear hK K
 refine norm_ (a':=?_) ?_ ?_
 rotate_left
 ·show Act.put _ (some 61) _=_
  simp only[ap]
  rfl
 refine pq 22 (N:=some 62) (lb 40 8388607) HT_ ?_
 refine pq 23 (N:=some 63) (lb 40 16777215) HT_ ?_
 refine pq 24 (N:=some 64) (lb 40 33554431) HT_ ?_
 refine pq 26 (N:=some 66) (lb 40 100663295) HT_ ?_
 refine pq 27 (N:=some 67) (lb 40 234881023) HT_ ?_
 refine pq 28 (N:=some 68) (lb 40 503316479) HT_ ?_
 refine pq 30 (N:=some 70) (lb 40 1577058303) HT_ ?_
 refine pq 31 (N:=some 71) (lb 40 3724541951) HT_ ?_
 refine pq 33 (N:=some 73) (lb 40 12314476543) HT_ ?_
 refine pq 34 (N:=some 74) (lb 40 29494345727) HT_ ?_
 refine pq 35 (N:=some 75) (lb 40 63854084095) HT_ ?_
 refine pq 36 (N:=some 76) (lb 40 132573560831) HT_ ?_
 refine take_ (i:=25) (N:=some 65) (v:=?_) (a':=?_) (lb 40 132607115263) rfl rfl (take_ofW HT_.out HW_.out (by kernel_rfl)) (fun _ _ _ h=>h) (Or.inl ⟨by rfl,?_⟩) hHeld ?_ ?_
 rotate_left
 ·rintro w' ⟨s0,s1,s2,s3,s4,s5,s6,s7⟩
  go_simp
  with_reducible rfl
 rotate_left
 ·simp only[ap]
  rfl
 refine take_ (i:=29) (N:=some 69) (v:=?_) (a':=?_) (lb 40 133143986175) rfl rfl (take_ofW HT_.out HW_.out (by kernel_rfl)) (fun _ _ _ h=>h) (Or.inl ⟨by rfl,?_⟩) hHeld ?_ ?_
 rotate_left
 ·rintro w' ⟨s0,s1,s2,s3,s4,s5,s6,s7⟩
  go_simp
  with_reducible rfl
 rotate_left
 ·simp only[ap]
  rfl
 refine take_ (i:=37) (N:=some 77) (v:=?_) (a':=?_) (lb 40 270582939647) rfl rfl (take_ofW HT_.out HW_.out (by kernel_rfl)) (fun _ _ _ h=>h) (Or.inl ⟨by rfl,?_⟩) hHeld ?_ ?_
 rotate_left
 ·rintro w' ⟨s0,s1,s2,s3,s4,s5,s6,s7⟩
  go_simp
  with_reducible rfl
 rotate_left
 ·simp only[ap]
  rfl
 refine one_ (i:=32) (N:=some 72) (lb 40 274877906943) rfl rfl (one_of HT_.out (by kernel_rfl)) (by decide) (fun K hK=>?_)
 refine goes_ Try.func61 (by kernel_rfl) rfl #[.agg #[.int .i64 a0_0,.bool a0_1],.agg #[.int .i64 ((rd_T63 l1 ((rd_T70 l4 x13_1).f0)).f0),.int .i64 ((rd_T63 l1 ((rd_T70 l4 x13_1).f0)).f1),.int .i64 ((rd_T63 l1 ((rd_T70 l4 x13_1).f0)).f2)],.int .i64 ((rd_T70 l4 x13_1).f1),.int .i64 ((rd_T70 l4 x13_1).f2)] (by rfl) rfl rfl gl ?_
 with_reducible refine(spec_l7Steps.calls a0_0 a0_1 ((rd_T63 l1 ((rd_T70 l4 x13_1).f0)).f0) ((rd_T63 l1 ((rd_T70 l4 x13_1).f0)).f1) ((rd_T63 l1 ((rd_T70 l4 x13_1).f0)).f2) ((rd_T70 l4 x13_1).f1) ((rd_T70 l4 x13_1).f2) t224 _ A23.out).mono ?_
 rintro e w33 ⟨rfl,hb⟩
 refine⟨_,rfl,?_⟩
 replace HO_11:=rb HO_11 hb
 replace BK213:=kb BK213 hb
 replace HB:=ak (below_step (h1 HB.out GE213.out) hb)
 (try clear hb)
 (try clear hb2)
 (try clear hk)
 (try clear hi)
 refine hK.out _ _ ⟨bc BK213 0 rfl,bc BK213 1 rfl,((HB.out.cell (World.block_lt_of_cell? w _ hw223_0)).trans hw223_0),((HB.out.cell (World.block_lt_of_cell? w _ hw223_1)).trans hw223_1),((HB.out.cell (World.block_lt_of_cell? w _ hw223_2)).trans hw223_2),((HB.out.cell (World.block_lt_of_cell? w _ hw225_0)).trans hw225_0),((HB.out.cell (World.block_lt_of_cell? w _ hw225_1)).trans hw225_1),((HB.out.cell (World.block_lt_of_cell? w _ hw225_2)).trans hw225_2)⟩ (fun hHeld=>?_)
 clear hK K
 refine norm_ (a':=?_) ?_ ?_
 rotate_left
 ·show Act.put _ (some 72) _=_
  simp only[ap]
  rfl
 refine pq 38 (N:=some 78) (lb 40 549755813887) HT_ ?_
 refine pq 39 (N:=some 79) (lb 40 1099511627775) HT_ ?_
 refine done_ (done_of HT_.out (by kernel_rfl)) ?_
 try go_wp2_with (first|((with_reducible refine gate_builtin (b:=.append) (xs:=#[.tmp 80,.tmp 82]) rfl ?_);at_builtin;refine R_append (Kd.int .i64) (w0:=w) w.heap.size rfl (.tmp 80) (.tmp 82) 40 3 (.int .i64 0) 8 rfl Try.underlying40 info3 rfl (by decide) (by omega) (.slice Ao32 x11_1.length co32) x11_1 ((rd_T70 l4 x13_1).f0) [.int .i64 ((rd_T70 l4 x13_1).f0)] (fun _=>True) (fun _=>False) rfl rfl ?aP (fun _ hk=>hk.elim) ?aF ?aO ?aB ?aS ?aL ?_;(case aP=>exact rfl);(case aB=>exact(h1 HB.out GE213.out));(case aF=>exact(fun _ _=>trivial));(case aO=>exact(rm HO_11.out));(case aS=>exact(below_size (h1 HB.out GE213.out)));(case aL=>have:=LMc29.out;omega);intro v227 w34 ho hb hg hat;rw[←Ny226.out]at ho;replace BK213:=ak (blk_grown (g:=gb213) (o:=.cells #[.int .i64 a0_0,.bool a0_1] 28 (0,0)) (bm BK213.out) hg (R_ne HO_11.out BK213.out (by decide)));replace HB:=ak hb;have HO228:=ak ho;clear HO_11;clear ho hb hg hat))
 go_roundg k1
 case measure=>have:=HK1.out;omega
 case rel=>exact⟨(y226),((rd_T70 l4 x13_1).f2),(wrap64 (x13_1+1)),fd,fd,H',⟨by have:=HK1.out;omega⟩,⟨rm HO228.out⟩,⟨bm BK213.out⟩,⟨h1 HB.out GE213.out⟩⟩
end
end Go.Proofs.Ythagkpoinjpmfaa.QFnRelays
