/- Functions that the law FnMoves comes to, and their walks: no condition but those named. -/
import Derived.Test.YtanfamfgdgcjpaaQFnMovesx0
import Derived.Test.YtanfamfgdgcjpaaQFnMovesx2
namespace Go.Proofs.Ytanfamfgdgcjpaa.QFnMoves
open Go.RowKit Go.Proofs.YtanfamfgdgcjpaaW.PrintWords Go.Proofs.YtanfamfgdgcjpaaW.PrintLast Go.Proofs.YtanfamfgdgcjpaaW.PrintMore Go.Proofs.Ytanfamfgdgcjpaa.Short
attribute [local go_sem] max2_int min2_int max_two min_two max_three min_three max_four min_four
set_option linter.unusedVariables false
set_option linter.unusedSimpArgs false
section
open Kd
def spec_l9Sensors.l0:Nat→List (S58)→Int→Int→Bool→Option (Bool)
 | 0,_,_,_,_=>none
 | k+1,x1,x5,x134000,x134001=>if x5<(x1.length:Int)then(if 0≤x5 then((spec_l3Line.f x134000 x134001 ((rd_T58 x1 x5).f0)).bind fun t136=>(if t136=true then((spec_l1In.f ((rd_T58 x1 x5).f1) 0 12).bind fun t138=>(if t138=true then(spec_l9Sensors.l0 k x1 (wrap64 (x5+1)) x134000 x134001)else(some false)))else(some false)))else(none))else((spec_l2Road.f x134000 x134001).bind fun t134=>(if t134=true then(if x134001=true then(some false)else(some (decide ((x1.length:Int)≤6))))else(some false)))
def spec_l9Sensors.f (k:Nat) (a0_0:Int) (a0_1:Bool) (l1:List (S58)):Option (Bool):=spec_l9Sensors.l0 k l1 0 a0_0 a0_1
theorem spec_l9Sensors.mono_l:∀ k,(∀ y0 y1 y2 y3,LeO (spec_l9Sensors.l0 k y0 y1 y2 y3) (spec_l9Sensors.l0 (k+1) y0 y1 y2 y3))
 | 0=>by
  refine ?_<;>(intros;intro r h;simp[spec_l9Sensors.l0]at h)
 | k+1=>by
  have ih0:=spec_l9Sensors.mono_l k
  refine ?_<;>intros<;>unfold spec_l9Sensors.l0<;>(repeat' (with_reducible first|exact ih0 ..|exact LeO.refl _|exact LeO.none _|refine LeO.ite ?_ ?_|refine LeO.bind ?_ (fun _=>?_)))
theorem spec_l9Sensors.mono:∀ a0 a1 a2 k,LeO (spec_l9Sensors.f k a0 a1 a2) (spec_l9Sensors.f (k+1) a0 a1 a2):=by
 intro a0 a1 a2 k
 have ih0:=spec_l9Sensors.mono_l k
 unfold spec_l9Sensors.f
 repeat' (with_reducible first|exact ih0 ..|exact LeO.refl _|exact LeO.none _|refine LeO.ite ?_ ?_|refine LeO.bind ?_ (fun _=>?_))
def spec_l9Sensors.T4:Bool × List (List Nat × List Nat):=(true,[([],[]),([],[]),([],[]),([1,2],[1,2]),([3],[3]),([4],[4]),([0,5],[0,5]),([6],[6]),([7,6],[7]),([8],[8]),([8],[8]),([9,10,8],[8,9,10]),([11,8],[8,11]),([12,8],[8,12]),([13,8,8],[8,13]),([14,8],[8,14]),([8,15],[8,15])])
def spec_l9Sensors.B4:List Nat:=[0,0,0,6,14,30,63,127,255,511,511,2047,4095,8191,16383,32767,65535]
theorem spec_l9Sensors.tab4:rtab .any (opsOf Try.f54 4)=spec_l9Sensors.T4:=by kernel_rfl
theorem spec_l9Sensors.bits4:waitsOk spec_l9Sensors.T4.2 spec_l9Sensors.B4=true:=by kernel_rfl
set_option maxHeartbeats 8000000 in
set_option maxRecDepth 100000 in
theorem spec_l9Sensors.calls (k:Nat) (a0_0:Int) (a0_1:Bool) (A1:Option Addr) (c1:Nat) (l1:List (S58)) (r:Bool) (w:World) (hr1:Kd.C k58 w A1 l1.length l1) (hc1:l1.length≤c1) (h:spec_l9Sensors.f k a0_0 a0_1 l1=some r):
  Calls Try.prog 54 #[.agg #[.int .i64 a0_0,.bool a0_1],.slice A1 l1.length c1] w fun e w'=>e= .returned (.bool r)∧Below w.heap.size w w':=by
 have HR1:=Aside0.mk hr1
 clear hr1 hc1
 have HB:=Aside0.mk (Below.refl w.heap.size w)
 unfold spec_l9Sensors.f at h
 have H:=h
 clear h
 have H':=Aside0.mk H
 clear H
 go_enter Try.func54,Try.ntmps54
 go_wp2_with (first|((with_reducible refine gate_dst (N:=2) rfl ?_);(try(refine gate_guard (by rfl) ?_;dsimp only));refine box_event ?hg (N:=2) ?hd (cs:=#[.int .i64 a0_0,.bool a0_1]) (t:=27) ?hr ?_;(case hd=>rfl);(case hg=>rfl);(case hr=>first|(go_simp;done)|(go_simp;rfl));intro gb133 hg w3 hbox hb;have BK133:=ak hbox;have GE133:=gw HB hg;replace HB:=bs HB hb;clear hb hbox hg))
 go_loopg [5] k (fun kq v5 w'=>∃ (x5_1:Int),v5= .int .i64 x5_1∧Aside0 (spec_l9Sensors.l0 kq l1 x5_1 a0_0 a0_1=some r)∧Aside0 (kq≤k)∧Aside0 (w'.heap[gb133]? =some (.cells #[.int .i64 a0_0,.bool a0_1] 27 (0,0)))∧Aside0 (Below w.heap.size w w'))
 case atStart=>exact⟨(0),fd,H',⟨Nat.le_refl _⟩,⟨bm BK133.out⟩,⟨h1 HB.out GE133.out⟩⟩
 clear H'
 obtain⟨x5_1,rfl,HA,HK1,BK133,HB⟩:=hrel
 obtain _|k1:=gk;·cases HA.out
 obtain⟨H⟩:=HA
 simp only[spec_l9Sensors.l0]at H
 by_cases c4:x5_1<(l1.length:Int)
 rotate_left
 ·rw[if_neg c4]at H
  have c4b0:decide (x5_1<(l1.length:Int))=false:=decide_eq_false c4
  clear c4
  obtain⟨t134,A16,H⟩:=bd H;(try dsimp only at H)
  by_cases c17:t134=true
  rotate_left
  ·replace c17:=Bool.eq_false_iff.mpr c17
   subst c17
   rw[if_neg (show ¬(false=true)by decide)]at H
   obtain rfl:=Option.some.inj H
   have hcz25_0:=bc BK133 0 rfl
   have hcz25_1:=bc BK133 1 rfl
   go_wp2_with (first|(refine gs 30 Try.func41 #[.agg #[.int .i64 a0_0,.bool a0_1]] ?_;(with_reducible refine(spec_l2Road.calls a0_0 a0_1 false _ A16.out).mono ?_);rintro e w26 ⟨rfl,hb⟩;refine⟨_,rfl,?_⟩;replace BK133:=kb BK133 hb;replace HB:=ak (below_step (h1 HB.out GE133.out) hb);(try clear hb);(try clear hk);(try clear hi)))
   go_ret
   exact⟨fe,h1 HB.out GE133.out⟩
  subst c17
  rw[if_pos rfl]at H
  by_cases c18:a0_1=true
  ·subst c18
   rw[if_pos rfl]at H
   obtain rfl:=Option.some.inj H
   have hcz19_0:=bc BK133 0 rfl
   have hcz19_1:=bc BK133 1 rfl
   go_wp2_with (first|(refine gs 30 Try.func41 #[.agg #[.int .i64 a0_0,.bool true]] ?_;(with_reducible refine(spec_l2Road.calls a0_0 true true _ A16.out).mono ?_);rintro e w20 ⟨rfl,hb⟩;refine⟨_,rfl,?_⟩;replace BK133:=kb BK133 hb;replace HB:=ak (below_step (h1 HB.out GE133.out) hb);(try clear hb);(try clear hk);(try clear hi);have hcz21_1:=bc BK133 1 rfl))
   go_ret
   exact⟨fe,h1 HB.out GE133.out⟩
  replace c18:=Bool.eq_false_iff.mpr c18
  subst c18
  rw[if_neg (show ¬(false=true)by decide)]at H
  obtain rfl:=Option.some.inj H
  have hcz22_0:=bc BK133 0 rfl
  have hcz22_1:=bc BK133 1 rfl
  go_wp2_with (first|(refine gs 30 Try.func41 #[.agg #[.int .i64 a0_0,.bool false]] ?_;(with_reducible refine(spec_l2Road.calls a0_0 false true _ A16.out).mono ?_);rintro e w23 ⟨rfl,hb⟩;refine⟨_,rfl,?_⟩;replace BK133:=kb BK133 hb;replace HB:=ak (below_step (h1 HB.out GE133.out) hb);(try clear hb);(try clear hk);(try clear hi);have hcz24_1:=bc BK133 1 rfl))
  go_ret
  exact⟨fe,h1 HB.out GE133.out⟩
 rw[if_pos c4]at H
 have c4b0:decide (x5_1<(l1.length:Int))=true:=decide_eq_true c4
 clear c4
 obtain⟨c5,H⟩:=gi H
 have c5b0:decide (0≤x5_1)=true:=decide_eq_true c5
 clear c5
 obtain⟨t136,A6,H⟩:=bd H;(try dsimp only at H)
 by_cases c7:t136=true
 rotate_left
 ·replace c7:=Bool.eq_false_iff.mpr c7
  subst c7
  rw[if_neg (show ¬(false=true)by decide)]at H
  obtain rfl:=Option.some.inj H
  try go_wp2
  replace BK133:=ak (blk_drew BK133.out)
  replace HB:=ak (below_drew1 HB.out)
  have p135:0≤(x5_1:Int):=od
  have q135:x5_1<(l1.length:Int):=od
  obtain⟨ad135,e135,hx135_0,hx135_1⟩:=at_T58 HR1.out x5_1 p135 q135
  have hw135_1:=hx135_1
  have hw135_0:=hx135_0
  cases e135
  replace hx135_0:=hc HB hx135_0
  replace hx135_1:=hc HB hx135_1
  replace p135:=eq_true p135
  replace q135:=eq_true q135
  refine start_ (n:=17) (S:=fun w'=>w'.cell? ⟨gb133,0,none⟩=some (.int .i64 a0_0)∧w'.cell? ⟨gb133,1,none⟩=some (.bool a0_1)∧w'.cell? (ad135.add ((x5_1).toNat*2))=some (.int .i64 ((rd_T58 l1 x5_1).f0))∧w'.cell? ⟨(ad135.add ((x5_1).toNat*2)).block,(ad135.add ((x5_1).toNat*2)).off+1,none⟩=some (.int .i64 ((rd_T58 l1 x5_1).f1))) (ds:=[]) (lb 17 0) (by kernel_rfl) rfl rfl ⟨bc BK133 0 rfl,bc BK133 1 rfl,((HB.out.cell (World.block_lt_of_cell? w _ hw135_0)).trans hw135_0),((HB.out.cell (World.block_lt_of_cell? w _ hw135_1)).trans hw135_1)⟩ (fun hHeld=>?_);refine with_tabW spec_l9Sensors.tab4 spec_l9Sensors.bits4 (fun HT_ HW_=>?_)
  generalize wr.drew=w14 at BK133 HB hx135_0 hx135_1 hHeld⊢
  refine pq 1 (N:=some 13) (lb 17 2) HT_ ?_
  refine pq 2 (N:=some 14) (lb 17 6) HT_ ?_
  refine pq 3 (N:=some 15) (lb 17 14) HT_ ?_
  refine pq 4 (N:=some 16) (lb 17 30) HT_ ?_
  refine tq 0 (N:=some 12) (lb 17 31) HT_ HW_ hHeld ?_
  refine tq 5 (N:=some 17) (lb 17 63) HT_ HW_ hHeld ?_
  refine one_ (i:=6) (N:=some 18) (lb 17 127) rfl rfl (one_of HT_.out (by kernel_rfl)) (by decide) (fun K hK=>?_)
  refine goes_ Try.func80 (by kernel_rfl) rfl #[.agg #[.int .i64 a0_0,.bool a0_1],.int .i64 ((rd_T58 l1 x5_1).f0)] (by rfl) rfl rfl gl ?_
  with_reducible refine(spec_l3Line.calls a0_0 a0_1 ((rd_T58 l1 x5_1).f0) false _ A6.out).mono ?_
  rintro e w15 ⟨rfl,hb⟩
  refine⟨_,rfl,?_⟩
  replace BK133:=kb BK133 hb
  replace HB:=ak (below_step (h1 HB.out GE133.out) hb)
  (try clear hb)
  (try clear hb2)
  (try clear hk)
  (try clear hi)
  refine hK.out _ _ ⟨bc BK133 0 rfl,bc BK133 1 rfl,((HB.out.cell (World.block_lt_of_cell? w _ hw135_0)).trans hw135_0),((HB.out.cell (World.block_lt_of_cell? w _ hw135_1)).trans hw135_1)⟩ (fun hHeld=>?_)
  clear hK K
  refine norm_ (a':=?_) ?_ ?_
  rotate_left
  ·show Act.put _ (some 18) _=_
   simp only[ap]
   rfl
  refine pq 7 (N:=some 19) (lb 17 255) HT_ ?_
  refine pq 8 (N:=some 20) (lb 17 511) HT_ ?_
  refine pz 9 (N:=some 21) (lb 17 1023) HT_ ?_
  refine pz 10 (N:=some 22) (lb 17 2047) HT_ ?_
  refine pz 11 (N:=some 23) (lb 17 4095) HT_ ?_
  refine pz 12 (N:=some 24) (lb 17 8191) HT_ ?_
  refine pz 13 (N:=some 25) (lb 17 16383) HT_ ?_
  refine pz 14 (N:=some 26) (lb 17 32767) HT_ ?_
  refine pz 15 (N:=some 27) (lb 17 65535) HT_ ?_
  refine pq 16 (N:=some 28) (lb 17 131071) HT_ ?_
  refine done_ (done_of HT_.out (by kernel_rfl)) ?_
  try go_wp2
  go_ret
  exact⟨fe,h1 HB.out GE133.out⟩
 subst c7
 rw[if_pos rfl]at H
 obtain⟨t138,A8,H⟩:=bd H;(try dsimp only at H)
 by_cases c9:t138=true
 rotate_left
 ·replace c9:=Bool.eq_false_iff.mpr c9
  subst c9
  rw[if_neg (show ¬(false=true)by decide)]at H
  obtain rfl:=Option.some.inj H
  try go_wp2
  replace BK133:=ak (blk_drew BK133.out)
  replace HB:=ak (below_drew1 HB.out)
  have p135:0≤(x5_1:Int):=od
  have q135:x5_1<(l1.length:Int):=od
  obtain⟨ad135,e135,hx135_0,hx135_1⟩:=at_T58 HR1.out x5_1 p135 q135
  have hw135_1:=hx135_1
  have hw135_0:=hx135_0
  cases e135
  replace hx135_0:=hc HB hx135_0
  replace hx135_1:=hc HB hx135_1
  replace p135:=eq_true p135
  replace q135:=eq_true q135
  have p137:0≤(x5_1:Int):=od
  have q137:x5_1<(l1.length:Int):=od
  obtain⟨ad137,e137,hx137_0,hx137_1⟩:=at_T58 HR1.out x5_1 p137 q137
  have hw137_1:=hx137_1
  have hw137_0:=hx137_0
  obtain rfl:ad135=ad137:=(by injection e137)
  replace hx137_0:=hc HB hx137_0
  replace hx137_1:=hc HB hx137_1
  replace p137:=eq_true p137
  replace q137:=eq_true q137
  refine start_ (n:=17) (S:=fun w'=>w'.cell? ⟨gb133,0,none⟩=some (.int .i64 a0_0)∧w'.cell? ⟨gb133,1,none⟩=some (.bool a0_1)∧w'.cell? (ad135.add ((x5_1).toNat*2))=some (.int .i64 ((rd_T58 l1 x5_1).f0))∧w'.cell? ⟨(ad135.add ((x5_1).toNat*2)).block,(ad135.add ((x5_1).toNat*2)).off+1,none⟩=some (.int .i64 ((rd_T58 l1 x5_1).f1))∧w'.cell? (ad135.add ((x5_1).toNat*2))=some (.int .i64 ((rd_T58 l1 x5_1).f0))∧w'.cell? ⟨(ad135.add ((x5_1).toNat*2)).block,(ad135.add ((x5_1).toNat*2)).off+1,none⟩=some (.int .i64 ((rd_T58 l1 x5_1).f1))) (ds:=[]) (lb 17 0) (by kernel_rfl) rfl rfl ⟨bc BK133 0 rfl,bc BK133 1 rfl,((HB.out.cell (World.block_lt_of_cell? w _ hw135_0)).trans hw135_0),((HB.out.cell (World.block_lt_of_cell? w _ hw135_1)).trans hw135_1),((HB.out.cell (World.block_lt_of_cell? w _ hw137_0)).trans hw137_0),((HB.out.cell (World.block_lt_of_cell? w _ hw137_1)).trans hw137_1)⟩ (fun hHeld=>?_);refine with_tabW spec_l9Sensors.tab4 spec_l9Sensors.bits4 (fun HT_ HW_=>?_)
  generalize wr.drew=w12 at BK133 HB hx135_0 hx135_1 hx137_0 hx137_1 hHeld⊢
  refine pq 1 (N:=some 13) (lb 17 2) HT_ ?_
  refine pq 2 (N:=some 14) (lb 17 6) HT_ ?_
  refine pq 3 (N:=some 15) (lb 17 14) HT_ ?_
  refine pq 4 (N:=some 16) (lb 17 30) HT_ ?_
  refine tq 0 (N:=some 12) (lb 17 31) HT_ HW_ hHeld ?_
  refine tq 5 (N:=some 17) (lb 17 63) HT_ HW_ hHeld ?_
  refine one_ (i:=6) (N:=some 18) (lb 17 127) rfl rfl (one_of HT_.out (by kernel_rfl)) (by decide) (fun K hK=>?_)
  refine goes_ Try.func80 (by kernel_rfl) rfl #[.agg #[.int .i64 a0_0,.bool a0_1],.int .i64 ((rd_T58 l1 x5_1).f0)] (by rfl) rfl rfl gl ?_
  with_reducible refine(spec_l3Line.calls a0_0 a0_1 ((rd_T58 l1 x5_1).f0) true _ A6.out).mono ?_
  rintro e w13 ⟨rfl,hb⟩
  refine⟨_,rfl,?_⟩
  replace BK133:=kb BK133 hb
  replace HB:=ak (below_step (h1 HB.out GE133.out) hb)
  (try clear hb)
  (try clear hb2)
  (try clear hk)
  (try clear hi)
  refine hK.out _ _ ⟨bc BK133 0 rfl,bc BK133 1 rfl,((HB.out.cell (World.block_lt_of_cell? w _ hw135_0)).trans hw135_0),((HB.out.cell (World.block_lt_of_cell? w _ hw135_1)).trans hw135_1),((HB.out.cell (World.block_lt_of_cell? w _ hw137_0)).trans hw137_0),((HB.out.cell (World.block_lt_of_cell? w _ hw137_1)).trans hw137_1)⟩ (fun hHeld=>?_)
  clear hK K
  refine norm_ (a':=?_) ?_ ?_
  rotate_left
  ·show Act.put _ (some 18) _=_
   simp only[ap]
   rfl
  refine pq 7 (N:=some 19) (lb 17 255) HT_ ?_
  refine pq 8 (N:=some 20) (lb 17 511) HT_ ?_
  refine pq 9 (N:=some 21) (lb 17 1023) HT_ ?_
  refine pq 10 (N:=some 22) (lb 17 2047) HT_ ?_
  refine pq 11 (N:=some 23) (lb 17 4095) HT_ ?_
  refine pq 12 (N:=some 24) (lb 17 8191) HT_ ?_
  refine tq 13 (N:=some 25) (lb 17 16383) HT_ HW_ hHeld ?_
  refine one_ (i:=14) (N:=some 26) (lb 17 32767) rfl rfl (one_of HT_.out (by kernel_rfl)) (by decide) (fun K hK=>?_)
  refine goes_ Try.func42 (by kernel_rfl) rfl #[.int .i64 ((rd_T58 l1 x5_1).f1),.int .i64 0,.int .i64 12] (by rfl) rfl rfl gl ?_
  with_reducible refine(spec_l1In.calls ((rd_T58 l1 x5_1).f1) 0 12 false _ A8.out).mono ?_
  rintro e w' ⟨rfl,⟨nd,rfl⟩⟩
  refine⟨_,rfl,?_⟩
  refine hK.out _ _ ⟨bc BK133 0 rfl,bc BK133 1 rfl,((HB.out.cell (World.block_lt_of_cell? w _ hw135_0)).trans hw135_0),((HB.out.cell (World.block_lt_of_cell? w _ hw135_1)).trans hw135_1),((HB.out.cell (World.block_lt_of_cell? w _ hw137_0)).trans hw137_0),((HB.out.cell (World.block_lt_of_cell? w _ hw137_1)).trans hw137_1)⟩ (fun hHeld=>?_)
  clear hK K
  refine norm_ (a':=?_) ?_ ?_
  rotate_left
  ·show Act.put _ (some 26) _=_
   simp only[ap]
   rfl
  refine pq 15 (N:=some 27) (lb 17 65535) HT_ ?_
  refine pq 16 (N:=some 28) (lb 17 131071) HT_ ?_
  refine done_ (done_of HT_.out (by kernel_rfl)) ?_
  try go_wp2
  go_ret
  exact⟨fe,h1 HB.out GE133.out⟩
 subst c9
 rw[if_pos rfl]at H
 have H':=Aside0.mk H
 clear H
 try go_wp2
 replace BK133:=ak (blk_drew BK133.out)
 replace HB:=ak (below_drew1 HB.out)
 have p135:0≤(x5_1:Int):=od
 have q135:x5_1<(l1.length:Int):=od
 obtain⟨ad135,e135,hx135_0,hx135_1⟩:=at_T58 HR1.out x5_1 p135 q135
 have hw135_1:=hx135_1
 have hw135_0:=hx135_0
 cases e135
 replace hx135_0:=hc HB hx135_0
 replace hx135_1:=hc HB hx135_1
 replace p135:=eq_true p135
 replace q135:=eq_true q135
 have p137:0≤(x5_1:Int):=od
 have q137:x5_1<(l1.length:Int):=od
 obtain⟨ad137,e137,hx137_0,hx137_1⟩:=at_T58 HR1.out x5_1 p137 q137
 have hw137_1:=hx137_1
 have hw137_0:=hx137_0
 obtain rfl:ad135=ad137:=(by injection e137)
 replace hx137_0:=hc HB hx137_0
 replace hx137_1:=hc HB hx137_1
 replace p137:=eq_true p137
 replace q137:=eq_true q137
 refine start_ (n:=17) (S:=fun w'=>w'.cell? ⟨gb133,0,none⟩=some (.int .i64 a0_0)∧w'.cell? ⟨gb133,1,none⟩=some (.bool a0_1)∧w'.cell? (ad135.add ((x5_1).toNat*2))=some (.int .i64 ((rd_T58 l1 x5_1).f0))∧w'.cell? ⟨(ad135.add ((x5_1).toNat*2)).block,(ad135.add ((x5_1).toNat*2)).off+1,none⟩=some (.int .i64 ((rd_T58 l1 x5_1).f1))∧w'.cell? (ad135.add ((x5_1).toNat*2))=some (.int .i64 ((rd_T58 l1 x5_1).f0))∧w'.cell? ⟨(ad135.add ((x5_1).toNat*2)).block,(ad135.add ((x5_1).toNat*2)).off+1,none⟩=some (.int .i64 ((rd_T58 l1 x5_1).f1))) (ds:=[]) (lb 17 0) (by kernel_rfl) rfl rfl ⟨bc BK133 0 rfl,bc BK133 1 rfl,((HB.out.cell (World.block_lt_of_cell? w _ hw135_0)).trans hw135_0),((HB.out.cell (World.block_lt_of_cell? w _ hw135_1)).trans hw135_1),((HB.out.cell (World.block_lt_of_cell? w _ hw137_0)).trans hw137_0),((HB.out.cell (World.block_lt_of_cell? w _ hw137_1)).trans hw137_1)⟩ (fun hHeld=>?_);refine with_tabW spec_l9Sensors.tab4 spec_l9Sensors.bits4 (fun HT_ HW_=>?_)
 generalize wr.drew=w10 at BK133 HB hx135_0 hx135_1 hx137_0 hx137_1 hHeld⊢
 refine pq 1 (N:=some 13) (lb 17 2) HT_ ?_
 refine pq 2 (N:=some 14) (lb 17 6) HT_ ?_
 refine pq 3 (N:=some 15) (lb 17 14) HT_ ?_
 refine pq 4 (N:=some 16) (lb 17 30) HT_ ?_
 refine tq 0 (N:=some 12) (lb 17 31) HT_ HW_ hHeld ?_
 refine tq 5 (N:=some 17) (lb 17 63) HT_ HW_ hHeld ?_
 refine one_ (i:=6) (N:=some 18) (lb 17 127) rfl rfl (one_of HT_.out (by kernel_rfl)) (by decide) (fun K hK=>?_)
 refine goes_ Try.func80 (by kernel_rfl) rfl #[.agg #[.int .i64 a0_0,.bool a0_1],.int .i64 ((rd_T58 l1 x5_1).f0)] (by rfl) rfl rfl gl ?_
 with_reducible refine(spec_l3Line.calls a0_0 a0_1 ((rd_T58 l1 x5_1).f0) true _ A6.out).mono ?_
 rintro e w11 ⟨rfl,hb⟩
 refine⟨_,rfl,?_⟩
 replace BK133:=kb BK133 hb
 replace HB:=ak (below_step (h1 HB.out GE133.out) hb)
 (try clear hb)
 (try clear hb2)
 (try clear hk)
 (try clear hi)
 refine hK.out _ _ ⟨bc BK133 0 rfl,bc BK133 1 rfl,((HB.out.cell (World.block_lt_of_cell? w _ hw135_0)).trans hw135_0),((HB.out.cell (World.block_lt_of_cell? w _ hw135_1)).trans hw135_1),((HB.out.cell (World.block_lt_of_cell? w _ hw137_0)).trans hw137_0),((HB.out.cell (World.block_lt_of_cell? w _ hw137_1)).trans hw137_1)⟩ (fun hHeld=>?_)
 clear hK K
 refine norm_ (a':=?_) ?_ ?_
 rotate_left
 ·show Act.put _ (some 18) _=_
  simp only[ap]
  rfl
 refine pq 7 (N:=some 19) (lb 17 255) HT_ ?_
 refine pq 8 (N:=some 20) (lb 17 511) HT_ ?_
 refine pq 9 (N:=some 21) (lb 17 1023) HT_ ?_
 refine pq 10 (N:=some 22) (lb 17 2047) HT_ ?_
 refine pq 11 (N:=some 23) (lb 17 4095) HT_ ?_
 refine pq 12 (N:=some 24) (lb 17 8191) HT_ ?_
 refine tq 13 (N:=some 25) (lb 17 16383) HT_ HW_ hHeld ?_
 refine one_ (i:=14) (N:=some 26) (lb 17 32767) rfl rfl (one_of HT_.out (by kernel_rfl)) (by decide) (fun K hK=>?_)
 refine goes_ Try.func42 (by kernel_rfl) rfl #[.int .i64 ((rd_T58 l1 x5_1).f1),.int .i64 0,.int .i64 12] (by rfl) rfl rfl gl ?_
 with_reducible refine(spec_l1In.calls ((rd_T58 l1 x5_1).f1) 0 12 true _ A8.out).mono ?_
 rintro e w' ⟨rfl,⟨nd,rfl⟩⟩
 refine⟨_,rfl,?_⟩
 refine hK.out _ _ ⟨bc BK133 0 rfl,bc BK133 1 rfl,((HB.out.cell (World.block_lt_of_cell? w _ hw135_0)).trans hw135_0),((HB.out.cell (World.block_lt_of_cell? w _ hw135_1)).trans hw135_1),((HB.out.cell (World.block_lt_of_cell? w _ hw137_0)).trans hw137_0),((HB.out.cell (World.block_lt_of_cell? w _ hw137_1)).trans hw137_1)⟩ (fun hHeld=>?_)
 clear hK K
 refine norm_ (a':=?_) ?_ ?_
 rotate_left
 ·show Act.put _ (some 26) _=_
  simp only[ap]
  rfl
 refine pq 15 (N:=some 27) (lb 17 65535) HT_ ?_
 refine pq 16 (N:=some 28) (lb 17 131071) HT_ ?_
 refine done_ (done_of HT_.out (by kernel_rfl)) ?_
 try go_wp2
 go_roundg k1
 case measure=>have:=HK1.out;omega
 case rel=>exact⟨(wrap64 (x5_1+1)),fd,H',⟨by have:=HK1.out;omega⟩,⟨bm BK133.out⟩,⟨h1 HB.out GE133.out⟩⟩
def spec_l9Asks.f (k:Nat) (a0_0:Int) (a0_1:Bool) (l1:List (S58)) (a2:Int):Option (Bool):=(spec_l9Sensors.f k a0_0 a0_1 l1).bind fun t140=>(if t140=true then((spec_l1In.f a2 0 24).bind fun t141=>(some t141))else(some false))
theorem spec_l9Asks.mono:∀ a0 a1 a2 a3 k,LeO (spec_l9Asks.f k a0 a1 a2 a3) (spec_l9Asks.f (k+1) a0 a1 a2 a3):=by
 intro a0 a1 a2 a3 k
 unfold spec_l9Asks.f
 repeat' (with_reducible first|exact spec_l9Sensors.mono ..|exact LeO.refl _|exact LeO.none _|refine LeO.ite ?_ ?_|refine LeO.bind ?_ (fun _=>?_))
set_option maxHeartbeats 8000000 in
set_option maxRecDepth 100000 in
theorem spec_l9Asks.calls (k:Nat) (a0_0:Int) (a0_1:Bool) (A1:Option Addr) (c1:Nat) (l1:List (S58)) (a2:Int) (r:Bool) (w:World) (hr1:Kd.C k58 w A1 l1.length l1) (hc1:l1.length≤c1) (h:spec_l9Asks.f k a0_0 a0_1 l1 a2=some r):
  Calls Try.prog 47 #[.agg #[.int .i64 a0_0,.bool a0_1],.slice A1 l1.length c1,.int .i64 a2] w fun e w'=>e= .returned (.bool r)∧Below w.heap.size w w':=by
 have HR1:=Aside0.mk hr1
 have HC1:=Aside0.mk hc1
 clear hr1 hc1
 have HB:=Aside0.mk (Below.refl w.heap.size w)
 unfold spec_l9Asks.f at h
 have H:=h
 clear h
 obtain⟨t140,A4,H⟩:=bd H;(try dsimp only at H)
 by_cases c5:t140=true
 rotate_left
 ·replace c5:=Bool.eq_false_iff.mpr c5
  subst c5
  rw[if_neg (show ¬(false=true)by decide)]at H
  obtain rfl:=Option.some.inj H
  go_enter Try.func47,Try.ntmps47
  go_wp2_with (first|(refine bx 3 #[.int .i64 a0_0,.bool a0_1] 27 ?_;intro gb139 hg w10 hbox hb;have BK139:=ak hbox;have GE139:=gw HB hg;replace HB:=bs HB hb;clear hb hbox hg;have hcz11_0:=bc BK139 0 rfl;have hcz11_1:=bc BK139 1 rfl)|(refine gs 9 Try.func54 #[.agg #[.int .i64 a0_0,.bool a0_1],.slice A1 l1.length c1] ?_;(with_reducible refine(spec_l9Sensors.calls k a0_0 a0_1 _ _ l1 false _ ?side1 ?side2 A4.out).mono ?_);(case side1=>exact cm (C_below HR1.out HB.out));(case side2=>exact HC1.out);rintro e w12 ⟨rfl,hb⟩;refine⟨_,rfl,?_⟩;replace BK139:=kb BK139 hb;replace HB:=ak (below_step (h1 HB.out GE139.out) hb);(try clear hb);(try clear hk);(try clear hi)))
  go_ret
  exact⟨fe,h1 HB.out GE139.out⟩
 subst c5
 rw[if_pos rfl]at H
 obtain⟨t141,A6,H⟩:=bd H;(try dsimp only at H)
 obtain rfl:=Option.some.inj H
 go_enter Try.func47,Try.ntmps47
 go_wp2_with (first|(refine bx 3 #[.int .i64 a0_0,.bool a0_1] 27 ?_;intro gb139 hg w7 hbox hb;have BK139:=ak hbox;have GE139:=gw HB hg;replace HB:=bs HB hb;clear hb hbox hg;have hcz8_0:=bc BK139 0 rfl;have hcz8_1:=bc BK139 1 rfl)|(refine gs 9 Try.func54 #[.agg #[.int .i64 a0_0,.bool a0_1],.slice A1 l1.length c1] ?_;(with_reducible refine(spec_l9Sensors.calls k a0_0 a0_1 _ _ l1 true _ ?side1 ?side2 A4.out).mono ?_);(case side1=>exact cm (C_below HR1.out HB.out));(case side2=>exact HC1.out);rintro e w9 ⟨rfl,hb⟩;refine⟨_,rfl,?_⟩;replace BK139:=kb BK139 hb;replace HB:=ak (below_step (h1 HB.out GE139.out) hb);(try clear hb);(try clear hk);(try clear hi))|(go_at_call 42;(with_reducible refine(spec_l1In.calls a2 0 24 t141 _ A6.out).mono ?_);rintro e w' ⟨rfl,⟨nd,rfl⟩⟩))
 go_ret
 exact⟨fe,h1 HB.out GE139.out⟩
def spec_l9Place.f (a0_0:Int) (a0_1:Bool) (a1_0:Int) (a1_1:Int) (a2:Int) (a3:Int):Option (Int):=(spec_l1Least.f (wrap64 (a1_0+a3)) (wrap64 (a2+a1_1))).bind fun t144=>((spec_l1Least.f t144 (wrap64 (a0_0-1))).bind fun t145=>(if t145<(wrap64 (a1_0-a3))then(some (-1))else(if t145<(wrap64 (a2-a1_1))then(some (-1))else(some t145))))
set_option maxHeartbeats 8000000 in
set_option maxRecDepth 100000 in
theorem spec_l9Place.calls (a0_0:Int) (a0_1:Bool) (a1_0:Int) (a1_1:Int) (a2:Int) (a3:Int) (r:Int) (w:World) (h:spec_l9Place.f a0_0 a0_1 a1_0 a1_1 a2 a3=some r):
  Calls Try.prog 78 #[.agg #[.int .i64 a0_0,.bool a0_1],.agg #[.int .i64 a1_0,.int .i64 a1_1],.int .i64 a2,.int .i64 a3] w fun e w'=>e= .returned (.int .i64 r)∧Below w.heap.size w w':=by
 have HB:=Aside0.mk (Below.refl w.heap.size w)
 unfold spec_l9Place.f at h
 have H:=h
 clear h
 obtain⟨t144,A5,H⟩:=bd H;(try dsimp only at H)
 obtain⟨t145,A6,H⟩:=bd H;(try dsimp only at H)
 by_cases c7:t145<(wrap64 (a1_0-a3))
 ·rw[if_pos c7]at H
  have c7b0:decide (t145<(wrap64 (a1_0-a3)))=true:=decide_eq_true c7
  clear c7
  obtain rfl:=Option.some.inj H
  go_enter Try.func78,Try.ntmps78
  have go_:=trivial;repeat((first|clear go_|go_quiet (first|(go_at_call 44;(try simp only[Go.IntWalk.i64_left]);(with_reducible refine(spec_l1Least.calls (wrap64 (a1_0+a3)) (wrap64 (a2+a1_1)) t144 _ A5.out).mono ?_);rintro e w' ⟨rfl,⟨nd,rfl⟩⟩;(try first|exact⟨rfl,_,World.drewN_drewN _ _ _⟩|exact⟨rfl,_,Eq.trans (World.drewN_drewN _ _ _) (congrArg (World.drewN _) (Nat.add_assoc _ _ _))⟩);have hcz12_0:=bc BK142 0 rfl)|(go_at_call 44;(try simp only[Go.IntWalk.i64_left]);(with_reducible refine(spec_l1Least.calls t144 (wrap64 (a0_0-1)) t145 _ A6.out).mono ?_);rintro e w' ⟨rfl,⟨nd,rfl⟩⟩;(try first|exact⟨rfl,_,World.drewN_drewN _ _ _⟩|exact⟨rfl,_,Eq.trans (World.drewN_drewN _ _ _) (congrArg (World.drewN _) (Nat.add_assoc _ _ _))⟩))));try go_wp2_with (first|(refine bx 4 #[.int .i64 a0_0,.bool a0_1] 27 ?_;intro gb142 hg w8 hbox hb;have BK142:=ak hbox;have GE142:=gw HB hg;replace HB:=bs HB hb;clear hb hbox hg)|(refine bx 5 #[.int .i64 a1_0,.int .i64 a1_1] 58 ?_;intro gb143 hg w9 hbox hb;have BK143:=ak hbox;have GE143:=ak ((by rw[hg];exact(below_size (h1 HB.out GE142.out)):w.heap.size≤gb143));replace HB:=ak (below_step (h1 HB.out GE142.out) hb);have NB142_143:=nl BK142 hg;have NB143_142:=ng BK142 hg;replace BK142:=kb BK142 hb;clear hb hbox hg;have hcz11_0:=bc BK143 0 rfl;have hcz11_1:=bc BK143 1 rfl)|(go_at_call 44;(try simp only[Go.IntWalk.i64_left]);(with_reducible refine(spec_l1Least.calls (wrap64 (a1_0+a3)) (wrap64 (a2+a1_1)) t144 _ A5.out).mono ?_);rintro e w' ⟨rfl,⟨nd,rfl⟩⟩;(try first|exact⟨rfl,_,World.drewN_drewN _ _ _⟩|exact⟨rfl,_,Eq.trans (World.drewN_drewN _ _ _) (congrArg (World.drewN _) (Nat.add_assoc _ _ _))⟩);have hcz12_0:=bc BK142 0 rfl;have hcz12_1:=bc BK142 1 rfl;have hfz12_0:=bf BK142 0;have hfz12_1:=bf BK142 1)|(go_at_call 44;(try simp only[Go.IntWalk.i64_left]);(with_reducible refine(spec_l1Least.calls t144 (wrap64 (a0_0-1)) t145 _ A6.out).mono ?_);rintro e w' ⟨rfl,⟨nd,rfl⟩⟩;(try first|exact⟨rfl,_,World.drewN_drewN _ _ _⟩|exact⟨rfl,_,Eq.trans (World.drewN_drewN _ _ _) (congrArg (World.drewN _) (Nat.add_assoc _ _ _))⟩))))
  go_ret
  exact⟨fe,h2 HB.out GE142.out GE143.out⟩
 rw[if_neg c7]at H
 have c7b0:decide (t145<(wrap64 (a1_0-a3)))=false:=decide_eq_false c7
 clear c7
 by_cases c13:t145<(wrap64 (a2-a1_1))
 ·rw[if_pos c13]at H
  have c13b0:decide (t145<(wrap64 (a2-a1_1)))=true:=decide_eq_true c13
  clear c13
  obtain rfl:=Option.some.inj H
  go_enter Try.func78,Try.ntmps78
  have go_:=trivial;repeat((first|clear go_|go_quiet (first|(go_at_call 44;(try simp only[Go.IntWalk.i64_left]);(with_reducible refine(spec_l1Least.calls (wrap64 (a1_0+a3)) (wrap64 (a2+a1_1)) t144 _ A5.out).mono ?_);rintro e w' ⟨rfl,⟨nd,rfl⟩⟩;(try first|exact⟨rfl,_,World.drewN_drewN _ _ _⟩|exact⟨rfl,_,Eq.trans (World.drewN_drewN _ _ _) (congrArg (World.drewN _) (Nat.add_assoc _ _ _))⟩);have hcz18_0:=bc BK142 0 rfl)|(go_at_call 44;(try simp only[Go.IntWalk.i64_left]);(with_reducible refine(spec_l1Least.calls t144 (wrap64 (a0_0-1)) t145 _ A6.out).mono ?_);rintro e w' ⟨rfl,⟨nd,rfl⟩⟩;(try first|exact⟨rfl,_,World.drewN_drewN _ _ _⟩|exact⟨rfl,_,Eq.trans (World.drewN_drewN _ _ _) (congrArg (World.drewN _) (Nat.add_assoc _ _ _))⟩))));try go_wp2_with (first|(refine bx 4 #[.int .i64 a0_0,.bool a0_1] 27 ?_;intro gb142 hg w14 hbox hb;have BK142:=ak hbox;have GE142:=gw HB hg;replace HB:=bs HB hb;clear hb hbox hg)|(refine bx 5 #[.int .i64 a1_0,.int .i64 a1_1] 58 ?_;intro gb143 hg w15 hbox hb;have BK143:=ak hbox;have GE143:=ak ((by rw[hg];exact(below_size (h1 HB.out GE142.out)):w.heap.size≤gb143));replace HB:=ak (below_step (h1 HB.out GE142.out) hb);have NB142_143:=nl BK142 hg;have NB143_142:=ng BK142 hg;replace BK142:=kb BK142 hb;clear hb hbox hg;have hcz17_0:=bc BK143 0 rfl;have hcz17_1:=bc BK143 1 rfl)|(go_at_call 44;(try simp only[Go.IntWalk.i64_left]);(with_reducible refine(spec_l1Least.calls (wrap64 (a1_0+a3)) (wrap64 (a2+a1_1)) t144 _ A5.out).mono ?_);rintro e w' ⟨rfl,⟨nd,rfl⟩⟩;(try first|exact⟨rfl,_,World.drewN_drewN _ _ _⟩|exact⟨rfl,_,Eq.trans (World.drewN_drewN _ _ _) (congrArg (World.drewN _) (Nat.add_assoc _ _ _))⟩);have hcz18_0:=bc BK142 0 rfl;have hcz18_1:=bc BK142 1 rfl;have hfz18_0:=bf BK142 0;have hfz18_1:=bf BK142 1)|(go_at_call 44;(try simp only[Go.IntWalk.i64_left]);(with_reducible refine(spec_l1Least.calls t144 (wrap64 (a0_0-1)) t145 _ A6.out).mono ?_);rintro e w' ⟨rfl,⟨nd,rfl⟩⟩;(try first|exact⟨rfl,_,World.drewN_drewN _ _ _⟩|exact⟨rfl,_,Eq.trans (World.drewN_drewN _ _ _) (congrArg (World.drewN _) (Nat.add_assoc _ _ _))⟩))))
  go_ret
  exact⟨fe,h2 HB.out GE142.out GE143.out⟩
 rw[if_neg c13]at H
 have c13b0:decide (t145<(wrap64 (a2-a1_1)))=false:=decide_eq_false c13
 clear c13
 obtain rfl:=Option.some.inj H
 go_enter Try.func78,Try.ntmps78
 have go_:=trivial;repeat((first|clear go_|go_quiet (first|(go_at_call 44;(try simp only[Go.IntWalk.i64_left]);(with_reducible refine(spec_l1Least.calls (wrap64 (a1_0+a3)) (wrap64 (a2+a1_1)) t144 _ A5.out).mono ?_);rintro e w' ⟨rfl,⟨nd,rfl⟩⟩;(try first|exact⟨rfl,_,World.drewN_drewN _ _ _⟩|exact⟨rfl,_,Eq.trans (World.drewN_drewN _ _ _) (congrArg (World.drewN _) (Nat.add_assoc _ _ _))⟩);have hcz23_0:=bc BK142 0 rfl)|(go_at_call 44;(try simp only[Go.IntWalk.i64_left]);(with_reducible refine(spec_l1Least.calls t144 (wrap64 (a0_0-1)) t145 _ A6.out).mono ?_);rintro e w' ⟨rfl,⟨nd,rfl⟩⟩;(try first|exact⟨rfl,_,World.drewN_drewN _ _ _⟩|exact⟨rfl,_,Eq.trans (World.drewN_drewN _ _ _) (congrArg (World.drewN _) (Nat.add_assoc _ _ _))⟩))));try go_wp2_with (first|(refine bx 4 #[.int .i64 a0_0,.bool a0_1] 27 ?_;intro gb142 hg w19 hbox hb;have BK142:=ak hbox;have GE142:=gw HB hg;replace HB:=bs HB hb;clear hb hbox hg)|(refine bx 5 #[.int .i64 a1_0,.int .i64 a1_1] 58 ?_;intro gb143 hg w20 hbox hb;have BK143:=ak hbox;have GE143:=ak ((by rw[hg];exact(below_size (h1 HB.out GE142.out)):w.heap.size≤gb143));replace HB:=ak (below_step (h1 HB.out GE142.out) hb);have NB142_143:=nl BK142 hg;have NB143_142:=ng BK142 hg;replace BK142:=kb BK142 hb;clear hb hbox hg;have hcz22_0:=bc BK143 0 rfl;have hcz22_1:=bc BK143 1 rfl)|(go_at_call 44;(try simp only[Go.IntWalk.i64_left]);(with_reducible refine(spec_l1Least.calls (wrap64 (a1_0+a3)) (wrap64 (a2+a1_1)) t144 _ A5.out).mono ?_);rintro e w' ⟨rfl,⟨nd,rfl⟩⟩;(try first|exact⟨rfl,_,World.drewN_drewN _ _ _⟩|exact⟨rfl,_,Eq.trans (World.drewN_drewN _ _ _) (congrArg (World.drewN _) (Nat.add_assoc _ _ _))⟩);have hcz23_0:=bc BK142 0 rfl;have hcz23_1:=bc BK142 1 rfl;have hfz23_0:=bf BK142 0;have hfz23_1:=bf BK142 1)|(go_at_call 44;(try simp only[Go.IntWalk.i64_left]);(with_reducible refine(spec_l1Least.calls t144 (wrap64 (a0_0-1)) t145 _ A6.out).mono ?_);rintro e w' ⟨rfl,⟨nd,rfl⟩⟩;(try first|exact⟨rfl,_,World.drewN_drewN _ _ _⟩|exact⟨rfl,_,Eq.trans (World.drewN_drewN _ _ _) (congrArg (World.drewN _) (Nat.add_assoc _ _ _))⟩))))
 go_ret
 exact⟨fe,h2 HB.out GE142.out GE143.out⟩
end
section
open Kd
mutual
def spec_l9Can.l0:Nat→List (S58)→Int→List Int→Int→Int→Bool→Option (Bool)
 | 0,_,_,_,_,_,_=>none
 | k+1,x1,x2,x7,x8,x147000,x147001=>if x8<(shl .i64 1 (x1.length:Int))then(spec_l9Can.l1 k x1 x2 x7 x8 0 0 x147000 x147001)else(if 0≤(wrap64 ((x7.length:Int)-1))then(if(wrap64 ((x7.length:Int)-1))<(x7.length:Int)then(some (decide ((rd x7 (wrap64 ((x7.length:Int)-1)))≥x147000)))else(none))else(none))
def spec_l9Can.l1:Nat→List (S58)→Int→List Int→Int→Int→Int→Int→Bool→Option (Bool)
 | 0,_,_,_,_,_,_,_,_=>none
 | k+1,x1,x2,x7,x8,x9,x10,x147000,x147001=>if x10<(x1.length:Int)then(if 0≤x10 then(if(Go.bits .and .i64 (shr .i64 x8 x10) 1)=1 then(if 0≤(wrap64 (x8-(shl .i64 1 x10)))then(if(wrap64 (x8-(shl .i64 1 x10)))<(x7.length:Int)then((spec_l1Most.f x9 (rd x7 (wrap64 (x8-(shl .i64 1 x10))))).bind fun t155=>((spec_l9Place.f x147000 x147001 ((rd_T58 x1 x10).f0) ((rd_T58 x1 x10).f1) (rd x7 (wrap64 (x8-(shl .i64 1 x10)))) x2).bind fun t157=>(if(rd x7 (wrap64 (x8-(shl .i64 1 x10))))<x147000 then(if t157≥0 then((spec_l1Most.f t155 (wrap64 ((wrap64 (t157+((rd_T58 x1 x10).f1)))+1))).bind fun t159=>(spec_l9Can.l1 k x1 x2 x7 x8 t159 (wrap64 (x10+1)) x147000 x147001))else(spec_l9Can.l1 k x1 x2 x7 x8 t155 (wrap64 (x10+1)) x147000 x147001))else(spec_l9Can.l1 k x1 x2 x7 x8 t155 (wrap64 (x10+1)) x147000 x147001))))else(none))else(none))else(spec_l9Can.l1 k x1 x2 x7 x8 x9 (wrap64 (x10+1)) x147000 x147001))else(none))else(if x7.length<17592186044416 then(spec_l9Can.l0 k x1 x2 (x7++[x9]) (wrap64 (x8+1)) x147000 x147001)else(none))
end
def spec_l9Can.f (k:Nat) (a0_0:Int) (a0_1:Bool) (l1:List (S58)) (a2:Int):Option (Bool):=spec_l9Can.l0 k l1 a2 (([]:List Int)) 0 a0_0 a0_1
theorem spec_l9Can.mono_l:∀ k,(∀ y0 y1 y2 y3 y4 y5,LeO (spec_l9Can.l0 k y0 y1 y2 y3 y4 y5) (spec_l9Can.l0 (k+1) y0 y1 y2 y3 y4 y5))∧(∀ y0 y1 y2 y3 y4 y5 y6 y7,LeO (spec_l9Can.l1 k y0 y1 y2 y3 y4 y5 y6 y7) (spec_l9Can.l1 (k+1) y0 y1 y2 y3 y4 y5 y6 y7))
 | 0=>by
  refine⟨?_,?_⟩<;>(intros;intro r h;simp[spec_l9Can.l0,spec_l9Can.l1]at h)
 | k+1=>by
  obtain⟨ih0,ih1⟩:=spec_l9Can.mono_l k
  refine⟨?_,?_⟩<;>intros<;>(first|unfold spec_l9Can.l0|unfold spec_l9Can.l1)<;>(repeat' (with_reducible first|exact ih0 ..|exact ih1 ..|exact LeO.refl _|exact LeO.none _|refine LeO.ite ?_ ?_|refine LeO.bind ?_ (fun _=>?_)))
theorem spec_l9Can.mono:∀ a0 a1 a2 a3 k,LeO (spec_l9Can.f k a0 a1 a2 a3) (spec_l9Can.f (k+1) a0 a1 a2 a3):=by
 intro a0 a1 a2 a3 k
 obtain⟨ih0,ih1⟩:=spec_l9Can.mono_l k
 unfold spec_l9Can.f
 repeat' (with_reducible first|exact ih0 ..|exact ih1 ..|exact LeO.refl _|exact LeO.none _|refine LeO.ite ?_ ?_|refine LeO.bind ?_ (fun _=>?_))
def spec_l9Can.T12:Bool × List (List Nat × List Nat):=(true,[([],[]),([],[]),([],[]),([1,2],[1,2]),([3],[3]),([],[]),([],[]),([0,4,5,6],[0,4,5,6]),([7,7,0,1,2,3,4,5,6,7],[7])])
def spec_l9Can.B12:List Nat:=[0,0,0,6,14,0,0,127,255]
theorem spec_l9Can.tab12:rtab .any (opsOf Try.f48 12)=spec_l9Can.T12:=by kernel_rfl
theorem spec_l9Can.bits12:waitsOk spec_l9Can.T12.2 spec_l9Can.B12=true:=by kernel_rfl
def spec_l9Can.T16:Bool × List (List Nat × List Nat):=(true,[([],[]),([],[]),([1],[1]),([2],[2]),([0,3],[0,3]),([4],[4]),([],[]),([6],[6]),([5,7],[5,7]),([8,0,1,2,3,4,5,6,7,8],[8])])
def spec_l9Can.B16:List Nat:=[0,0,2,6,15,31,0,64,255,511]
theorem spec_l9Can.tab16:rtab .any (opsOf Try.f48 16)=spec_l9Can.T16:=by kernel_rfl
theorem spec_l9Can.bits16:waitsOk spec_l9Can.T16.2 spec_l9Can.B16=true:=by kernel_rfl
set_option maxHeartbeats 8000000 in
set_option maxRecDepth 100000 in
theorem spec_l9Can.calls (k:Nat) (a0_0:Int) (a0_1:Bool) (A1:Option Addr) (c1:Nat) (l1:List (S58)) (a2:Int) (r:Bool) (w:World) (hr1:Kd.C k58 w A1 l1.length l1) (hc1:l1.length≤c1) (h:spec_l9Can.f k a0_0 a0_1 l1 a2=some r):
  Calls Try.prog 48 #[.agg #[.int .i64 a0_0,.bool a0_1],.slice A1 l1.length c1,.int .i64 a2] w fun e w'=>e= .returned (.bool r)∧Below w.heap.size w w':=by
 have HR1:=Aside0.mk hr1
 clear hr1 hc1
 have HB:=Aside0.mk (Below.refl w.heap.size w)
 unfold spec_l9Can.f at h
 have H:=h
 clear h
 generalize hy147: ([]:List Int)=y147 at H
 have Ny147:=ak hy147.symm
 clear hy147
 have H':=Aside0.mk H
 clear H
 go_enter Try.func48,Try.ntmps48
 go_wp2_with (first|(refine bx 3 #[.int .i64 a0_0,.bool a0_1] 27 ?_;intro gb146 hg w4 hbox hb;have BK146:=ak hbox;have GE146:=gw HB hg;replace HB:=bs HB hb;clear hb hbox hg)|((with_reducible refine gate_dst (N:=13) rfl ?_);refine R_lit (Kd.int .i64) _ 3 ?hg (N:=13) ?hd (xs:=([]:List Int)) (inner:=[]) (ok:=fun _=>True) (okp:=fun _=>True) ?hr ?hp (fun _ hk=>hk) trivial (Below.refl _ _) (Nat.le_refl _) (by simp) ?_;(case hd=>rfl);(case hg=>rfl);(case hr=>first|(go_simp;done)|(go_simp;rfl));(case hp=>exact(Reps.none _ _));intro v148 w5 ho6 hb hg_ hnew_;clear hg_ hnew_;(first|rw[←Ny147.out]at ho6|(simp only[Int.reduceToNat]at ho6;rw[←Ny147.out]at ho6));have HO149:=ak (R_lower ho6 (below_size (h1 HB.out GE146.out)));replace BK146:=kb BK146 hb;replace HB:=ak (below_step (h1 HB.out GE146.out) hb);clear hb ho6))
 go_loopg [7,8] k (fun kq v7 v8 w'=>∃ (x7_1:List Int) (x8_1:Int),v8= .int .i64 x8_1∧Aside0 (spec_l9Can.l0 kq l1 a2 x7_1 x8_1 a0_0 a0_1=some r)∧Aside0 (kq≤k)∧Aside0 (Kd.R (Kd.int .i64) 3 w' w.heap.size (fun _=>True) v7 x7_1)∧Aside0 (w'.heap[gb146]? =some (.cells #[.int .i64 a0_0,.bool a0_1] 27 (0,0)))∧Aside0 (Below w.heap.size w w'))
 case atStart=>exact⟨(y147),(0),fd,H',⟨Nat.le_refl _⟩,⟨rm HO149.out⟩,⟨bm BK146.out⟩,⟨h1 HB.out GE146.out⟩⟩
 clear H'
 obtain⟨x7_1,x8_1,rfl,HA,HK1,HO_7,BK146,HB⟩:=hrel
 obtain _|k1:=gk;·cases HA.out
 obtain⟨H⟩:=HA
 simp only[spec_l9Can.l0]at H
 generalize hji7: (shl .i64 1 (l1.length:Int))=ji7 at H
 have hji7_: (IntKind.i64.wrap (1*2^min (l1.length:Int).toNat 64))=ji7:=hji7
 have hji7z: (l1.length:Int)≤64→(IntKind.i64.wrap (1*2^ (l1.length:Int).toNat))=ji7:=shl_small hji7
 have hji7p: (IntKind.i64.wrap (1*2^min l1.length 64))=ji7:=hji7_
 have hji7q: (l1.length:Int)≤64→(IntKind.i64.wrap (1*2^l1.length))=ji7:=hji7z
 have hji7r: (IntKind.i64.wrap (2^min l1.length 64))=ji7:=by have h_:=hji7p;rw[Int.one_mul]at h_;exact h_
 have hji7s: (l1.length:Int)≤64→(IntKind.i64.wrap (2^l1.length))=ji7:=fun hle_=>by have h_:=hji7q hle_;rw[Int.one_mul]at h_;exact h_
 have hji7u: (IntKind.i64.wrap (2^min (l1.length:Int).toNat 64))=ji7:=by have h_:=hji7_;rw[Int.one_mul]at h_;exact h_
 have hji7v: (l1.length:Int)≤64→(IntKind.i64.wrap (2^ (l1.length:Int).toNat))=ji7:=fun hle_=>by have h_:=hji7z hle_;rw[Int.one_mul]at h_;exact h_
 have hji7y: (wrap64 (1*2^min (l1.length:Int).toNat 64))=ji7:=(i64_w _).symm.trans hji7_
 have hji7x: (l1.length:Int)≤64→(wrap64 (1*2^ (l1.length:Int).toNat))=ji7:=fun h_=>(i64_w _).symm.trans (hji7z h_)
 by_cases c8:x8_1<(ji7)
 rotate_left
 ·rw[if_neg c8]at H
  have c8b0:decide (x8_1<(ji7))=false:=decide_eq_false c8
  clear c8
  generalize hji37: (wrap64 ((x7_1.length:Int)-1))=ji37 at H
  have hji37w: (IntKind.i64.wrap ((x7_1.length:Int)-1))=ji37:=(i64_w _).trans hji37
  obtain⟨c38,H⟩:=gi H
  have c38b0:decide (0≤(ji37))=true:=decide_eq_true c38
  clear c38
  obtain⟨c39,H⟩:=gi H
  have c39b0:decide ((ji37)<(x7_1.length:Int))=true:=decide_eq_true c39
  clear c39
  obtain rfl:=Option.some.inj H
  try go_wp2
  replace HO_7:=ak (R_drew HO_7.out)
  replace BK146:=ak (blk_drew BK146.out)
  replace HB:=ak (below_drew1 HB.out)
  obtain⟨Ao41,co41,eo41⟩:=R_slice HO_7.out
  (first|subst eo41|(injection eo41 with f1_ f2_ f3_;have f4_:=f1_.symm;have f5_:=f3_.symm;clear f1_ f2_ f3_;subst f4_;subst f5_))
  have p150:0≤((ji37):Int):=od
  have q150: (ji37)<(x7_1.length:Int):=od
  obtain⟨ad150,e150,hx150_0⟩:=Kd.at_int (R_reads' HO_7.out).2.2 (ji37) p150 q150
  cases e150
  replace p150:=eq_true p150
  replace q150:=eq_true q150
  refine start_ (n:=10) (S:=fun w'=>w'.cell? ⟨gb146,0,none⟩=some (.int .i64 a0_0)∧w'.cell? ⟨gb146,1,none⟩=some (.bool a0_1)∧w'.cell? (ad150.add ((ji37)).toNat)=some (.int .i64 (rd x7_1 (ji37)))) (ds:=[]) (lb 10 0) (by kernel_rfl) rfl rfl ⟨bc BK146 0 rfl,bc BK146 1 rfl,hx150_0⟩ (fun hHeld=>?_);refine with_tabW spec_l9Can.tab16 spec_l9Can.bits16 (fun HT_ HW_=>?_)
  generalize wr.drew=w40 at HO_7 BK146 HB hx150_0 hHeld⊢
  refine pq 0 (N:=some 72) (lb 10 1) HT_ ?_
  refine pq 1 (N:=some 73) (lb 10 3) HT_ ?_
  refine pq 2 (N:=some 74) (lb 10 7) HT_ ?_
  refine pq 3 (N:=some 75) (lb 10 15) HT_ ?_
  refine pq 4 (N:=some 76) (lb 10 31) HT_ ?_
  refine pq 6 (N:=some 78) (lb 10 95) HT_ ?_
  refine tq 5 (N:=some 77) (lb 10 127) HT_ HW_ hHeld ?_
  refine tq 7 (N:=some 79) (lb 10 255) HT_ HW_ hHeld ?_
  refine pq 8 (N:=some 80) (lb 10 511) HT_ ?_
  refine pq 9 (N:=some 6) (lb 10 1023) HT_ ?_
  refine done_ (done_of HT_.out (by kernel_rfl)) ?_
  try go_wp2
  go_ret
  exact⟨by first|rfl|(simp[errW_none,errW_some]<;>rfl)|(simp only[←hji7,←hji37];first|rfl|(simp[errW_none,errW_some]<;>rfl))|(simp[*,errW_none,errW_some]<;>rfl),h1 HB.out GE146.out⟩
 rw[if_pos c8]at H
 have c8b0:decide (x8_1<(ji7))=true:=decide_eq_true c8
 clear c8
 have H':=Aside0.mk H
 clear H
 go_wp2
 go_loopg [9,10] k1 (fun kq v9 v10 w'=>∃ (x9_2:Int) (x10_2:Int),v9= .int .i64 x9_2∧v10= .int .i64 x10_2∧Aside0 (spec_l9Can.l1 kq l1 a2 x7_1 x8_1 x9_2 x10_2 a0_0 a0_1=some r)∧Aside0 (kq≤k1)∧Aside0 (Kd.R (Kd.int .i64) 3 w' w.heap.size (fun _=>True) u7 x7_1)∧Aside0 (w'.heap[gb146]? =some (.cells #[.int .i64 a0_0,.bool a0_1] 27 (0,0)))∧Aside0 (Below w.heap.size w w'))
 case atStart=>exact⟨(0),(0),fd,fd,H',⟨Nat.le_refl _⟩,⟨rm HO_7.out⟩,⟨bm BK146.out⟩,⟨h1 HB.out GE146.out⟩⟩
 clear H'
 obtain⟨x9_2,x10_2,rfl,rfl,HA,HK2,HO_7,BK146,HB⟩:=hrel
 obtain _|k2:=gk;·cases HA.out
 obtain⟨H⟩:=HA
 simp only[spec_l9Can.l1]at H
 by_cases c9:x10_2<(l1.length:Int)
 rotate_left
 ·rw[if_neg c9]at H
  have c9b0:decide (x10_2<(l1.length:Int))=false:=decide_eq_false c9
  clear c9
  obtain⟨c35,H⟩:=gi H
  have LMc35:=Aside0.mk c35
  clear c35
  generalize hy151: (x7_1++[x9_2]:List Int)=y151 at H
  have Ny151:=ak hy151.symm
  clear hy151
  have H':=Aside0.mk H
  clear H
  go_wp2_with (first|((with_reducible refine gate_builtin (b:=.append) (xs:=#[.tmp 68,.tmp 70]) rfl ?_);at_builtin;refine R_append (Kd.int .i64) (w0:=w) w.heap.size rfl (.tmp 68) (.tmp 70) 24 3 (.int .i64 0) 8 rfl Try.underlying24 info3 rfl (by decide) (by omega) u7 x7_1 x9_2 [.int .i64 x9_2] (fun _=>True) (fun _=>False) rfl rfl ?aP (fun _ hk=>hk.elim) ?aF ?aO ?aB ?aS ?aL ?_;(case aP=>exact rfl);(case aB=>exact(h1 HB.out GE146.out));(case aF=>exact(fun _ _=>trivial));(case aO=>exact(rm HO_7.out));(case aS=>exact(below_size (h1 HB.out GE146.out)));(case aL=>have:=LMc35.out;omega);intro v152 w36 ho hb hg hat;rw[←Ny151.out]at ho;replace BK146:=ak (blk_grown (g:=gb146) (o:=.cells #[.int .i64 a0_0,.bool a0_1] 27 (0,0)) (bm BK146.out) hg (R_ne HO_7.out BK146.out (by decide)));replace HB:=ak hb;have HO153:=ak ho;clear HO_7;clear ho hb hg hat))
  go_roundg k2
  case measure=>have:=HK1.out;have:=HK2.out;omega
  case rel=>exact⟨(y151),(wrap64 (x8_1+1)),fd,H',⟨by have:=HK1.out;have:=HK2.out;omega⟩,⟨rm HO153.out⟩,⟨bm BK146.out⟩,⟨h1 HB.out GE146.out⟩⟩
 rw[if_pos c9]at H
 have c9b0:decide (x10_2<(l1.length:Int))=true:=decide_eq_true c9
 clear c9
 obtain⟨c10,H⟩:=gi H
 have c10b0:=eq_true c10
 have c10b1:decide (0≤x10_2)=true:=decide_eq_true c10
 clear c10
 generalize hji11: (shr .i64 x8_1 x10_2)=ji11 at H
 have hji11_: (x8_1/ 2^min x10_2.toNat 64)=ji11:=hji11
 have hji11z:x10_2≤64→(x8_1/ 2^x10_2.toNat)=ji11:=shr_small hji11
 by_cases c12: (Go.bits .and .i64 (ji11) 1)=1
 rotate_left
 ·rw[if_neg c12]at H
  have c12b0: ((Go.bits .and .i64 (ji11) 1)==1)=false:=beq_eq_false_iff_ne.mpr c12
  have H':=Aside0.mk H
  clear H
  go_wp2
  go_roundg k2
  case measure=>have:=HK1.out;have:=HK2.out;omega
  case rel=>exact⟨(x9_2),(wrap64 (x10_2+1)),fd,fd,H',⟨by have:=HK1.out;have:=HK2.out;omega⟩,⟨rm HO_7.out⟩,⟨bm BK146.out⟩,⟨h1 HB.out GE146.out⟩⟩
 rw[if_pos c12]at H
 have c12b0: ((Go.bits .and .i64 (ji11) 1)==1)=true:=beq_iff_eq.mpr c12
 clear c12
 generalize hji14: (shl .i64 1 x10_2)=ji14 at H
 have hji14_: (IntKind.i64.wrap (1*2^min x10_2.toNat 64))=ji14:=hji14
 have hji14z:x10_2≤64→(IntKind.i64.wrap (1*2^x10_2.toNat))=ji14:=shl_small hji14
 have hji14u: (IntKind.i64.wrap (2^min x10_2.toNat 64))=ji14:=by have h_:=hji14_;rw[Int.one_mul]at h_;exact h_
 generalize hji15: (wrap64 (x8_1-(ji14)))=ji15 at H
 have hji15w: (IntKind.i64.wrap (x8_1-(ji14)))=ji15:=(i64_w _).trans hji15
 obtain⟨c16,H⟩:=gi H
 have c16b0:decide (0≤(ji15))=true:=decide_eq_true c16
 clear c16
 obtain⟨c17,H⟩:=gi H
 have c17b0:decide ((ji15)<(x7_1.length:Int))=true:=decide_eq_true c17
 clear c17
 obtain⟨t155,A18,H⟩:=bd H;(try dsimp only at H)
 obtain⟨t157,A19,H⟩:=bd H;(try dsimp only at H)
 by_cases c20: (rd x7_1 (ji15))<a0_0
 rotate_left
 ·rw[if_neg c20]at H
  have c20b0:decide ((rd x7_1 (ji15))<a0_0)=false:=decide_eq_false c20
  clear c20
  have H':=Aside0.mk H
  clear H
  obtain⟨Ao31,co31,eo31⟩:=R_slice HO_7.out
  subst eo31
  have p154:0≤((ji15):Int):=od
  have q154: (ji15)<(x7_1.length:Int):=od
  obtain⟨ad154,e154,hx154_0⟩:=Kd.at_int (R_reads' HO_7.out).2.2 (ji15) p154 q154
  cases e154
  replace p154:=eq_true p154
  replace q154:=eq_true q154
  try go_wp2_with (first|((with_reducible refine gate_callee (f:=43) rfl ?_);refine goesL_ (some 41) rfl rfl Try.func43 (by kernel_rfl) rfl #[.int .i64 x9_2,.int .i64 (rd x7_1 (ji15))] rfl (by(try simp only[List.map_toArray,List.map_cons,List.map_nil]);first|done|(simp only[hji15];rfl)|rfl|(simp only[List.length_drop,List.length_take];rfl)) ?_;(with_reducible refine(spec_l1Most.calls x9_2 (rd x7_1 (ji15)) t155 _ A18.out).mono ?_);rintro e w' ⟨rfl,⟨nd,rfl⟩⟩;refine⟨_,rfl,?_⟩))
  (try(rw[drewN_self wr];generalize hq_:World.drewN wr _=wr;have n0_:Aside0 (Kd.R (Kd.int .i64) 3 wr w.heap.size (fun _=>True) (.slice (some ad154) x7_1.length co31) x7_1):=⟨by rw[←hq_];exact(rm HO_7.out)⟩;have n1_:Aside0 (wr.heap[gb146]? =some (.cells #[.int .i64 a0_0,.bool a0_1] 27 (0,0))):=⟨by rw[←hq_];exact(bm BK146.out)⟩;have n2_:Aside0 (Below w.heap.size w wr):=⟨by rw[←hq_];exact(h1 HB.out GE146.out)⟩;clear HO_7 BK146 HB hq_;have HO_7:=n0_;have BK146:=n1_;have HB:=n2_;clear n0_ n1_ n2_))
  replace HO_7:=ak (R_drew HO_7.out)
  replace BK146:=ak (blk_drew BK146.out)
  replace HB:=ak (below_drew1 HB.out)
  have p156:0≤(x10_2:Int):=od
  have q156:x10_2<(l1.length:Int):=od
  obtain⟨ad156,e156,hx156_0,hx156_1⟩:=at_T58 HR1.out x10_2 p156 q156
  have hw156_1:=hx156_1
  have hw156_0:=hx156_0
  cases e156
  replace hx156_0:=hc HB hx156_0
  replace hx156_1:=hc HB hx156_1
  replace p156:=eq_true p156
  replace q156:=eq_true q156
  refine start_ (n:=9) (S:=fun w'=>w'.cell? ⟨gb146,0,none⟩=some (.int .i64 a0_0)∧w'.cell? ⟨gb146,1,none⟩=some (.bool a0_1)∧w'.cell? (ad156.add ((x10_2).toNat*2))=some (.int .i64 ((rd_T58 l1 x10_2).f0))∧w'.cell? ⟨(ad156.add ((x10_2).toNat*2)).block,(ad156.add ((x10_2).toNat*2)).off+1,none⟩=some (.int .i64 ((rd_T58 l1 x10_2).f1))) (ds:=[]) (lb 9 0) (by kernel_rfl) rfl rfl ⟨bc BK146 0 rfl,bc BK146 1 rfl,((HB.out.cell (World.block_lt_of_cell? w _ hw156_0)).trans hw156_0),((HB.out.cell (World.block_lt_of_cell? w _ hw156_1)).trans hw156_1)⟩ (fun hHeld=>?_);refine with_tabW spec_l9Can.tab12 spec_l9Can.bits12 (fun HT_ HW_=>?_)
  generalize wr.drew=w32 at HO_7 BK146 HB hx156_0 hx156_1 hHeld⊢
  refine pq 1 (N:=some 43) (lb 9 2) HT_ ?_
  refine pq 2 (N:=some 44) (lb 9 6) HT_ ?_
  refine pq 3 (N:=some 45) (lb 9 14) HT_ ?_
  refine pq 5 (N:=some 47) (lb 9 46) HT_ ?_
  refine pq 6 (N:=some 48) (lb 9 110) HT_ ?_
  refine tq 0 (N:=some 42) (lb 9 111) HT_ HW_ hHeld ?_
  refine tq 4 (N:=some 46) (lb 9 127) HT_ HW_ hHeld ?_
  refine one_ (i:=7) (N:=some 49) (lb 9 255) rfl rfl (one_of HT_.out (by kernel_rfl)) (by decide) (fun K hK=>?_)
  refine goes_ Try.func78 (by kernel_rfl) rfl #[.agg #[.int .i64 a0_0,.bool a0_1],.agg #[.int .i64 ((rd_T58 l1 x10_2).f0),.int .i64 ((rd_T58 l1 x10_2).f1)],.int .i64 (rd x7_1 (ji15)),.int .i64 a2] (by rfl) rfl rfl (by(try simp only[List.map_toArray,List.map_cons,List.map_nil]);first|done|(simp only[hji15];rfl)|rfl|(simp only[List.length_drop,List.length_take];rfl)) ?_
  with_reducible refine(spec_l9Place.calls a0_0 a0_1 ((rd_T58 l1 x10_2).f0) ((rd_T58 l1 x10_2).f1) (rd x7_1 (ji15)) a2 t157 _ A19.out).mono ?_
  rintro e w33 ⟨rfl,hb⟩
  refine⟨_,rfl,?_⟩
  replace HO_7:=rb HO_7 hb
  replace BK146:=kb BK146 hb
  replace HB:=ak (below_step (h1 HB.out GE146.out) hb)
  (try clear hb)
  (try clear hb2)
  (try clear hk)
  (try clear hi)
  refine hK.out _ _ ⟨bc BK146 0 rfl,bc BK146 1 rfl,((HB.out.cell (World.block_lt_of_cell? w _ hw156_0)).trans hw156_0),((HB.out.cell (World.block_lt_of_cell? w _ hw156_1)).trans hw156_1)⟩ (fun hHeld=>?_)
  clear hK K
  refine norm_ (a':=?_) ?_ ?_
  rotate_left
  ·show Act.put _ (some 49) _=_
   simp only[ap]
   rfl
  refine pq 8 (N:=some 12) (lb 9 511) HT_ ?_
  refine done_ (done_of HT_.out (by kernel_rfl)) ?_
  try go_wp2
  go_roundg k2
  case measure=>have:=HK1.out;have:=HK2.out;omega
  case rel=>exact⟨(t155),(wrap64 (x10_2+1)),fd,fd,H',⟨by have:=HK1.out;have:=HK2.out;omega⟩,⟨rm HO_7.out⟩,⟨bm BK146.out⟩,⟨h1 HB.out GE146.out⟩⟩
 rw[if_pos c20]at H
 have c20b0:decide ((rd x7_1 (ji15))<a0_0)=true:=decide_eq_true c20
 clear c20
 by_cases c21:t157≥0
 rotate_left
 ·rw[if_neg c21]at H
  have c21b0:decide (0≤t157)=false:=decide_eq_false c21
  clear c21
  have H':=Aside0.mk H
  clear H
  obtain⟨Ao27,co27,eo27⟩:=R_slice HO_7.out
  subst eo27
  have p154:0≤((ji15):Int):=od
  have q154: (ji15)<(x7_1.length:Int):=od
  obtain⟨ad154,e154,hx154_0⟩:=Kd.at_int (R_reads' HO_7.out).2.2 (ji15) p154 q154
  cases e154
  replace p154:=eq_true p154
  replace q154:=eq_true q154
  try go_wp2_with (first|((with_reducible refine gate_callee (f:=43) rfl ?_);refine goesL_ (some 41) rfl rfl Try.func43 (by kernel_rfl) rfl #[.int .i64 x9_2,.int .i64 (rd x7_1 (ji15))] rfl (by(try simp only[List.map_toArray,List.map_cons,List.map_nil]);first|done|(simp only[hji15];rfl)|rfl|(simp only[List.length_drop,List.length_take];rfl)) ?_;(with_reducible refine(spec_l1Most.calls x9_2 (rd x7_1 (ji15)) t155 _ A18.out).mono ?_);rintro e w' ⟨rfl,⟨nd,rfl⟩⟩;refine⟨_,rfl,?_⟩))
  (try(rw[drewN_self wr];generalize hq_:World.drewN wr _=wr;have n0_:Aside0 (Kd.R (Kd.int .i64) 3 wr w.heap.size (fun _=>True) (.slice (some ad154) x7_1.length co27) x7_1):=⟨by rw[←hq_];exact(rm HO_7.out)⟩;have n1_:Aside0 (wr.heap[gb146]? =some (.cells #[.int .i64 a0_0,.bool a0_1] 27 (0,0))):=⟨by rw[←hq_];exact(bm BK146.out)⟩;have n2_:Aside0 (Below w.heap.size w wr):=⟨by rw[←hq_];exact(h1 HB.out GE146.out)⟩;clear HO_7 BK146 HB hq_;have HO_7:=n0_;have BK146:=n1_;have HB:=n2_;clear n0_ n1_ n2_))
  replace HO_7:=ak (R_drew HO_7.out)
  replace BK146:=ak (blk_drew BK146.out)
  replace HB:=ak (below_drew1 HB.out)
  have p156:0≤(x10_2:Int):=od
  have q156:x10_2<(l1.length:Int):=od
  obtain⟨ad156,e156,hx156_0,hx156_1⟩:=at_T58 HR1.out x10_2 p156 q156
  have hw156_1:=hx156_1
  have hw156_0:=hx156_0
  cases e156
  replace hx156_0:=hc HB hx156_0
  replace hx156_1:=hc HB hx156_1
  replace p156:=eq_true p156
  replace q156:=eq_true q156
  refine start_ (n:=9) (S:=fun w'=>w'.cell? ⟨gb146,0,none⟩=some (.int .i64 a0_0)∧w'.cell? ⟨gb146,1,none⟩=some (.bool a0_1)∧w'.cell? (ad156.add ((x10_2).toNat*2))=some (.int .i64 ((rd_T58 l1 x10_2).f0))∧w'.cell? ⟨(ad156.add ((x10_2).toNat*2)).block,(ad156.add ((x10_2).toNat*2)).off+1,none⟩=some (.int .i64 ((rd_T58 l1 x10_2).f1))) (ds:=[]) (lb 9 0) (by kernel_rfl) rfl rfl ⟨bc BK146 0 rfl,bc BK146 1 rfl,((HB.out.cell (World.block_lt_of_cell? w _ hw156_0)).trans hw156_0),((HB.out.cell (World.block_lt_of_cell? w _ hw156_1)).trans hw156_1)⟩ (fun hHeld=>?_);refine with_tabW spec_l9Can.tab12 spec_l9Can.bits12 (fun HT_ HW_=>?_)
  generalize wr.drew=w28 at HO_7 BK146 HB hx156_0 hx156_1 hHeld⊢
  refine pq 1 (N:=some 43) (lb 9 2) HT_ ?_
  refine pq 2 (N:=some 44) (lb 9 6) HT_ ?_
  refine pq 3 (N:=some 45) (lb 9 14) HT_ ?_
  refine pq 5 (N:=some 47) (lb 9 46) HT_ ?_
  refine pq 6 (N:=some 48) (lb 9 110) HT_ ?_
  refine tq 0 (N:=some 42) (lb 9 111) HT_ HW_ hHeld ?_
  refine tq 4 (N:=some 46) (lb 9 127) HT_ HW_ hHeld ?_
  refine one_ (i:=7) (N:=some 49) (lb 9 255) rfl rfl (one_of HT_.out (by kernel_rfl)) (by decide) (fun K hK=>?_)
  refine goes_ Try.func78 (by kernel_rfl) rfl #[.agg #[.int .i64 a0_0,.bool a0_1],.agg #[.int .i64 ((rd_T58 l1 x10_2).f0),.int .i64 ((rd_T58 l1 x10_2).f1)],.int .i64 (rd x7_1 (ji15)),.int .i64 a2] (by rfl) rfl rfl (by(try simp only[List.map_toArray,List.map_cons,List.map_nil]);first|done|(simp only[hji15];rfl)|rfl|(simp only[List.length_drop,List.length_take];rfl)) ?_
  with_reducible refine(spec_l9Place.calls a0_0 a0_1 ((rd_T58 l1 x10_2).f0) ((rd_T58 l1 x10_2).f1) (rd x7_1 (ji15)) a2 t157 _ A19.out).mono ?_
  rintro e w29 ⟨rfl,hb⟩
  refine⟨_,rfl,?_⟩
  replace HO_7:=rb HO_7 hb
  replace BK146:=kb BK146 hb
  replace HB:=ak (below_step (h1 HB.out GE146.out) hb)
  (try clear hb)
  (try clear hb2)
  (try clear hk)
  (try clear hi)
  refine hK.out _ _ ⟨bc BK146 0 rfl,bc BK146 1 rfl,((HB.out.cell (World.block_lt_of_cell? w _ hw156_0)).trans hw156_0),((HB.out.cell (World.block_lt_of_cell? w _ hw156_1)).trans hw156_1)⟩ (fun hHeld=>?_)
  clear hK K
  refine norm_ (a':=?_) ?_ ?_
  rotate_left
  ·show Act.put _ (some 49) _=_
   simp only[ap]
   rfl
  refine pq 8 (N:=some 12) (lb 9 511) HT_ ?_
  refine done_ (done_of HT_.out (by kernel_rfl)) ?_
  try go_wp2
  go_roundg k2
  case measure=>have:=HK1.out;have:=HK2.out;omega
  case rel=>exact⟨(t155),(wrap64 (x10_2+1)),fd,fd,H',⟨by have:=HK1.out;have:=HK2.out;omega⟩,⟨rm HO_7.out⟩,⟨bm BK146.out⟩,⟨h1 HB.out GE146.out⟩⟩
 rw[if_pos c21]at H
 have c21b0:decide (0≤t157)=true:=decide_eq_true c21
 clear c21
 obtain⟨t159,A22,H⟩:=bd H;(try dsimp only at H)
 have H':=Aside0.mk H
 clear H
 obtain⟨Ao23,co23,eo23⟩:=R_slice HO_7.out
 subst eo23
 have p154:0≤((ji15):Int):=od
 have q154: (ji15)<(x7_1.length:Int):=od
 obtain⟨ad154,e154,hx154_0⟩:=Kd.at_int (R_reads' HO_7.out).2.2 (ji15) p154 q154
 cases e154
 replace p154:=eq_true p154
 replace q154:=eq_true q154
 try go_wp2_with (first|((with_reducible refine gate_callee (f:=43) rfl ?_);refine goesL_ (some 41) rfl rfl Try.func43 (by kernel_rfl) rfl #[.int .i64 x9_2,.int .i64 (rd x7_1 (ji15))] rfl (by(try simp only[List.map_toArray,List.map_cons,List.map_nil]);first|done|(simp only[hji15];rfl)|rfl|(simp only[List.length_drop,List.length_take];rfl)) ?_;(with_reducible refine(spec_l1Most.calls x9_2 (rd x7_1 (ji15)) t155 _ A18.out).mono ?_);rintro e w' ⟨rfl,⟨nd,rfl⟩⟩;refine⟨_,rfl,?_⟩))
 (try(rw[drewN_self wr];generalize hq_:World.drewN wr _=wr;have n0_:Aside0 (Kd.R (Kd.int .i64) 3 wr w.heap.size (fun _=>True) (.slice (some ad154) x7_1.length co23) x7_1):=⟨by rw[←hq_];exact(rm HO_7.out)⟩;have n1_:Aside0 (wr.heap[gb146]? =some (.cells #[.int .i64 a0_0,.bool a0_1] 27 (0,0))):=⟨by rw[←hq_];exact(bm BK146.out)⟩;have n2_:Aside0 (Below w.heap.size w wr):=⟨by rw[←hq_];exact(h1 HB.out GE146.out)⟩;clear HO_7 BK146 HB hq_;have HO_7:=n0_;have BK146:=n1_;have HB:=n2_;clear n0_ n1_ n2_))
 replace HO_7:=ak (R_drew HO_7.out)
 replace BK146:=ak (blk_drew BK146.out)
 replace HB:=ak (below_drew1 HB.out)
 have p156:0≤(x10_2:Int):=od
 have q156:x10_2<(l1.length:Int):=od
 obtain⟨ad156,e156,hx156_0,hx156_1⟩:=at_T58 HR1.out x10_2 p156 q156
 have hw156_1:=hx156_1
 have hw156_0:=hx156_0
 cases e156
 replace hx156_0:=hc HB hx156_0
 replace hx156_1:=hc HB hx156_1
 replace p156:=eq_true p156
 replace q156:=eq_true q156
 refine start_ (n:=9) (S:=fun w'=>w'.cell? ⟨gb146,0,none⟩=some (.int .i64 a0_0)∧w'.cell? ⟨gb146,1,none⟩=some (.bool a0_1)∧w'.cell? (ad156.add ((x10_2).toNat*2))=some (.int .i64 ((rd_T58 l1 x10_2).f0))∧w'.cell? ⟨(ad156.add ((x10_2).toNat*2)).block,(ad156.add ((x10_2).toNat*2)).off+1,none⟩=some (.int .i64 ((rd_T58 l1 x10_2).f1))) (ds:=[]) (lb 9 0) (by kernel_rfl) rfl rfl ⟨bc BK146 0 rfl,bc BK146 1 rfl,((HB.out.cell (World.block_lt_of_cell? w _ hw156_0)).trans hw156_0),((HB.out.cell (World.block_lt_of_cell? w _ hw156_1)).trans hw156_1)⟩ (fun hHeld=>?_);refine with_tabW spec_l9Can.tab12 spec_l9Can.bits12 (fun HT_ HW_=>?_)
 generalize wr.drew=w24 at HO_7 BK146 HB hx156_0 hx156_1 hHeld⊢
 refine pq 1 (N:=some 43) (lb 9 2) HT_ ?_
 refine pq 2 (N:=some 44) (lb 9 6) HT_ ?_
 refine pq 3 (N:=some 45) (lb 9 14) HT_ ?_
 refine pq 5 (N:=some 47) (lb 9 46) HT_ ?_
 refine pq 6 (N:=some 48) (lb 9 110) HT_ ?_
 refine tq 0 (N:=some 42) (lb 9 111) HT_ HW_ hHeld ?_
 refine tq 4 (N:=some 46) (lb 9 127) HT_ HW_ hHeld ?_
 refine one_ (i:=7) (N:=some 49) (lb 9 255) rfl rfl (one_of HT_.out (by kernel_rfl)) (by decide) (fun K hK=>?_)
 refine goes_ Try.func78 (by kernel_rfl) rfl #[.agg #[.int .i64 a0_0,.bool a0_1],.agg #[.int .i64 ((rd_T58 l1 x10_2).f0),.int .i64 ((rd_T58 l1 x10_2).f1)],.int .i64 (rd x7_1 (ji15)),.int .i64 a2] (by rfl) rfl rfl (by(try simp only[List.map_toArray,List.map_cons,List.map_nil]);first|done|(simp only[hji15];rfl)|rfl|(simp only[List.length_drop,List.length_take];rfl)) ?_
 with_reducible refine(spec_l9Place.calls a0_0 a0_1 ((rd_T58 l1 x10_2).f0) ((rd_T58 l1 x10_2).f1) (rd x7_1 (ji15)) a2 t157 _ A19.out).mono ?_
 rintro e w25 ⟨rfl,hb⟩
 refine⟨_,rfl,?_⟩
 replace HO_7:=rb HO_7 hb
 replace BK146:=kb BK146 hb
 replace HB:=ak (below_step (h1 HB.out GE146.out) hb)
 (try clear hb)
 (try clear hb2)
 (try clear hk)
 (try clear hi)
 refine hK.out _ _ ⟨bc BK146 0 rfl,bc BK146 1 rfl,((HB.out.cell (World.block_lt_of_cell? w _ hw156_0)).trans hw156_0),((HB.out.cell (World.block_lt_of_cell? w _ hw156_1)).trans hw156_1)⟩ (fun hHeld=>?_)
 clear hK K
 refine norm_ (a':=?_) ?_ ?_
 rotate_left
 ·show Act.put _ (some 49) _=_
  simp only[ap]
  rfl
 refine pq 8 (N:=some 12) (lb 9 511) HT_ ?_
 refine done_ (done_of HT_.out (by kernel_rfl)) ?_
 have p158:0≤(x10_2:Int):=od
 have q158:x10_2<(l1.length:Int):=od
 obtain⟨ad158,e158,hx158_0,hx158_1⟩:=at_T58 HR1.out x10_2 p158 q158
 obtain rfl:ad156=ad158:=(by injection e158)
 replace hx158_0:=hc HB hx158_0
 replace hx158_1:=hc HB hx158_1
 replace p158:=eq_true p158
 replace q158:=eq_true q158
 try go_wp2_with (first|(refine gs 67 Try.func43 #[.int .i64 t155,.int .i64 (wrap64 ((wrap64 (t157+((rd_T58 l1 x10_2).f1)))+1))] ?_;(with_reducible refine(spec_l1Most.calls t155 (wrap64 ((wrap64 (t157+((rd_T58 l1 x10_2).f1)))+1)) t159 _ A22.out).mono ?_);rintro e w' ⟨rfl,⟨nd,rfl⟩⟩;refine⟨_,rfl,?_⟩))
 go_roundg k2
 case measure=>have:=HK1.out;have:=HK2.out;omega
 case rel=>exact⟨(t159),(wrap64 (x10_2+1)),fd,fd,H',⟨by have:=HK1.out;have:=HK2.out;omega⟩,⟨rm HO_7.out⟩,⟨bm BK146.out⟩,⟨h1 HB.out GE146.out⟩⟩
def spec_CanGuard.f (k:Nat) (a0_0:Int) (a0_1:Bool) (l1:List (S58)) (a2:Int):Option (Bool × Bool):=(spec_l9Asks.f k a0_0 a0_1 l1 a2).bind fun t161=>(if t161=true then((spec_l9Can.f k a0_0 a0_1 l1 a2).bind fun t162=>(some (t162,true)))else(some (false,false)))
theorem spec_CanGuard.mono:∀ a0 a1 a2 a3 k,LeO (spec_CanGuard.f k a0 a1 a2 a3) (spec_CanGuard.f (k+1) a0 a1 a2 a3):=by
 intro a0 a1 a2 a3 k
 unfold spec_CanGuard.f
 repeat' (with_reducible first|exact spec_l9Asks.mono ..|exact spec_l9Can.mono ..|exact LeO.refl _|exact LeO.none _|refine LeO.ite ?_ ?_|refine LeO.bind ?_ (fun _=>?_))
set_option maxHeartbeats 8000000 in
set_option maxRecDepth 100000 in
theorem spec_CanGuard.calls (k:Nat) (a0_0:Int) (a0_1:Bool) (A1:Option Addr) (c1:Nat) (l1:List (S58)) (a2:Int) (r1:Bool) (r2:Bool) (w:World) (hr1:Kd.C k58 w A1 l1.length l1) (hc1:l1.length≤c1) (h:spec_CanGuard.f k a0_0 a0_1 l1 a2=some (r1,r2)):
  Calls Try.prog 17 #[.agg #[.int .i64 a0_0,.bool a0_1],.slice A1 l1.length c1,.int .i64 a2] w fun e w'=>e= .returned (.tuple #[.bool r1,.bool r2])∧Below w.heap.size w w':=by
 have HR1:=Aside0.mk hr1
 have HC1:=Aside0.mk hc1
 clear hr1 hc1
 have HB:=Aside0.mk (Below.refl w.heap.size w)
 unfold spec_CanGuard.f at h
 have H:=h
 clear h
 obtain⟨t161,A4,H⟩:=bd H;(try dsimp only at H)
 by_cases c5:t161=true
 rotate_left
 ·replace c5:=Bool.eq_false_iff.mpr c5
  subst c5
  rw[if_neg (show ¬(false=true)by decide)]at H
  simp only[Option.some.injEq,Prod.mk.injEq]at H
  obtain⟨rfl,rfl⟩:=H
  go_enter Try.func17,Try.ntmps17
  go_wp2_with (first|(refine bx 3 #[.int .i64 a0_0,.bool a0_1] 27 ?_;intro gb160 hg w12 hbox hb;have BK160:=ak hbox;have GE160:=gw HB hg;replace HB:=bs HB hb;clear hb hbox hg;have hcz13_0:=bc BK160 0 rfl;have hcz13_1:=bc BK160 1 rfl)|(refine gs 11 Try.func47 #[.agg #[.int .i64 a0_0,.bool a0_1],.slice A1 l1.length c1,.int .i64 a2] ?_;(with_reducible refine(spec_l9Asks.calls k a0_0 a0_1 _ _ l1 a2 false _ ?side1 ?side2 A4.out).mono ?_);(case side1=>exact cm (C_below HR1.out HB.out));(case side2=>exact HC1.out);rintro e w14 ⟨rfl,hb⟩;refine⟨_,rfl,?_⟩;replace BK160:=kb BK160 hb;replace HB:=ak (below_step (h1 HB.out GE160.out) hb);(try clear hb);(try clear hk);(try clear hi)))
  go_ret2
  exact⟨fe,h1 HB.out GE160.out⟩
 subst c5
 rw[if_pos rfl]at H
 obtain⟨t162,A6,H⟩:=bd H;(try dsimp only at H)
 simp only[Option.some.injEq,Prod.mk.injEq]at H
 obtain⟨rfl,rfl⟩:=H
 go_enter Try.func17,Try.ntmps17
 go_wp2_with (first|(refine bx 3 #[.int .i64 a0_0,.bool a0_1] 27 ?_;intro gb160 hg w7 hbox hb;have BK160:=ak hbox;have GE160:=gw HB hg;replace HB:=bs HB hb;clear hb hbox hg;have hcz8_0:=bc BK160 0 rfl;have hcz8_1:=bc BK160 1 rfl)|(refine gs 11 Try.func47 #[.agg #[.int .i64 a0_0,.bool a0_1],.slice A1 l1.length c1,.int .i64 a2] ?_;(with_reducible refine(spec_l9Asks.calls k a0_0 a0_1 _ _ l1 a2 true _ ?side1 ?side2 A4.out).mono ?_);(case side1=>exact cm (C_below HR1.out HB.out));(case side2=>exact HC1.out);rintro e w9 ⟨rfl,hb⟩;refine⟨_,rfl,?_⟩;replace BK160:=kb BK160 hb;replace HB:=ak (below_step (h1 HB.out GE160.out) hb);(try clear hb);(try clear hk);(try clear hi);have hcz10_0:=bc BK160 0 rfl;have hcz10_1:=bc BK160 1 rfl)|(refine gs 16 Try.func48 #[.agg #[.int .i64 a0_0,.bool a0_1],.slice A1 l1.length c1,.int .i64 a2] ?_;(with_reducible refine(spec_l9Can.calls k a0_0 a0_1 _ _ l1 a2 t162 _ ?side1 ?side2 A6.out).mono ?_);(case side1=>exact cm (C_below HR1.out HB.out));(case side2=>exact HC1.out);rintro e w11 ⟨rfl,hb⟩;refine⟨_,rfl,?_⟩;replace BK160:=kb BK160 hb;replace HB:=ak (below_step (h1 HB.out GE160.out) hb);(try clear hb);(try clear hk);(try clear hi)))
 go_ret2
 exact⟨fe,h1 HB.out GE160.out⟩
end
end Go.Proofs.Ytanfamfgdgcjpaa.QFnMoves
