/- Functions that the law FnMoves comes to, and their walks: no condition but those named. -/
import Derived.Test.YtanfamfgdgcjpaaQFnMovesx0
import Derived.Test.YtanfamfgdgcjpaaQFnMovesx2
import Derived.Test.YtanfamfgdgcjpaaQFnMovesx18
import Derived.Test.YtanfamfgdgcjpaaQFnMovesx19
namespace Go.Proofs.Ytanfamfgdgcjpaa.QFnMoves
open Go.RowKit Go.Proofs.YtanfamfgdgcjpaaW.PrintWords Go.Proofs.YtanfamfgdgcjpaaW.PrintLast Go.Proofs.YtanfamfgdgcjpaaW.PrintMore Go.Proofs.Ytanfamfgdgcjpaa.Short
attribute [local go_sem] max2_int min2_int max_two min_two max_three min_three max_four min_four
set_option linter.unusedVariables false
set_option linter.unusedSimpArgs false
section
open Kd
mutual
def spec_DrawMoveSensors.l0:Nat→List (S58)→List Int→Int→List Int→Int→Int→Int→Bool→Option (Int × Bool × (List (S58))× List Int)
 | 0,_,_,_,_,_,_,_,_=>none
 | k+1,x7,x8,x9,x575000,x575001,x575002,x580000,x580001=>if x9<(x7.length:Int)then((spec_l1Least.f x580000 24).bind fun t588=>(if 0≤x9 then((spec_l1Cur_pick.f x575000 x575001 x575002 7).bind fun bt590=>((spec_l1Least.f (wrap64 (t588-1)) (wrap64 ((wrap64 (((rd_T58 x7 x9).f0)+bt590.1))-3))).bind fun t593=>((spec_l1Most.f 0 t593).bind fun t594=>(if x8.length<17592186044416 then(spec_DrawMoveSensors.l0 k x7 (x8++[t594]) (wrap64 (x9+1)) x575000 bt590.2.1 bt590.2.2 x580000 x580001)else(none)))))else(none)))else((spec_l1Cur_one.f x575000 x575001 x575002 20).bind fun bt598=>(if bt598.1=true then((spec_l1Cur_placeOn.f x575000 bt598.2.1 bt598.2.2 x580000 x580001).bind fun bt601=>(if x8.length<17592186044416 then(spec_DrawMoveSensors.j1 k x7 (x8++[bt601.1]) x575000 bt601.2.1 bt601.2.2 x580000 x580001)else(none)))else(spec_DrawMoveSensors.j1 k x7 x8 x575000 bt598.2.1 bt598.2.2 x580000 x580001)))
def spec_DrawMoveSensors.j1:Nat→List (S58)→List Int→List Int→Int→Int→Int→Bool→Option (Int × Bool × (List (S58))× List Int)
 | 0,_,_,_,_,_,_,_=>none
 | k+1,x7,x8,x575000,x575001,x575002,x580000,x580001=>if(x8.length:Int)>0 then((spec_l1Cur_one.f x575000 x575001 x575002 30).bind fun bt607=>(if bt607.1=true then((spec_l1Cur_placeOn.f x575000 bt607.2.1 bt607.2.2 x580000 x580001).bind fun bt610=>(if 0<(x8.length:Int)then(some (x580000,x580001,x7,(x8.set (0:Int).toNat bt610.1)))else(none)))else(some (x580000,x580001,x7,x8))))else(some (x580000,x580001,x7,x8))
end
def spec_DrawMoveSensors.f (k:Nat) (l0:List Int):Option (Int × Bool × (List (S58))× List Int):=(spec_l1Cur_line9.f l0 0 0).bind fun bt575=>((spec_l1Cur_sensors9.f k l0 bt575.2.2.1 bt575.2.2.2 bt575.1 bt575.2.1).bind fun bt580=>(spec_DrawMoveSensors.l0 k bt580.1 (([]:List Int)) 0 l0 bt580.2.1 bt580.2.2 bt575.1 bt575.2.1))
theorem spec_DrawMoveSensors.mono_l:∀ k,(∀ y0 y1 y2 y3 y4 y5 y6 y7,LeO (spec_DrawMoveSensors.l0 k y0 y1 y2 y3 y4 y5 y6 y7) (spec_DrawMoveSensors.l0 (k+1) y0 y1 y2 y3 y4 y5 y6 y7))∧(∀ y0 y1 y2 y3 y4 y5 y6,LeO (spec_DrawMoveSensors.j1 k y0 y1 y2 y3 y4 y5 y6) (spec_DrawMoveSensors.j1 (k+1) y0 y1 y2 y3 y4 y5 y6))
 | 0=>by
  refine⟨?_,?_⟩<;>(intros;intro r h;simp[spec_DrawMoveSensors.l0,spec_DrawMoveSensors.j1]at h)
 | k+1=>by
  obtain⟨ih0,ih1⟩:=spec_DrawMoveSensors.mono_l k
  refine⟨?_,?_⟩<;>intros<;>(first|unfold spec_DrawMoveSensors.l0|unfold spec_DrawMoveSensors.j1)<;>(repeat' (with_reducible first|exact ih0 ..|exact ih1 ..|exact spec_l1Cur_sensors9.mono ..|exact LeO.refl _|exact LeO.none _|refine LeO.ite ?_ ?_|refine LeO.bind ?_ (fun _=>?_)))
theorem spec_DrawMoveSensors.mono:∀ a0 k,LeO (spec_DrawMoveSensors.f k a0) (spec_DrawMoveSensors.f (k+1) a0):=by
 intro a0 k
 obtain⟨ih0,ih1⟩:=spec_DrawMoveSensors.mono_l k
 unfold spec_DrawMoveSensors.f
 repeat' (with_reducible first|exact ih0 ..|exact ih1 ..|exact spec_l1Cur_sensors9.mono ..|exact LeO.refl _|exact LeO.none _|refine LeO.ite ?_ ?_|refine LeO.bind ?_ (fun _=>?_))
def spec_DrawMoveSensors.T8:Bool × List (List Nat × List Nat):=(true,[([],[]),([],[]),([1],[1]),([2],[2]),([3],[3]),([],[]),([],[]),([5,6],[5,6]),([7],[7]),([8],[8]),([],[]),([10,3],[10]),([9,11],[9,11]),([12],[12]),([4,13,11],[4,13]),([14,14],[14]),([15],[15]),([0,16,15],[0,16]),([17,17,0,1,2,3,4,5,6,7,8,9,10,11,12,13,14,15,16,17],[0,17])])
def spec_DrawMoveSensors.B8:List Nat:=[0,0,2,6,14,0,0,96,224,480,0,1038,4078,8174,16382,32766,65534,131071,262143]
theorem spec_DrawMoveSensors.tab8:rtab .any (opsOf Try.f34 8)=spec_DrawMoveSensors.T8:=by kernel_rfl
theorem spec_DrawMoveSensors.bits8:waitsOk spec_DrawMoveSensors.T8.2 spec_DrawMoveSensors.B8=true:=by kernel_rfl
set_option maxHeartbeats 8000000 in
set_option maxRecDepth 100000 in
theorem spec_DrawMoveSensors.calls (k:Nat) (A0:Option Addr) (c0:Nat) (l0:List Int) (r1:Int) (r2:Bool) (r3:List (S58)) (r4:List Int) (w:World) (hr0:Kd.C (Kd.int .u8) w A0 l0.length l0) (hc0:l0.length≤c0) (h:spec_DrawMoveSensors.f k l0=some (r1,r2,r3,r4)):
  Calls Try.prog 34 #[.slice A0 l0.length c0] w fun e w'=>∃ v2_ v3_:Value,e= .returned (.tuple #[.agg #[.int .i64 r1,.bool r2],v2_,v3_])∧Kd.R k58 58 w' w.heap.size (fun _=>True) v2_ r3∧Kd.R (Kd.int .i64) 3 w' w.heap.size (fun _=>True) v3_ r4∧Below w.heap.size w w':=by
 have HR0:=Aside0.mk hr0
 clear hr0 hc0
 have HB:=Aside0.mk (Below.refl w.heap.size w)
 unfold spec_DrawMoveSensors.f at h
 have H:=h
 clear h
 obtain⟨⟨t575,t576,t577,t578⟩,A2,H⟩:=bd H;(try dsimp only at H)
 obtain⟨⟨t580,t583,t584⟩,A3,H⟩:=bd H;(try dsimp only at H)
 generalize hy585: ([]:List Int)=y585 at H
 have Ny585:=ak hy585.symm
 clear hy585
 have H':=Aside0.mk H
 clear H
 go_enter Try.func34,Try.ntmps34
 go_wp2_with (first|(refine bx 2 #[.int .i64 0,.bool false] 27 ?_;intro gb573 hg w4 hbox hb;have BK573:=ak hbox;have GE573:=gw HB hg;replace HB:=bs HB hb;clear hb hbox hg)|(refine bx 12 #[.slice A0 l0.length c0,.int .i64 0,.int .u64 0] 88 ?_;intro gb574 hg w5 hbox hb;have NB573_574:=nl BK573 hg;have NB574_573:=ng BK573 hg;replace BK573:=kb BK573 hb;have HI574:=ak ((⟨_,_,hbox,(by rw[hg];exact(below_size (h1 HB.out GE573.out)):w.heap.size≤gb574),HR0.out⟩:IsS88 w w5 gb574 l0 0 0));replace HB:=ak (below_step (h1 HB.out GE573.out) hb);clear hb hbox hg)|(refine gs 14 Try.func68 #[.pointer (some ⟨gb574,0,none⟩)] ?_;(with_reducible refine(spec_l1Cur_line9.calls gb574 l0 0 0 t575 t576 t577 t578 w _ ?side1 ?side2 A2.out).mono ?_);(case side1=>exact IsS88.now HI574.out);(case side2=>exact h2 HB.out (IsS88.ge HI574.out) GE573.out);rintro e w6 ⟨rfl,hi,hb,hk⟩;refine⟨_,rfl,?_⟩;replace BK573:=kk BK573 hk NB573_574;replace HB:=ak hb;replace HI574:=ak hi;(try clear hb);(try clear hk);(try clear hi))|(refine bx 6 #[.int .i64 0,.bool false] 27 ?_;intro gb579 hg w7 hbox hb;have BK579:=ak hbox;have GE579:=ak ((by rw[hg];exact(below_size (h2 HB.out (IsS88.ge HI574.out) GE573.out)):w.heap.size≤gb579));replace HB:=ak (below_step (h2 HB.out (IsS88.ge HI574.out) GE573.out) hb);have NB573_579:=nl BK573 hg;have NB579_573:=ng BK573 hg;replace BK573:=kb BK573 hb;have NB574_579:=ak ((by rw[hg];exact Nat.ne_of_lt (IsS88.lt (show IsS88 w _ gb574 l0 t577 t578 from by exact IsS88.now HI574.out)):gb574≠gb579));have NB579_574:=ak ((by rw[hg];exact Nat.ne_of_gt (IsS88.lt (show IsS88 w _ gb574 l0 t577 t578 from by exact IsS88.now HI574.out)):gb579≠gb574));replace HI574:=ak (IsS88.below (by exact IsS88.now HI574.out) hb);clear hb hbox hg;have hcz10_0:=bc BK579 0 rfl;have hcz10_1:=bc BK579 1 rfl;have hfz10_0:=bf BK579 0;have hfz10_1:=bf BK579 1)|(refine gs 17 Try.func69 #[.pointer (some ⟨gb574,0,none⟩),.agg #[.int .i64 t575,.bool t576]] ?_;(with_reducible refine(spec_l1Cur_sensors9.calls k gb574 l0 t577 t578 t575 t576 t580 t583 t584 w _ ?side1 ?side2 A3.out).mono ?_);(case side1=>exact IsS88.now HI574.out);(case side2=>exact h3 HB.out (IsS88.ge HI574.out) GE573.out GE579.out);rintro e w11 ⟨v581,rfl,ho0,hi,hb,hk⟩;refine⟨_,rfl,?_⟩;replace BK573:=ak (KeepBut.blk hk (g':=gb573) (o:=.cells #[.int .i64 0,.bool false] 27 (0,0)) (by(with_reducible repeat(first|apply blk_drewN|apply blk_drew|apply blk_alloc));refine blk_far ?_ NB573_579.out _;(with_reducible repeat(first|apply blk_drewN|apply blk_drew|apply blk_alloc));refine blk_far ?_ NB573_579.out _;exact bm BK573.out) NB573_574.out (by simp));replace BK579:=ak (KeepBut.blk hk (g':=gb579) (o:=.cells #[.int .i64 t575,.bool t576] 27 (0,0)) (by(with_reducible repeat(first|apply blk_drewN|apply blk_drew|apply blk_alloc));refine blk_put (cs:=#[.int .i64 t575,.bool false]) ?_ 1 _ rfl;(with_reducible repeat(first|apply blk_drewN|apply blk_drew|apply blk_alloc));refine blk_put (cs:=#[.int .i64 0,.bool false]) ?_ 0 _ rfl;exact bm BK579.out) NB579_574.out (by simp));have HO582:=ak (R_lower ho0 (below_size (h3 HB.out (IsS88.ge HI574.out) GE573.out GE579.out)));replace HB:=ak hb;replace HI574:=ak hi;(try clear hb);(try clear hk);(try clear hi);(try clear ho0))|((with_reducible refine gate_dst (N:=18) rfl ?_);refine R_lit (Kd.int .i64) _ 3 ?hg (N:=18) ?hd (xs:=([]:List Int)) (inner:=[]) (ok:=fun _=>True) (okp:=fun _=>True) ?hr ?hp (fun _ hk=>hk) trivial (Below.refl _ _) (Nat.le_refl _) (by simp) ?_;(case hd=>rfl);(case hg=>rfl);(case hr=>first|(go_simp;done)|(go_simp;rfl));(case hp=>exact(Reps.none _ _));intro v586 w12 ho13 hb hg_ hnew_;clear hg_ hnew_;(first|rw[←Ny585.out]at ho13|(simp only[Int.reduceToNat]at ho13;rw[←Ny585.out]at ho13));replace HO582:=rb HO582 hb;have HO587:=ak (R_lower ho13 (below_size (h3 HB.out (IsS88.ge HI574.out) GE573.out GE579.out)));replace BK573:=kb BK573 hb;replace BK579:=kb BK579 hb;replace HB:=ak (below_step (h3 HB.out (IsS88.ge HI574.out) GE573.out GE579.out) hb);replace HI574:=ak (IsS88.below (by exact IsS88.now HI574.out) hb);clear hb ho13))
 go_loopg [8,9] k (fun kq v8 v9 w'=>∃ (x8_1:List Int) (x9_1:Int) (x575001_1:Int) (x575002_1:Int),v9= .int .i64 x9_1∧Aside0 (spec_DrawMoveSensors.l0 kq t580 x8_1 x9_1 l0 x575001_1 x575002_1 t575 t576=some (r1,r2,r3,r4))∧Aside0 (kq≤k)∧Aside0 (Kd.R k58 58 w' w.heap.size (fun _=>True) v581 t580)∧Aside0 (Kd.R (Kd.int .i64) 3 w' w.heap.size (fun _=>True) v8 x8_1)∧Aside0 (w'.heap[gb573]? =some (.cells #[.int .i64 0,.bool false] 27 (0,0)))∧Aside0 (w'.heap[gb579]? =some (.cells #[.int .i64 t575,.bool t576] 27 (0,0)))∧Aside0 (IsS88 w w' gb574 l0 x575001_1 x575002_1)∧Aside0 (Below w.heap.size w w'))
 case atStart=>exact⟨(y585),(0),(t583),(t584),fd,H',⟨Nat.le_refl _⟩,⟨rm HO582.out⟩,⟨rm HO587.out⟩,⟨bm BK573.out⟩,⟨bm BK579.out⟩,⟨by exact IsS88.now HI574.out⟩,⟨h3 HB.out (IsS88.ge HI574.out) GE573.out GE579.out⟩⟩
 clear H'
 obtain⟨x8_1,x9_1,x575001_1,x575002_1,rfl,HA,HK1,HO_7,HO_8,BK573,BK579,HI574,HB⟩:=hrel
 obtain _|k1:=gk;·cases HA.out
 obtain⟨H⟩:=HA
 simp only[spec_DrawMoveSensors.l0]at H
 by_cases c14:x9_1<(t580.length:Int)
 ·rw[if_pos c14]at H
  have c14b0:decide (x9_1<(t580.length:Int))=true:=decide_eq_true c14
  clear c14
  obtain⟨t588,A15,H⟩:=bd H;(try dsimp only at H)
  obtain⟨c16,H⟩:=gi H
  have c16b0:decide (0≤x9_1)=true:=decide_eq_true c16
  clear c16
  obtain⟨⟨t590,t591,t592⟩,A17,H⟩:=bd H;(try dsimp only at H)
  obtain⟨t593,A18,H⟩:=bd H;(try dsimp only at H)
  obtain⟨t594,A19,H⟩:=bd H;(try dsimp only at H)
  obtain⟨c20,H⟩:=gi H
  have LMc20:=Aside0.mk c20
  clear c20
  generalize hy595: (x8_1++[t594]:List Int)=y595 at H
  have Ny595:=ak hy595.symm
  clear hy595
  have H':=Aside0.mk H
  clear H
  obtain⟨Ao21,co21,eo21⟩:=R_slice HO_7.out
  subst eo21
  try go_wp2
  replace HO_7:=ak (R_drew HO_7.out)
  replace HO_8:=ak (R_drew HO_8.out)
  replace BK573:=ak (blk_drew BK573.out)
  replace BK579:=ak (blk_drew BK579.out)
  replace HI574:=ak (IsS88.drew HI574.out)
  replace HB:=ak (below_drew1 HB.out)
  have p589:0≤(x9_1:Int):=od
  have q589:x9_1<(t580.length:Int):=od
  obtain⟨ad589,e589,hx589_0,hx589_1⟩:=at_T58 (R_reads' HO_7.out).2.2 x9_1 p589 q589
  cases e589
  replace p589:=eq_true p589
  replace q589:=eq_true q589
  refine start_ (n:=19) (S:=fun w'=>w'.cell? ⟨gb579,0,none⟩=some (.int .i64 t575)∧w'.cell? ⟨gb579,1,none⟩=some (.bool t576)∧w'.cell? (ad589.add ((x9_1).toNat*2))=some (.int .i64 ((rd_T58 t580 x9_1).f0))∧w'.cell? ⟨(ad589.add ((x9_1).toNat*2)).block,(ad589.add ((x9_1).toNat*2)).off+1,none⟩=some (.int .i64 ((rd_T58 t580 x9_1).f1))) (ds:=[16,17]) (lb 19 0) (by kernel_rfl) rfl rfl ⟨bc BK579 0 rfl,bc BK579 1 rfl,hx589_0,hx589_1⟩ (fun hHeld=>?_);refine with_tabW spec_DrawMoveSensors.tab8 spec_DrawMoveSensors.bits8 (fun HT_ HW_=>?_)
  generalize wr.drew=w22 at HO_7 HO_8 BK573 BK579 HI574 HB hx589_0 hx589_1 hHeld⊢
  refine pq 0 (N:=some 25) (lb 19 1) HT_ ?_
  refine pq 1 (N:=some 26) (lb 19 3) HT_ ?_
  refine pq 5 (N:=some 30) (lb 19 35) HT_ ?_
  refine pq 6 (N:=some 31) (lb 19 99) HT_ ?_
  refine pq 7 (N:=some 32) (lb 19 227) HT_ ?_
  refine pq 8 (N:=some 33) (lb 19 483) HT_ ?_
  refine pq 10 (N:=some 35) (lb 19 1507) HT_ ?_
  refine tq 2 (N:=some 27) (lb 19 1511) HT_ HW_ hHeld ?_
  refine tq 9 (N:=some 34) (lb 19 2023) HT_ HW_ hHeld ?_
  refine one_ (i:=3) (N:=some 28) (lb 19 2031) rfl rfl (one_of HT_.out (by kernel_rfl)) (by decide) (fun K hK=>?_)
  refine goes_ Try.func44 (by kernel_rfl) rfl #[.int .i64 t575,.int .i64 24] (by rfl) rfl rfl gl ?_
  with_reducible refine(spec_l1Least.calls t575 24 t588 _ A15.out).mono ?_
  rintro e w' ⟨rfl,⟨nd,rfl⟩⟩
  refine⟨_,rfl,?_⟩
  refine hK.out _ _ ⟨bc BK579 0 rfl,bc BK579 1 rfl,hHeld.2.2.1,hHeld.2.2.2⟩ (fun hHeld=>?_)
  clear hK K
  refine norm_ (a':=?_) ?_ ?_
  rotate_left
  ·show Act.put _ (some 28) _=_
   simp only[ap]
   rfl
  refine pq 4 (N:=some 29) (lb 19 2047) HT_ ?_
  refine one_ (i:=11) (N:=some 36) (lb 19 4095) rfl rfl (one_of HT_.out (by kernel_rfl)) (by decide) (fun K hK=>?_)
  refine goes_ Try.func71 (by kernel_rfl) rfl #[.pointer (some ⟨gb574,0,none⟩),.int .i64 7] (by rfl) rfl rfl gl ?_
  with_reducible refine(spec_l1Cur_pick.calls gb574 l0 x575001_1 x575002_1 7 t590 t591 t592 w _ ?side1 ?side2 A17.out).mono ?_
  (case side1=>exact IsS88.now HI574.out)
  (case side2=>exact h3 HB.out (IsS88.ge HI574.out) GE573.out GE579.out)
  rintro e w23 ⟨rfl,hi,hb,hk⟩
  have HS2_:=keep_cell hk (hHeld.2.2.1) (by first|(rw[add_block];exact Kd.own_blk (IsS88.own_ne HI574.out HO_7.out (by decide)))|(show(Addr.add _ _).block≠_;rw[add_block];exact Kd.own_blk (IsS88.own_ne HI574.out HO_7.out (by decide)))|exact Kd.own_blk (IsS88.own_ne HI574.out HO_7.out (by decide)))
  have HS3_:=keep_cell hk (hHeld.2.2.2) (by first|(rw[add_block];exact Kd.own_blk (IsS88.own_ne HI574.out HO_7.out (by decide)))|(show(Addr.add _ _).block≠_;rw[add_block];exact Kd.own_blk (IsS88.own_ne HI574.out HO_7.out (by decide)))|exact Kd.own_blk (IsS88.own_ne HI574.out HO_7.out (by decide)))
  refine⟨_,rfl,?_⟩
  replace HO_7:=ak (R_mono (R_keep (IsS88.apart (show IsS88 w _ gb574 l0 x575001_1 x575002_1 from by exact IsS88.now HI574.out) (rm HO_7.out) (by decide)) hk (fun _ h=>h.2)) (fun _ h=>h.1))
  replace HO_8:=ak (R_mono (R_keep (IsS88.apart (show IsS88 w _ gb574 l0 x575001_1 x575002_1 from by exact IsS88.now HI574.out) (rm HO_8.out) (by decide)) hk (fun _ h=>h.2)) (fun _ h=>h.1))
  replace BK573:=kk BK573 hk NB573_574
  replace BK579:=kk BK579 hk NB579_574
  replace HB:=ak hb
  replace HI574:=ak hi
  (try clear hb)
  (try clear hb2)
  (try clear hk)
  (try clear hi)
  refine hK.out _ _ ⟨bc BK579 0 rfl,bc BK579 1 rfl,HS2_,HS3_⟩ (fun hHeld=>?_)
  clear hK K
  refine norm_ (a':=?_) ?_ ?_
  rotate_left
  ·show Act.put _ (some 36) _=_
   simp only[ap]
   rfl
  refine pq 12 (N:=some 37) (lb 19 8191) HT_ ?_
  refine pq 13 (N:=some 38) (lb 19 16383) HT_ ?_
  refine one_ (i:=14) (N:=some 39) (lb 19 32767) rfl rfl (one_of HT_.out (by kernel_rfl)) (by decide) (fun K hK=>?_)
  refine goes_ Try.func44 (by kernel_rfl) rfl #[.int .i64 (wrap64 (t588-1)),.int .i64 (wrap64 ((wrap64 (((rd_T58 t580 x9_1).f0)+t590))-3))] (by rfl) rfl rfl gl ?_
  with_reducible refine(spec_l1Least.calls (wrap64 (t588-1)) (wrap64 ((wrap64 (((rd_T58 t580 x9_1).f0)+t590))-3)) t593 _ A18.out).mono ?_
  rintro e w' ⟨rfl,⟨nd,rfl⟩⟩
  refine⟨_,rfl,?_⟩
  refine hK.out _ _ ⟨bc BK579 0 rfl,bc BK579 1 rfl,hHeld.2.2.1,hHeld.2.2.2⟩ (fun hHeld=>?_)
  clear hK K
  refine norm_ (a':=?_) ?_ ?_
  rotate_left
  ·show Act.put _ (some 39) _=_
   simp only[ap]
   rfl
  refine one_ (i:=15) (N:=some 40) (lb 19 65535) rfl rfl (one_of HT_.out (by kernel_rfl)) (by decide) (fun K hK=>?_)
  refine goes_ Try.func43 (by kernel_rfl) rfl #[.int .i64 0,.int .i64 t593] (by rfl) rfl rfl gl ?_
  with_reducible refine(spec_l1Most.calls 0 t593 t594 _ A19.out).mono ?_
  rintro e w' ⟨rfl,⟨nd,rfl⟩⟩
  refine⟨_,rfl,?_⟩
  refine hK.out _ _ ⟨bc BK579 0 rfl,bc BK579 1 rfl,hHeld.2.2.1,hHeld.2.2.2⟩ (fun hHeld=>?_)
  clear hK K
  refine norm_ (a':=?_) ?_ ?_
  rotate_left
  ·show Act.put _ (some 40) _=_
   simp only[ap]
   rfl
  refine last_ (i:=16) (N:=some 41) (lb 19 131071) rfl rfl (one_of HT_.out (by kernel_rfl)) (by decide) (fun K hK=>?_)
  refine value_ (w1:=?_) (v:=?_) (by rfl) rfl ?_ ?_
  rotate_left 2
  ·go_simp
   constructor
   rotate_left
   ·rfl
   rfl
  refine hK.out _ _ ?_
  clear hK K
  refine norm_ (a':=?_) ?_ ?_
  rotate_left
  ·show Act.put _ (some 41) _=_
   simp only[ap]
   rfl
  refine last_ (i:=17) (N:=some 42) (lb 19 262143) rfl rfl (one_of HT_.out (by kernel_rfl)) (by decide) (fun K hK=>?_)
  refine R_append_step (Kd.int .i64) (w0:=w) w.heap.size (by rfl) (.tmp 25) (.tmp 41) 24 3 (.int .i64 0) 8 rfl Try.underlying24 info3 rfl (by decide) (by omega) u8 x8_1 t594 [.int .i64 t594] (fun _=>True) (fun _=>False) rfl rfl ?aP (fun _ hk=>hk.elim) ?aF ?aO ?aB ?aS ?aL ?_
  (case aP=>exact rfl)
  (case aB=>exact(h3 HB.out (IsS88.ge HI574.out) GE573.out GE579.out))
  (case aF=>exact(fun _ _=>trivial))
  (case aO=>exact(rm HO_8.out))
  (case aS=>exact(below_size (h3 HB.out (IsS88.ge HI574.out) GE573.out GE579.out)))
  (case aL=>have:=LMc20.out;omega)
  intro v596 w24 ho hb hg hat
  rw[←Ny595.out]at ho
  replace HO_7:=ak (R_over' (rm HO_7.out) (R_typed (rm HO_8.out)) (by decide) hg)
  replace BK573:=ak (blk_grown (g:=gb573) (o:=.cells #[.int .i64 0,.bool false] 27 (0,0)) (bm BK573.out) hg (R_ne HO_8.out BK573.out (by decide)))
  replace BK579:=ak (blk_grown (g:=gb579) (o:=.cells #[.int .i64 t575,.bool t576] 27 (0,0)) (bm BK579.out) hg (R_ne HO_8.out BK579.out (by decide)))
  replace HI574:=ak (IsS88.grown (show IsS88 w _ gb574 l0 t591 t592 from by exact IsS88.now HI574.out) hg (IsS88.own_ne HI574.out HO_8.out (by decide)))
  replace HB:=ak hb
  have HO597:=ak ho
  clear HO_8
  clear ho hb hg hat
  refine hK.out _ _ ?_
  clear hK K
  refine norm_ (a':=?_) ?_ ?_
  rotate_left
  ·show Act.put _ (some 42) _=_
   simp only[ap]
   rfl
  refine pq 18 (N:=some 8) (lb 19 524287) HT_ ?_
  refine done_ (done_of HT_.out (by kernel_rfl)) ?_
  try go_wp2
  go_roundg k1
  case measure=>have:=HK1.out;omega
  case rel=>exact⟨(y595),(wrap64 (x9_1+1)),(t591),(t592),fd,H',⟨by have:=HK1.out;omega⟩,⟨rm HO_7.out⟩,⟨rm HO597.out⟩,⟨bm BK573.out⟩,⟨bm BK579.out⟩,⟨by exact IsS88.now HI574.out⟩,⟨h3 HB.out (IsS88.ge HI574.out) GE573.out GE579.out⟩⟩
 rw[if_neg c14]at H
 have c14b0:decide (x9_1<(t580.length:Int))=false:=decide_eq_false c14
 clear c14
 obtain⟨⟨t598,t599,t600⟩,A25,H⟩:=bd H;(try dsimp only at H)
 have HC26:=Aside0.mk H
 clear H
 obtain⟨Ao27,co27,eo27⟩:=R_slice HO_7.out
 subst eo27
 go_upto_if 44 with(first|(refine gs 44 Try.func72 #[.pointer (some ⟨gb574,0,none⟩),.int .i64 20] ?_;(with_reducible refine(spec_l1Cur_one.calls gb574 l0 x575001_1 x575002_1 20 t598 t599 t600 w _ ?side1 ?side2 A25.out).mono ?_);(case side1=>exact IsS88.now HI574.out);(case side2=>exact h3 HB.out (IsS88.ge HI574.out) GE573.out GE579.out);rintro e w28 ⟨rfl,hi,hb,hk⟩;refine⟨_,rfl,?_⟩;replace HO_7:=ak (R_mono (R_keep (IsS88.apart (show IsS88 w _ gb574 l0 x575001_1 x575002_1 from by exact IsS88.now HI574.out) (rm HO_7.out) (by decide)) hk (fun _ h=>h.2)) (fun _ h=>h.1));replace HO_8:=ak (R_mono (R_keep (IsS88.apart (show IsS88 w _ gb574 l0 x575001_1 x575002_1 from by exact IsS88.now HI574.out) (rm HO_8.out) (by decide)) hk (fun _ h=>h.2)) (fun _ h=>h.1));replace BK573:=kk BK573 hk NB573_574;replace BK579:=kk BK579 hk NB579_574;replace HB:=ak hb;replace HI574:=ak hi;(try clear hb);(try clear hk);(try clear hi)))
 (try simp only[ap])
 go_cut [8] (fun v8 wc=>∃ (kq:Nat) (x8_25:List Int) (x575001_25:Int) (x575002_25:Int),Aside0 (spec_DrawMoveSensors.j1 kq t580 x8_25 l0 x575001_25 x575002_25 t575 t576=some (r1,r2,r3,r4))∧Aside0 (kq≤k1)∧Aside0 (Kd.R k58 58 wc w.heap.size (fun _=>True) (.slice Ao27 t580.length co27) t580)∧Aside0 (Kd.R (Kd.int .i64) 3 wc w.heap.size (fun _=>True) v8 x8_25)∧Aside0 (wc.heap[gb573]? =some (.cells #[.int .i64 0,.bool false] 27 (0,0)))∧Aside0 (wc.heap[gb579]? =some (.cells #[.int .i64 t575,.bool t576] 27 (0,0)))∧Aside0 (IsS88 w wc gb574 l0 x575001_25 x575002_25)∧Aside0 (Below w.heap.size w wc))
 case first=>
  have H:=HC26.out
  clear HC26
  by_cases c29:t598=true
  rotate_left
  ·replace c29:=Bool.eq_false_iff.mpr c29
   subst c29
   rw[if_neg (show ¬(false=true)by decide)]at H
   have H':=Aside0.mk H
   clear H
   go_wp2
   go_meet
   case rel=>exact⟨_,(x8_1),(t599),(t600),H',⟨by first|exact Nat.le_refl _|(have:=HK1.out;omega)⟩,⟨rm HO_7.out⟩,⟨rm HO_8.out⟩,⟨bm BK573.out⟩,⟨bm BK579.out⟩,⟨by exact IsS88.now HI574.out⟩,⟨h3 HB.out (IsS88.ge HI574.out) GE573.out GE579.out⟩⟩
  subst c29
  rw[if_pos rfl]at H
  obtain⟨⟨t601,t602,t603⟩,A30,H⟩:=bd H;(try dsimp only at H)
  obtain⟨c31,H⟩:=gi H
  have LMc31:=Aside0.mk c31
  clear c31
  generalize hy604: (x8_1++[t601]:List Int)=y604 at H
  have Ny604:=ak hy604.symm
  clear hy604
  have H':=Aside0.mk H
  clear H
  have hcz34_0:=bc BK579 0 rfl
  have hcz34_1:=bc BK579 1 rfl
  go_wp2_with (first|(refine gs 48 Try.func73 #[.pointer (some ⟨gb574,0,none⟩),.agg #[.int .i64 t575,.bool t576]] ?_;(with_reducible refine(spec_l1Cur_placeOn.calls gb574 l0 t599 t600 t575 t576 t601 t602 t603 w _ ?side1 ?side2 A30.out).mono ?_);(case side1=>exact IsS88.now HI574.out);(case side2=>exact h3 HB.out (IsS88.ge HI574.out) GE573.out GE579.out);rintro e w35 ⟨rfl,hi,hb,hk⟩;refine⟨_,rfl,?_⟩;replace HO_7:=ak (R_mono (R_keep (IsS88.apart (show IsS88 w _ gb574 l0 t599 t600 from by exact IsS88.now HI574.out) (rm HO_7.out) (by decide)) hk (fun _ h=>h.2)) (fun _ h=>h.1));replace HO_8:=ak (R_mono (R_keep (IsS88.apart (show IsS88 w _ gb574 l0 t599 t600 from by exact IsS88.now HI574.out) (rm HO_8.out) (by decide)) hk (fun _ h=>h.2)) (fun _ h=>h.1));replace BK573:=kk BK573 hk NB573_574;replace BK579:=kk BK579 hk NB579_574;replace HB:=ak hb;replace HI574:=ak hi;(try clear hb);(try clear hk);(try clear hi))|((with_reducible refine gate_builtin (b:=.append) (xs:=#[.tmp 45,.tmp 49]) rfl ?_);at_builtin;refine R_append (Kd.int .i64) (w0:=w) w.heap.size rfl (.tmp 45) (.tmp 49) 24 3 (.int .i64 0) 8 rfl Try.underlying24 info3 rfl (by decide) (by omega) u8 x8_1 t601 [.int .i64 t601] (fun _=>True) (fun _=>False) rfl rfl ?aP (fun _ hk=>hk.elim) ?aF ?aO ?aB ?aS ?aL ?_;(case aP=>exact rfl);(case aB=>exact(h3 HB.out (IsS88.ge HI574.out) GE573.out GE579.out));(case aF=>exact(fun _ _=>trivial));(case aO=>exact(rm HO_8.out));(case aS=>exact(below_size (h3 HB.out (IsS88.ge HI574.out) GE573.out GE579.out)));(case aL=>have:=LMc31.out;omega);intro v605 w36 ho hb hg hat;rw[←Ny604.out]at ho;replace HO_7:=ak (R_over' (rm HO_7.out) (R_typed (rm HO_8.out)) (by decide) hg);replace BK573:=ak (blk_grown (g:=gb573) (o:=.cells #[.int .i64 0,.bool false] 27 (0,0)) (bm BK573.out) hg (R_ne HO_8.out BK573.out (by decide)));replace BK579:=ak (blk_grown (g:=gb579) (o:=.cells #[.int .i64 t575,.bool t576] 27 (0,0)) (bm BK579.out) hg (R_ne HO_8.out BK579.out (by decide)));replace HI574:=ak (IsS88.grown (show IsS88 w _ gb574 l0 t602 t603 from by exact IsS88.now HI574.out) hg (IsS88.own_ne HI574.out HO_8.out (by decide)));replace HB:=ak hb;have HO606:=ak ho;clear HO_8;clear ho hb hg hat))
  go_meet
  case rel=>exact⟨_,(y604),(t602),(t603),H',⟨by first|exact Nat.le_refl _|(have:=HK1.out;omega)⟩,⟨rm HO_7.out⟩,⟨rm HO606.out⟩,⟨bm BK573.out⟩,⟨bm BK579.out⟩,⟨by exact IsS88.now HI574.out⟩,⟨h3 HB.out (IsS88.ge HI574.out) GE573.out GE579.out⟩⟩
 clear HC26
 obtain⟨kq,x8_25,x575001_25,x575002_25,HA,HJ25,HO_7,HO_8,BK573,BK579,HI574,HB⟩:=hcut
 obtain _|kj25:=kq;·cases HA.out
 obtain⟨H⟩:=HA
 simp only[spec_DrawMoveSensors.j1]at H
 by_cases c37: (x8_25.length:Int)>0
 rotate_left
 ·rw[if_neg c37]at H
  have c37b1:decide (0<x8_25.length)=false:=decide_eq_false (by omega)
  clear c37
  simp only[Option.some.injEq,Prod.mk.injEq]at H
  obtain⟨rfl,rfl,rfl,rfl⟩:=H
  obtain⟨Ao61,co61,eo61⟩:=R_slice HO_8.out
  subst eo61
  have hcz64_0:=bc BK579 0 rfl
  have hcz64_1:=bc BK579 1 rfl
  have hcz66_0:=bc BK573 0 rfl
  have hcz66_1:=bc BK573 1 rfl
  have hfz66_0:=bf BK573 0
  have hfz66_1:=bf BK573 1
  go_wp2
  refine bodyPost_ret (results_ctt rfl _ _ gb573 27 #[.int .i64 t575,.bool t576] (0,0) _ rfl (by(with_reducible repeat(first|apply blk_drewN|apply blk_drew|apply blk_alloc));refine blk_put (cs:=#[.int .i64 t575,.bool false]) ?_ 1 _ rfl;(with_reducible repeat(first|apply blk_drewN|apply blk_drew|apply blk_alloc));refine blk_put (cs:=#[.int .i64 0,.bool false]) ?_ 0 _ rfl;exact bm BK573.out) Try.underlying27 rfl (by kernel_rfl)) rfl ?_
  exact⟨_,_,fe,by(with_reducible repeat(first|apply R_alloc|apply R_drewN|apply R_drew));exact R_mono (R_far (p:=⟨gb573,1,none⟩) (R_far (p:=⟨gb573,0,none⟩) (R_types HO_7.out BK573.out (by decide)) (fun _ hk=>hk.2) (.int .i64 t575)) (fun _ hk=>hk.2) (.bool t576)) (fun _ hk=>trivial),by(with_reducible repeat(first|apply R_alloc|apply R_drewN|apply R_drew));exact R_mono (R_far (p:=⟨gb573,1,none⟩) (R_far (p:=⟨gb573,0,none⟩) (R_types HO_8.out BK573.out (by decide)) (fun _ hk=>hk.2) (.int .i64 t575)) (fun _ hk=>hk.2) (.bool t576)) (fun _ hk=>trivial),h3 HB.out (IsS88.ge HI574.out) GE573.out GE579.out⟩
 rw[if_pos c37]at H
 have c37b1:decide (0<x8_25.length)=true:=decide_eq_true (by omega)
 clear c37
 obtain⟨⟨t607,t608,t609⟩,A38,H⟩:=bd H;(try dsimp only at H)
 by_cases c39:t607=true
 rotate_left
 ·replace c39:=Bool.eq_false_iff.mpr c39
  subst c39
  rw[if_neg (show ¬(false=true)by decide)]at H
  simp only[Option.some.injEq,Prod.mk.injEq]at H
  obtain⟨rfl,rfl,rfl,rfl⟩:=H
  obtain⟨Ao54,co54,eo54⟩:=R_slice HO_8.out
  subst eo54
  go_wp2_with (first|(go_at_call 72;(with_reducible refine(spec_l1Cur_one.calls gb574 l0 x575001_25 x575002_25 30 false t608 t609 w _ ?side1 ?side2 A38.out).mono ?_);(case side1=>exact IsS88.now HI574.out);(case side2=>exact h3 HB.out (IsS88.ge HI574.out) GE573.out GE579.out);rintro e w55 ⟨rfl,hi,hb,hk⟩;replace HO_7:=ak (R_mono (R_keep (IsS88.apart (show IsS88 w _ gb574 l0 x575001_25 x575002_25 from by exact IsS88.now HI574.out) (rm HO_7.out) (by decide)) hk (fun _ h=>h.2)) (fun _ h=>h.1));replace HO_8:=ak (R_mono (R_keep (IsS88.apart (show IsS88 w _ gb574 l0 x575001_25 x575002_25 from by exact IsS88.now HI574.out) (rm HO_8.out) (by decide)) hk (fun _ h=>h.2)) (fun _ h=>h.1));replace BK573:=kk BK573 hk NB573_574;replace BK579:=kk BK579 hk NB579_574;replace HB:=ak hb;replace HI574:=ak hi;(try clear hb);(try clear hk);(try clear hi);have hcz58_0:=bc BK579 0 rfl;have hcz58_1:=bc BK579 1 rfl;have hcz60_0:=bc BK573 0 rfl;have hcz60_1:=bc BK573 1 rfl;have hfz60_0:=bf BK573 0;have hfz60_1:=bf BK573 1))
  refine bodyPost_ret (results_ctt rfl _ _ gb573 27 #[.int .i64 t575,.bool t576] (0,0) _ rfl (by(with_reducible repeat(first|apply blk_drewN|apply blk_drew|apply blk_alloc));refine blk_put (cs:=#[.int .i64 t575,.bool false]) ?_ 1 _ rfl;(with_reducible repeat(first|apply blk_drewN|apply blk_drew|apply blk_alloc));refine blk_put (cs:=#[.int .i64 0,.bool false]) ?_ 0 _ rfl;exact bm BK573.out) Try.underlying27 rfl (by kernel_rfl)) rfl ?_
  exact⟨_,_,fe,by(with_reducible repeat(first|apply R_alloc|apply R_drewN|apply R_drew));exact R_mono (R_far (p:=⟨gb573,1,none⟩) (R_far (p:=⟨gb573,0,none⟩) (R_types HO_7.out BK573.out (by decide)) (fun _ hk=>hk.2) (.int .i64 t575)) (fun _ hk=>hk.2) (.bool t576)) (fun _ hk=>trivial),by(with_reducible repeat(first|apply R_alloc|apply R_drewN|apply R_drew));exact R_mono (R_far (p:=⟨gb573,1,none⟩) (R_far (p:=⟨gb573,0,none⟩) (R_types HO_8.out BK573.out (by decide)) (fun _ hk=>hk.2) (.int .i64 t575)) (fun _ hk=>hk.2) (.bool t576)) (fun _ hk=>trivial),h3 HB.out (IsS88.ge HI574.out) GE573.out GE579.out⟩
 subst c39
 rw[if_pos rfl]at H
 obtain⟨⟨t610,t611,t612⟩,A40,H⟩:=bd H;(try dsimp only at H)
 obtain⟨c41,H⟩:=gi H
 have c41b0:decide (0<(x8_25.length:Int))=true:=decide_eq_true c41
 clear c41
 generalize hy613: (x8_25.set (0:Int).toNat t610:List Int)=y613 at H
 have Ny613:=ak hy613.symm
 clear hy613
 simp only[Option.some.injEq,Prod.mk.injEq]at H
 obtain⟨rfl,rfl,rfl,rfl⟩:=H
 obtain⟨Ao43,co43,eo43⟩:=R_slice HO_8.out
 subst eo43
 go_wp2_with (first|(go_at_call 72;(with_reducible refine(spec_l1Cur_one.calls gb574 l0 x575001_25 x575002_25 30 true t608 t609 w _ ?side1 ?side2 A38.out).mono ?_);(case side1=>exact IsS88.now HI574.out);(case side2=>exact h3 HB.out (IsS88.ge HI574.out) GE573.out GE579.out);rintro e w44 ⟨rfl,hi,hb,hk⟩;replace HO_7:=ak (R_mono (R_keep (IsS88.apart (show IsS88 w _ gb574 l0 x575001_25 x575002_25 from by exact IsS88.now HI574.out) (rm HO_7.out) (by decide)) hk (fun _ h=>h.2)) (fun _ h=>h.1));replace HO_8:=ak (R_mono (R_keep (IsS88.apart (show IsS88 w _ gb574 l0 x575001_25 x575002_25 from by exact IsS88.now HI574.out) (rm HO_8.out) (by decide)) hk (fun _ h=>h.2)) (fun _ h=>h.1));replace BK573:=kk BK573 hk NB573_574;replace BK579:=kk BK579 hk NB579_574;replace HB:=ak hb;replace HI574:=ak hi;(try clear hb);(try clear hk);(try clear hi);have hcz47_0:=bc BK579 0 rfl;have hcz47_1:=bc BK579 1 rfl)|(refine gs 61 Try.func73 #[.pointer (some ⟨gb574,0,none⟩),.agg #[.int .i64 t575,.bool t576]] ?_;(with_reducible refine(spec_l1Cur_placeOn.calls gb574 l0 t608 t609 t575 t576 t610 t611 t612 w _ ?side1 ?side2 A40.out).mono ?_);(case side1=>exact IsS88.now HI574.out);(case side2=>exact h3 HB.out (IsS88.ge HI574.out) GE573.out GE579.out);rintro e w48 ⟨rfl,hi,hb,hk⟩;refine⟨_,rfl,?_⟩;replace HO_7:=ak (R_mono (R_keep (IsS88.apart (show IsS88 w _ gb574 l0 t608 t609 from by exact IsS88.now HI574.out) (rm HO_7.out) (by decide)) hk (fun _ h=>h.2)) (fun _ h=>h.1));replace HO_8:=ak (R_mono (R_keep (IsS88.apart (show IsS88 w _ gb574 l0 t608 t609 from by exact IsS88.now HI574.out) (rm HO_8.out) (by decide)) hk (fun _ h=>h.2)) (fun _ h=>h.1));replace BK573:=kk BK573 hk NB573_574;replace BK579:=kk BK579 hk NB579_574;replace HB:=ak hb;replace HI574:=ak hi;(try clear hb);(try clear hk);(try clear hi);have p42:0≤(0:Int):=(by omega);have q42: (0:Int)<((x8_25.length:Int):Int):=od;have qi42: (0<x8_25.length)=True:=eq_true (by omega);obtain⟨go42,co42,eo42,gb42,gl42,cl42,HG42⟩:=R_form HO_8.out (by omega);(first|cases eo42|(injection eo42 with ea_ en_ ec_;(first|subst ea_|(injection ea_ with ea_;subst ea_));subst ec_;clear en_));have GB42:=Aside0.mk gb42;clear gb42 gl42 HG42;obtain⟨hx42_0,hf42_0⟩:=R_celln 0 HO_8.out (0:Int) p42 q42;(try rw[show((0:Int)).toNat=0 from rfl]at hx42_0);(try simp only[Nat.reduceMul,Nat.zero_mul,Nat.zero_add,Nat.reduceAdd]at hx42_0);(try rw[show((0:Int)).toNat=0 from rfl]at hf42_0);(try simp only[Nat.reduceMul,Nat.zero_mul,Nat.zero_add,Nat.reduceAdd]at hf42_0);replace p42:=eq_true p42;replace q42:=eq_true q42;obtain⟨hy49_,hz49_⟩:=R_celln 0 HO_8.out (0:Int) (by omega) (od);(try simp only[Int.reduceToNat,Int.toNat_zero,Int.toNat_ofNat,Nat.reduceMul,Nat.zero_mul,Nat.zero_add]at hy49_ hz49_);(try rw[show((0:Int)).toNat=0 from rfl]at hy49_);(try rw[show((0:Int)).toNat=0 from rfl]at hz49_);have HP49:=R_putg HO_8.out (0:Int) t610)|((with_reducible refine gate_store (t:=3) (p:=62) rfl ?_);refine store_event (t:=3) (p:=62) (v:=?vo_w50) (w1:=(w48.setCell ⟨go42,(0:Int).toNat,none⟩ (.int .i64 t610))) ?hg ?ho ?hn ?hr ?_;(case ho=>rfl);(case hg=>rfl);(case hn=>rfl);(case hr=>first|(go_simp;done)|(go_simp;rfl));intro w50 hw;have hg:w48.grownBy w50 (some go42):=(by rw[hw];exact HP49.2);have hp_:Kd.R (Kd.int .i64) 3 w50 w.heap.size (fun _=>True) (.slice (some ⟨go42,0,none⟩) x8_25.length co43) y613:=(by rw[hw,Ny613.out];exact HP49.1);clear HP49;replace HO_7:=ak (R_over' (v:=(.slice (some ⟨go42,0,none⟩) x8_25.length co43)) (rm HO_7.out) (R_typed HO_8.out) (by decide) hg);replace BK573:=ak (blk_grown (g:=gb573) (o:=.cells #[.int .i64 0,.bool false] 27 (0,0)) (bm BK573.out) hg (R_ne HO_8.out BK573.out (by decide)));replace BK579:=ak (blk_grown (g:=gb579) (o:=.cells #[.int .i64 t575,.bool t576] 27 (0,0)) (bm BK579.out) hg (R_ne HO_8.out BK579.out (by decide)));replace HI574:=ak (IsS88.grown (show IsS88 w _ gb574 l0 t611 t612 from by exact IsS88.now HI574.out) hg (IsS88.own_ne HI574.out HO_8.out (by decide)));replace HO_8:=ak hp_;replace HB:=ak ((by rw[hw];exact below_set (HB.out) GB42.out:Below w.heap.size w w50));clear hg hw hp_;have hcz51_0:=bc BK579 0 rfl;have hcz51_1:=bc BK579 1 rfl;have hcz53_0:=bc BK573 0 rfl;have hcz53_1:=bc BK573 1 rfl;have hfz53_0:=bf BK573 0;have hfz53_1:=bf BK573 1))
 refine bodyPost_ret (results_ctt rfl _ _ gb573 27 #[.int .i64 t575,.bool t576] (0,0) _ rfl (by(with_reducible repeat(first|apply blk_drewN|apply blk_drew|apply blk_alloc));refine blk_put (cs:=#[.int .i64 t575,.bool false]) ?_ 1 _ rfl;(with_reducible repeat(first|apply blk_drewN|apply blk_drew|apply blk_alloc));refine blk_put (cs:=#[.int .i64 0,.bool false]) ?_ 0 _ rfl;exact bm BK573.out) Try.underlying27 rfl (by kernel_rfl)) rfl ?_
 exact⟨_,_,fe,by(with_reducible repeat(first|apply R_alloc|apply R_drewN|apply R_drew));exact R_mono (R_far (p:=⟨gb573,1,none⟩) (R_far (p:=⟨gb573,0,none⟩) (R_types HO_7.out BK573.out (by decide)) (fun _ hk=>hk.2) (.int .i64 t575)) (fun _ hk=>hk.2) (.bool t576)) (fun _ hk=>trivial),by(with_reducible repeat(first|apply R_alloc|apply R_drewN|apply R_drew));exact R_mono (R_far (p:=⟨gb573,1,none⟩) (R_far (p:=⟨gb573,0,none⟩) (R_types HO_8.out BK573.out (by decide)) (fun _ hk=>hk.2) (.int .i64 t575)) (fun _ hk=>hk.2) (.bool t576)) (fun _ hk=>trivial),h3 HB.out (IsS88.ge HI574.out) GE573.out GE579.out⟩
def laws_vCut.f (l0:List Int) (a1:Int):Option (List Int):=if a1>(l0.length:Int)then((some (([]:List Int):List Int)).bind fun y614=>(if 0≤(l0.length:Int)then(if(l0.length:Int)≤(l0.length:Int)then(if y614.length+(l0.drop ((l0.length:Int):Int).toNat).length<140737488355328 then((some (y614++(l0.drop ((l0.length:Int):Int).toNat):List Int)).bind fun y618=>(if y618.length<140737488355328 then(some (y618++[((l0.length:Int)) % 256]))else(none)))else(none))else(none))else(none)))else((some (([]:List Int):List Int)).bind fun y624=>(if 0≤a1 then(if a1≤(l0.length:Int)then(if y624.length+(l0.drop (a1:Int).toNat).length<140737488355328 then((some (y624++(l0.drop (a1:Int).toNat):List Int)).bind fun y628=>(if y628.length<140737488355328 then(some (y628++[(a1) % 256]))else(none)))else(none))else(none))else(none)))
set_option maxHeartbeats 8000000 in
set_option maxRecDepth 100000 in
theorem laws_vCut.calls (A0:Option Addr) (c0:Nat) (l0:List Int) (a1:Int) (r:List Int) (w:World) (hr0:Kd.C (Kd.int .u8) w A0 l0.length l0) (hc0:l0.length≤c0) (h:laws_vCut.f l0 a1=some r):
  Calls Try.prog 35 #[.slice A0 l0.length c0,.int .i64 a1] w fun e w'=>∃ v0_:Value,e= .returned (v0_)∧Kd.R (Kd.int .u8) 5 w' w.heap.size (fun _=>True) v0_ r∧Below w.heap.size w w':=by
 have HR0:=Aside0.mk hr0
 have HC0:=Aside0.mk hc0
 clear hr0 hc0
 have HB:=Aside0.mk (Below.refl w.heap.size w)
 unfold laws_vCut.f at h
 have H:=h
 clear h
 by_cases c3:a1>(l0.length:Int)
 rotate_left
 ·rw[if_neg c3]at H
  have c3b0:decide ((l0.length:Int)<a1)=false:=decide_eq_false c3
  clear c3
  obtain⟨y624,hy624⟩:∃ y_:List Int,y_=(([]:List Int)):=⟨_,rfl⟩
  replace H: (if 0≤a1 then(if a1≤(l0.length:Int)then(if y624.length+(l0.drop (a1:Int).toNat).length<140737488355328 then((some (y624++(l0.drop (a1:Int).toNat):List Int)).bind fun y628=>(if y628.length<140737488355328 then(some (y628++[(a1) % 256]))else(none)))else(none))else(none))else(none))=some r:=by subst hy624;first|(with_reducible exact H)|exact H
  have Ny624:=Aside0.mk hy624
  clear hy624
  obtain⟨c13,H⟩:=gi H
  have c13b1:decide (0≤a1)=true:=decide_eq_true c13
  clear c13
  obtain⟨c14,H⟩:=gi H
  have c14b1:decide (a1≤(l0.length:Int))=true:=decide_eq_true c14
  clear c14
  obtain⟨c15,H⟩:=gi H
  have LMc15:=Aside0.mk c15
  clear c15
  obtain⟨y628,hy628⟩:∃ y_:List Int,y_=(y624++(l0.drop (a1:Int).toNat)):=⟨_,rfl⟩
  replace H: (if y628.length<140737488355328 then(some (y628++[(a1) % 256]))else(none))=some r:=by subst hy628;first|(with_reducible exact H)|exact H
  have Ny628:=Aside0.mk hy628
  clear hy628
  obtain⟨c16,H⟩:=gi H
  have LMc16:=Aside0.mk c16
  clear c16
  generalize hy631: (y628++[(a1) % 256]:List Int)=y631 at H
  have Ny631:=ak hy631.symm
  clear hy631
  obtain rfl:=Option.some.inj H
  go_enter Try.func35,Try.ntmps35
  go_wp2_with (first|((with_reducible refine gate_dst (N:=11) rfl ?_);refine R_lit (Kd.int .u8) _ 5 ?hg (N:=11) ?hd (xs:=([]:List Int)) (inner:=[]) (ok:=fun _=>True) (okp:=fun _=>True) ?hr ?hp (fun _ hk=>hk) trivial (Below.refl _ _) (Nat.le_refl _) (by simp) ?_;(case hd=>rfl);(case hg=>rfl);(case hr=>first|(go_simp;done)|(go_simp;rfl));(case hp=>exact(Reps.none _ _));intro v625 w17 ho18 hb hg_ hnew_;clear hg_ hnew_;(first|rw[←Ny624.out]at ho18|(simp only[Int.reduceToNat]at ho18;rw[←Ny624.out]at ho18));have HO626:=ak (R_lower ho18 (below_size (hm HB.out)));replace HB:=bs HB hb;clear hb ho18;obtain⟨i019,hi019,_,hsz19,_⟩:=info_parts info5;obtain⟨A19,hcut19,hA19,hC19⟩:=print_drop_of (P:=Try.prog) (Value.int .u8) 0 48 5 .i64 Try.underlying48 hi019 hsz19 A0 c0 l0 a1 (od) (od) HC0.out;have HR627:=Aside0.mk (C_of_reads (h1:=fun _=>rfl) (hA19 _ (Kd.reads_of_C HR0.out)));clear hA19 hC19 hi019 hsz19)|((with_reducible refine gate_builtin (b:=.append) (xs:=#[.tmp 11,.tmp 14]) rfl ?_);at_builtin;refine R_append_rows (Kd.int .u8) (w0:=w) w.heap.size rfl (.tmp 11) (.tmp 14) 48 5 (.int .u8 0) 1 rfl Try.underlying48 info5 rfl (by decide) (by omega) v625 y624 (l0.drop (a1:Int).toNat) _ _ _ (fun _=>True) (fun _=>False) rfl rfl ?aO ?aR (fun _ _ h=>h) (fun _ h=>h.elim) ?aF ?aB ?aS ?aL ?_;(case aR=>first|(rw[←show(l0.drop (a1:Int).toNat).length=(l0.length-a1.toNat)from List.length_drop];exact cm (C_below HR627.out HB.out))|(exact cm (C_below HR627.out HB.out)));(case aB=>exact(hm HB.out));(case aF=>exact(fun _ _=>trivial));(case aO=>exact(rm HO626.out));(case aS=>exact(below_size (hm HB.out)));(case aL=>have:=LMc15.out;have hlx_:=(show(l0.drop (a1:Int).toNat).length=(l0.length-a1.toNat)from List.length_drop);omega);intro v629 w20 ho hb hg hat;rw[←Ny628.out]at ho;replace HB:=ak hb;have HO630:=ak ho;clear HO626;clear ho hb hg hat)|((with_reducible refine gate_builtin (b:=.append) (xs:=#[.tmp 15,.tmp 18]) rfl ?_);at_builtin;refine R_append (Kd.int .u8) (w0:=w) w.heap.size rfl (.tmp 15) (.tmp 18) 48 5 (.int .u8 0) 1 rfl Try.underlying48 info5 rfl (by decide) (by omega) v629 y628 ((a1) % 256) [.int .u8 ((a1) % 256)] (fun _=>True) (fun _=>False) rfl rfl ?aP (fun _ hk=>hk.elim) ?aF ?aO ?aB ?aS ?aL ?_;(case aP=>exact rfl);(case aB=>exact(hm HB.out));(case aF=>exact(fun _ _=>trivial));(case aO=>exact(rm HO630.out));(case aS=>exact(below_size (hm HB.out)));(case aL=>have:=LMc16.out;omega);intro v632 w21 ho hb hg hat;rw[←Ny631.out]at ho;replace HB:=ak hb;have HO633:=ak ho;clear HO630;clear ho hb hg hat))
  go_ret
  exact⟨_,fe,rm HO633.out,hm HB.out⟩
 rw[if_pos c3]at H
 have c3b0:decide ((l0.length:Int)<a1)=true:=decide_eq_true c3
 clear c3
 obtain⟨y614,hy614⟩:∃ y_:List Int,y_=(([]:List Int)):=⟨_,rfl⟩
 replace H: (if 0≤(l0.length:Int)then(if(l0.length:Int)≤(l0.length:Int)then(if y614.length+(l0.drop ((l0.length:Int):Int).toNat).length<140737488355328 then((some (y614++(l0.drop ((l0.length:Int):Int).toNat):List Int)).bind fun y618=>(if y618.length<140737488355328 then(some (y618++[((l0.length:Int)) % 256]))else(none)))else(none))else(none))else(none))=some r:=by subst hy614;first|(with_reducible exact H)|exact H
 have Ny614:=Aside0.mk hy614
 clear hy614
 obtain⟨c4,H⟩:=gi H
 have c4b1:decide (0≤(l0.length:Int))=true:=decide_eq_true c4
 clear c4
 obtain⟨c5,H⟩:=gi H
 have c5b1:decide ((l0.length:Int)≤(l0.length:Int))=true:=decide_eq_true c5
 clear c5
 obtain⟨c6,H⟩:=gi H
 have LMc6:=Aside0.mk c6
 clear c6
 obtain⟨y618,hy618⟩:∃ y_:List Int,y_=(y614++(l0.drop ((l0.length:Int):Int).toNat)):=⟨_,rfl⟩
 replace H: (if y618.length<140737488355328 then(some (y618++[((l0.length:Int)) % 256]))else(none))=some r:=by subst hy618;first|(with_reducible exact H)|exact H
 have Ny618:=Aside0.mk hy618
 clear hy618
 obtain⟨c7,H⟩:=gi H
 have LMc7:=Aside0.mk c7
 clear c7
 generalize hy621: (y618++[((l0.length:Int)) % 256]:List Int)=y621 at H
 have Ny621:=ak hy621.symm
 clear hy621
 obtain rfl:=Option.some.inj H
 go_enter Try.func35,Try.ntmps35
 go_wp2_with (first|((with_reducible refine gate_dst (N:=11) rfl ?_);refine R_lit (Kd.int .u8) _ 5 ?hg (N:=11) ?hd (xs:=([]:List Int)) (inner:=[]) (ok:=fun _=>True) (okp:=fun _=>True) ?hr ?hp (fun _ hk=>hk) trivial (Below.refl _ _) (Nat.le_refl _) (by simp) ?_;(case hd=>rfl);(case hg=>rfl);(case hr=>first|(go_simp;done)|(go_simp;rfl));(case hp=>exact(Reps.none _ _));intro v615 w8 ho9 hb hg_ hnew_;clear hg_ hnew_;(first|rw[←Ny614.out]at ho9|(simp only[Int.reduceToNat]at ho9;rw[←Ny614.out]at ho9));have HO616:=ak (R_lower ho9 (below_size (hm HB.out)));replace HB:=bs HB hb;clear hb ho9;obtain⟨i010,hi010,_,hsz10,_⟩:=info_parts info5;obtain⟨A10,hcut10,hA10,hC10⟩:=print_drop_of (P:=Try.prog) (Value.int .u8) 0 48 5 .i64 Try.underlying48 hi010 hsz10 A0 c0 l0 (l0.length:Int) (od) (od) HC0.out;have HR617:=Aside0.mk (C_of_reads (h1:=fun _=>rfl) (hA10 _ (Kd.reads_of_C HR0.out)));clear hA10 hC10 hi010 hsz10)|((with_reducible refine gate_builtin (b:=.append) (xs:=#[.tmp 11,.tmp 14]) rfl ?_);at_builtin;refine R_append_rows (Kd.int .u8) (w0:=w) w.heap.size rfl (.tmp 11) (.tmp 14) 48 5 (.int .u8 0) 1 rfl Try.underlying48 info5 rfl (by decide) (by omega) v615 y614 (l0.drop ((l0.length:Int):Int).toNat) _ _ _ (fun _=>True) (fun _=>False) rfl rfl ?aO ?aR (fun _ _ h=>h) (fun _ h=>h.elim) ?aF ?aB ?aS ?aL ?_;(case aR=>first|(rw[←show(l0.drop ((l0.length:Int):Int).toNat).length=(l0.length-(l0.length:Int).toNat)from List.length_drop];exact cm (C_below HR617.out HB.out))|(exact cm (C_below HR617.out HB.out))|(refine Eq.mp (congrArg (fun m_=>ReadsRow _ _ _ _ m_ _) (show(l0.drop ((l0.length:Int):Int).toNat).length=0 from by simp)) ?_;(exact cm (C_below HR617.out HB.out))));(case aB=>exact(hm HB.out));(case aF=>exact(fun _ _=>trivial));(case aO=>exact(rm HO616.out));(case aS=>exact(below_size (hm HB.out)));(case aL=>have:=LMc6.out;have hlx_:=(show(l0.drop ((l0.length:Int):Int).toNat).length=(l0.length-(l0.length:Int).toNat)from List.length_drop);omega);intro v619 w11 ho hb hg hat;rw[←Ny618.out]at ho;replace HB:=ak hb;have HO620:=ak ho;clear HO616;clear ho hb hg hat)|((with_reducible refine gate_builtin (b:=.append) (xs:=#[.tmp 15,.tmp 18]) rfl ?_);at_builtin;refine R_append (Kd.int .u8) (w0:=w) w.heap.size rfl (.tmp 15) (.tmp 18) 48 5 (.int .u8 0) 1 rfl Try.underlying48 info5 rfl (by decide) (by omega) v619 y618 (((l0.length:Int)) % 256) [.int .u8 (((l0.length:Int)) % 256)] (fun _=>True) (fun _=>False) rfl rfl ?aP (fun _ hk=>hk.elim) ?aF ?aO ?aB ?aS ?aL ?_;(case aP=>exact rfl);(case aB=>exact(hm HB.out));(case aF=>exact(fun _ _=>trivial));(case aO=>exact(rm HO620.out));(case aS=>exact(below_size (hm HB.out)));(case aL=>have:=LMc7.out;omega);intro v622 w12 ho hb hg hat;rw[←Ny621.out]at ho;replace HB:=ak hb;have HO623:=ak ho;clear HO620;clear ho hb hg hat))
 go_ret
 exact⟨_,fe,rm HO623.out,hm HB.out⟩
def spec_DrawEvenPlaces.f (l0:List Int):Option (Int × Bool × Int):=(spec_l1Cur_line9.f l0 0 0).bind fun bt636=>((some (([1,2,0,3,12,13,(-1)]:List Int):List Int)).bind fun y640=>((spec_l1Cur_pick.f l0 bt636.2.2.1 bt636.2.2.2 24).bind fun bt643=>(if 0≤(wrap64 (4+(wrap64 (Int.tdiv bt643.1 8))))then(if(wrap64 (4+(wrap64 (Int.tdiv bt643.1 8))))≤(y640.length:Int)then((spec_l1Cur_among.f l0 bt643.2.1 bt643.2.2 (y640.take ((wrap64 (4+(wrap64 (Int.tdiv bt643.1 8)))):Int).toNat)).bind fun bt650=>(some (bt636.1,bt636.2.1,bt650.1)))else(none))else(none))))
set_option maxHeartbeats 8000000 in
set_option maxRecDepth 100000 in
theorem spec_DrawEvenPlaces.calls (A0:Option Addr) (c0:Nat) (l0:List Int) (r1:Int) (r2:Bool) (r3:Int) (w:World) (hr0:Kd.C (Kd.int .u8) w A0 l0.length l0) (hc0:l0.length≤c0) (h:spec_DrawEvenPlaces.f l0=some (r1,r2,r3)):
  Calls Try.prog 36 #[.slice A0 l0.length c0] w fun e w'=>e= .returned (.tuple #[.agg #[.int .i64 r1,.bool r2],.int .i64 r3])∧Below w.heap.size w w':=by
 have HR0:=Aside0.mk hr0
 clear hr0 hc0
 have HB:=Aside0.mk (Below.refl w.heap.size w)
 unfold spec_DrawEvenPlaces.f at h
 have H:=h
 clear h
 obtain⟨⟨t636,t637,t638,t639⟩,A2,H⟩:=bd H;(try dsimp only at H)
 obtain⟨y640,hy640⟩:∃ y_:List Int,y_=(([1,2,0,3,12,13,(-1)]:List Int)):=⟨_,rfl⟩
 replace H: ((spec_l1Cur_pick.f l0 t638 t639 24).bind fun bt643=>(if 0≤(wrap64 (4+(wrap64 (Int.tdiv bt643.1 8))))then(if(wrap64 (4+(wrap64 (Int.tdiv bt643.1 8))))≤(y640.length:Int)then((spec_l1Cur_among.f l0 bt643.2.1 bt643.2.2 (y640.take ((wrap64 (4+(wrap64 (Int.tdiv bt643.1 8)))):Int).toNat)).bind fun bt650=>(some (t636,t637,bt650.1)))else(none))else(none)))=some (r1,r2,r3):=by subst hy640;first|(with_reducible exact H)|exact H
 have Ny640:=Aside0.mk hy640
 clear hy640
 obtain⟨⟨t643,t644,t645⟩,A3,H⟩:=bd H;(try dsimp only at H)
 generalize hji4: (wrap64 (4+(wrap64 (Int.tdiv t643 8))))=ji4 at H
 (try rw[hji4]at A2)
 (try rw[hji4]at A3)
 have hji4w: (IntKind.i64.wrap (4+(wrap64 (Int.tdiv t643 8))))=ji4:=(i64_w _).trans hji4
 obtain⟨c5,H⟩:=gi H
 have c5b1:decide (0≤(ji4))=true:=decide_eq_true c5
 clear c5
 obtain⟨c6,H⟩:=gi H
 have c6b1:decide ((ji4)≤(y640.length:Int))=true:=decide_eq_true c6
 clear c6
 generalize hy646: (y640.take ((ji4):Int).toNat:List Int)=y646 at H
 have Ny646:=ak hy646.symm
 clear hy646
 obtain⟨⟨t650,t651,t652⟩,A7,H⟩:=bd H;(try dsimp only at H)
 simp only[Option.some.injEq,Prod.mk.injEq]at H
 obtain⟨rfl,rfl,rfl⟩:=H
 go_enter Try.func36,Try.ntmps36
 go_wp2_with (first|(refine bx 2 #[.int .i64 0,.bool false] 27 ?_;intro gb634 hg w8 hbox hb;have BK634:=ak hbox;have GE634:=gw HB hg;replace HB:=bs HB hb;clear hb hbox hg)|(refine bx 7 #[.slice A0 l0.length c0,.int .i64 0,.int .u64 0] 88 ?_;intro gb635 hg w9 hbox hb;have NB634_635:=nl BK634 hg;have NB635_634:=ng BK634 hg;replace BK634:=kb BK634 hb;have HI635:=ak ((⟨_,_,hbox,(by rw[hg];exact(below_size (h1 HB.out GE634.out)):w.heap.size≤gb635),HR0.out⟩:IsS88 w w9 gb635 l0 0 0));replace HB:=ak (below_step (h1 HB.out GE634.out) hb);clear hb hbox hg)|(refine gs 9 Try.func68 #[.pointer (some ⟨gb635,0,none⟩)] ?_;(with_reducible refine(spec_l1Cur_line9.calls gb635 l0 0 0 t636 t637 t638 t639 w _ ?side1 ?side2 A2.out).mono ?_);(case side1=>exact IsS88.now HI635.out);(case side2=>exact h2 HB.out (IsS88.ge HI635.out) GE634.out);rintro e w10 ⟨rfl,hi,hb,hk⟩;refine⟨_,rfl,?_⟩;replace BK634:=kk BK634 hk NB634_635;replace HB:=ak hb;replace HI635:=ak hi;(try clear hb);(try clear hk);(try clear hi))|((with_reducible refine gate_dst (N:=11) rfl ?_);refine R_lit (Kd.int .i64) _ 3 ?hg (N:=11) ?hd (xs:=([1,2,0,3,12,13,(-1)]:List Int)) (inner:=[.int .i64 1,.int .i64 2,.int .i64 0,.int .i64 3,.int .i64 12,.int .i64 13,.int .i64 (-1)]) (ok:=fun _=>True) (okp:=fun _=>True) ?hr ?hp (fun _ hk=>hk) trivial (Below.refl _ _) (Nat.le_refl _) (by simp) ?_;(case hd=>rfl);(case hg=>rfl);(case hr=>first|(go_simp;done)|(go_simp;rfl));(case hp=>exact(Reps.one (show Kd.M (Kd.int .i64) _ _ _ 1 [.int .i64 1]from rfl) (Reps.one (show Kd.M (Kd.int .i64) _ _ _ 2 [.int .i64 2]from rfl) (Reps.one (show Kd.M (Kd.int .i64) _ _ _ 0 [.int .i64 0]from rfl) (Reps.one (show Kd.M (Kd.int .i64) _ _ _ 3 [.int .i64 3]from rfl) (Reps.one (show Kd.M (Kd.int .i64) _ _ _ 12 [.int .i64 12]from rfl) (Reps.one (show Kd.M (Kd.int .i64) _ _ _ 13 [.int .i64 13]from rfl) (Reps.one (show Kd.M (Kd.int .i64) _ _ _ (-1) [.int .i64 (-1)]from rfl) (Reps.none _ _)))))))));intro v641 w11 ho12 hb hg_ hnew_;clear hg_ hnew_;(first|rw[←Ny640.out]at ho12|(simp only[Int.reduceToNat]at ho12;rw[←Ny640.out]at ho12));have HO642:=ak (R_lower ho12 (below_size (h2 HB.out (IsS88.ge HI635.out) GE634.out)));replace BK634:=kb BK634 hb;replace HB:=ak (below_step (h2 HB.out (IsS88.ge HI635.out) GE634.out) hb);replace HI635:=ak (IsS88.below (by exact IsS88.now HI635.out) hb);clear hb ho12)|(refine gs 13 Try.func71 #[.pointer (some ⟨gb635,0,none⟩),.int .i64 24] ?_;(with_reducible refine(spec_l1Cur_pick.calls gb635 l0 t638 t639 24 t643 t644 t645 w _ ?side1 ?side2 A3.out).mono ?_);(case side1=>exact IsS88.now HI635.out);(case side2=>exact h2 HB.out (IsS88.ge HI635.out) GE634.out);rintro e w13 ⟨rfl,hi,hb,hk⟩;refine⟨_,rfl,?_⟩;replace BK634:=kk BK634 hk NB634_635;replace HO642:=ak (R_mono (R_keep (IsS88.apart (show IsS88 w _ gb635 l0 t638 t639 from by exact IsS88.now HI635.out) (rm HO642.out) (by decide)) hk (fun _ h=>h.2)) (fun _ h=>h.1));replace HB:=ak hb;replace HI635:=ak hi;(try clear hb);(try clear hk);(try clear hi);obtain⟨Ao15,co15,eo15⟩:=R_slice HO642.out;subst eo15;have q14: ((ji4):Int)≤((y640.length:Int):Int):=od;obtain⟨i014,hi014,_,hsz14,_⟩:=info_parts info3;have hroom14:y640.length≤co15:=(R_reads' HO642.out).2.1;have hC14:Kd.C (Kd.int .i64) _ Ao15 y640.length y640:=(R_reads' HO642.out).2.2;have hcut14:=cut_to (P:=Try.prog) 24 3 .i64 Try.underlying24 hi014 Ao15 y640.length co15 (ji4) (od) q14 hroom14;have hr14:=C_take (m:=((ji4):Int).toNat) hC14 (by omega);have hy14:y646.length=((ji4):Int).toNat:=(by rw[Ny646.out,List.length_take];omega);rw[←Ny646.out]at hr14;rw[←hy14]at hcut14;have HR649:=Aside0.mk hr14;have HC649:=Aside0.mk (show y646.length≤co15 from by omega);clear hr14 hC14 hroom14 hi014 hsz14;clear hy14;replace q14:=eq_true q14)|(refine gs 17 Try.func70 #[.pointer (some ⟨gb635,0,none⟩),.slice Ao15 y646.length co15] ?_;(with_reducible refine(spec_l1Cur_among.calls gb635 l0 t644 t645 _ _ y646 t650 t651 t652 w _ ?side1 ?side2 ?side3 ?side4 ?side5 A7.out).mono ?_);(case side1=>exact IsS88.now HI635.out);(case side2=>exact h2 HB.out (IsS88.ge HI635.out) GE634.out);(case side3=>repeat(first|exact(by repeat(first|(with_reducible exact HR649.out)|(with_reducible refine C_alloc ?_ _)|(with_reducible refine C_drewN ?_ _)|(with_reducible refine C_drew ?_)|exact HR649.out))|(with_reducible refine C_alloc ?_ _)|(with_reducible refine C_drewN ?_ _)|(with_reducible refine C_drew ?_)));(case side4=>exact HC649.out);(case side5=>exact far_cut (IsS88.own_ne HI635.out HO642.out (by decide)));rintro e w16 ⟨rfl,hi,hb,hk⟩;refine⟨_,rfl,?_⟩;replace BK634:=kk BK634 hk NB634_635;replace HO642:=ak (R_mono (R_keep (IsS88.apart (show IsS88 w _ gb635 l0 t644 t645 from by exact IsS88.now HI635.out) (rm HO642.out) (by decide)) hk (fun _ h=>h.2)) (fun _ h=>h.1));replace HB:=ak hb;replace HI635:=ak hi;(try clear hb);(try clear hk);(try clear hi);have hcz18_0:=bc BK634 0 rfl;have hcz18_1:=bc BK634 1 rfl;have hfz18_0:=bf BK634 0;have hfz18_1:=bf BK634 1))
 refine bodyPost_ret (results_ct rfl _ _ gb634 27 #[.int .i64 t636,.bool t637] (0,0) _ rfl (by(with_reducible repeat(first|apply blk_drewN|apply blk_drew|apply blk_alloc));refine blk_put (cs:=#[.int .i64 t636,.bool false]) ?_ 1 _ rfl;(with_reducible repeat(first|apply blk_drewN|apply blk_drew|apply blk_alloc));refine blk_put (cs:=#[.int .i64 0,.bool false]) ?_ 0 _ rfl;exact bm BK634.out) Try.underlying27 rfl (by kernel_rfl)) rfl ?_
 exact⟨by first|rfl|(simp[errW_none,errW_some]<;>rfl)|(simp only[←hji4];first|rfl|(simp[errW_none,errW_some]<;>rfl))|(simp[*,errW_none,errW_some]<;>rfl),h2 HB.out (IsS88.ge HI635.out) GE634.out⟩
end
end Go.Proofs.Ytanfamfgdgcjpaa.QFnMoves
