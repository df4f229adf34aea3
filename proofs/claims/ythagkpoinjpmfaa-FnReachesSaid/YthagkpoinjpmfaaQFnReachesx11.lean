/- Functions that the law FnReaches comes to, and their walks: no condition but those named. -/
import Derived.Test.YthagkpoinjpmfaaQFnReachesx0
import Derived.Test.YthagkpoinjpmfaaQFnReachesx1
import Derived.Test.YthagkpoinjpmfaaQFnReachesx4
import Derived.Test.YthagkpoinjpmfaaQFnReachesx9
import Derived.Test.YthagkpoinjpmfaaQFnReachesx10
namespace Go.Proofs.Ythagkpoinjpmfaa.QFnReaches
open Go.RowKit Go.Proofs.YthagkpoinjpmfaaW.PrintWords Go.Proofs.YthagkpoinjpmfaaW.PrintLast Go.Proofs.YthagkpoinjpmfaaW.PrintMore Go.Proofs.Ythagkpoinjpmfaa.Short
attribute [local go_sem] max2_int min2_int max_two min_two max_three min_three max_four min_four
set_option linter.unusedVariables false
set_option linter.unusedSimpArgs false
section
open Kd
def spec_l1Cur_ask7.j0:Nat→List Int→Int→Int→Int→Bool→Option (Int × Bool × (List (S63))× Int × Int × Int × Int)
 | 0,_,_,_,_,_=>none
 | k+1,x1000,x1001,x1002,x443000,x443001=>(spec_l1Least.f x443000 24).bind fun t450=>((spec_l1Most.f 1 t450).bind fun t451=>((spec_l1Cur_pick.f x1000 x1001 x1002 t451).bind fun bt452=>((spec_l1Cur_pick.f x1000 bt452.2.1 bt452.2.2 (wrap64 (t451-bt452.1))).bind fun bt455=>((spec_l1Cur_one.f x1000 bt455.2.1 bt455.2.2 16).bind fun bt458=>(if bt458.1=true then((spec_l1Cur_placeOn.f x1000 bt458.2.1 bt458.2.2 x443000 x443001).bind fun bt461=>((spec_l1Cur_carriers7.f k x1000 bt461.2.1 bt461.2.2 x443000 x443001).bind fun bt464=>(some (x443000,x443001,bt464.1,bt452.1,bt461.1,bt464.2.1,bt464.2.2))))else((spec_l1Cur_carriers7.f k x1000 bt458.2.1 bt458.2.2 x443000 x443001).bind fun bt469=>(some (x443000,x443001,bt469.1,bt452.1,wrap64 (bt452.1+bt455.1),bt469.2.1,bt469.2.2))))))))
def spec_l1Cur_ask7.f (k:Nat) (s0_0:List Int) (s0_1:Int) (s0_2:Int):Option (Int × Bool × (List (S63))× Int × Int × Int × Int):=(spec_l1Cur_line.f s0_0 s0_1 s0_2).bind fun bt438=>((spec_l1Cur_one.f s0_0 bt438.2.2.1 bt438.2.2.2 24).bind fun bt443=>(if bt443.1=true then((spec_l1Cur_road.f s0_0 bt443.2.1 bt443.2.2).bind fun bt446=>(spec_l1Cur_ask7.j0 k s0_0 bt446.2.2.1 bt446.2.2.2 bt446.1 bt446.2.1))else(spec_l1Cur_ask7.j0 k s0_0 bt443.2.1 bt443.2.2 bt438.1 bt438.2.1)))
theorem spec_l1Cur_ask7.mono_l:∀ k,(∀ y0 y1 y2 y3 y4,LeO (spec_l1Cur_ask7.j0 k y0 y1 y2 y3 y4) (spec_l1Cur_ask7.j0 (k+1) y0 y1 y2 y3 y4))
 | 0=>by
  refine ?_<;>(intros;intro r h;simp[spec_l1Cur_ask7.j0]at h)
 | k+1=>by
  have ih0:=spec_l1Cur_ask7.mono_l k
  refine ?_<;>intros<;>unfold spec_l1Cur_ask7.j0<;>(repeat' (with_reducible first|exact ih0 ..|exact spec_l1Cur_carriers7.mono ..|exact LeO.refl _|exact LeO.none _|refine LeO.ite ?_ ?_|refine LeO.bind ?_ (fun _=>?_)))
theorem spec_l1Cur_ask7.mono:∀ a0 a1 a2 k,LeO (spec_l1Cur_ask7.f k a0 a1 a2) (spec_l1Cur_ask7.f (k+1) a0 a1 a2):=by
 intro a0 a1 a2 k
 have ih0:=spec_l1Cur_ask7.mono_l k
 unfold spec_l1Cur_ask7.f
 repeat' (with_reducible first|exact ih0 ..|exact spec_l1Cur_carriers7.mono ..|exact LeO.refl _|exact LeO.none _|refine LeO.ite ?_ ?_|refine LeO.bind ?_ (fun _=>?_))
def spec_l1Cur_ask7.T9:Bool × List (List Nat × List Nat):=(true,[([],[]),([],[]),([],[]),([1,2],[1,2]),([],[]),([],[]),([0,3,0],[0]),([3,6,0,1,2,3,6],[3]),([4,7,0,1,2,3,4,6,7],[4]),([5,8,0,1,2,3,4,5,6,7,8],[5])])
def spec_l1Cur_ask7.B9:List Nat:=[0,0,0,6,0,0,15,79,223,511]
theorem spec_l1Cur_ask7.tab9:rtab .any (opsOf Try.f73 9)=spec_l1Cur_ask7.T9:=by kernel_rfl
theorem spec_l1Cur_ask7.bits9:waitsOk spec_l1Cur_ask7.T9.2 spec_l1Cur_ask7.B9=true:=by kernel_rfl
set_option maxHeartbeats 8000000 in
set_option maxRecDepth 100000 in
theorem spec_l1Cur_ask7.calls (k:Nat) (g:Nat) (s0_0:List Int) (s0_1:Int) (s0_2:Int) (r1:Int) (r2:Bool) (r3:List (S63)) (r4:Int) (r5:Int) (r6:Int) (r7:Int) (w0 w:World) (hI:IsS95 w0 w g s0_0 s0_1 s0_2) (hB:Below w0.heap.size w0 w) (h:spec_l1Cur_ask7.f k s0_0 s0_1 s0_2=some (r1,r2,r3,r4,r5,r6,r7)):
  Calls Try.prog 73 #[.pointer (some ⟨g,0,none⟩)] w fun e w'=>∃ v2_:Value,e= .returned (.tuple #[.agg #[.int .i64 r1,.bool r2],v2_,.int .i64 r4,.int .i64 r5])∧Kd.R k63 63 w' w.heap.size (fun _=>True) v2_ r3∧IsS95 w0 w' g s0_0 r6 r7∧Below w0.heap.size w0 w'∧KeepBut w w' g none:=by
 have hu28:=Try.underlying28
 have HI0:=Aside0.mk hI
 have HK:=Aside0.mk (KeepBut.refl w g none)
 have HL:=Aside0.mk hB.size
 clear hI
 have HW0:=Aside0.mk hB.size
 have HB:=Aside0.mk hB
 clear hB
 unfold spec_l1Cur_ask7.f at h
 have H:=h
 clear h
 obtain⟨⟨t438,t439,t440,t441⟩,A2,H⟩:=bd H;(try dsimp only at H)
 obtain⟨⟨t443,t444,t445⟩,A3,H⟩:=bd H;(try dsimp only at H)
 have HC4:=Aside0.mk H
 clear H
 go_enter Try.func73,Try.ntmps73
 go_upto_if 13 with(first|(refine bx 2 #[.int .i64 0,.bool false] 28 ?_;intro gb437 hg w5 hbox hb;replace HB:=ak (below_step (h1 HB.out (IsS95.ge HI0.out)) hb);have BK437:=ak hbox;have GW437:=ak ((by rw[hg];exact(keep_size (w:=w) (g:=g) (row:=none) (kn HK.out)):w.heap.size≤gb437));have GE437:=ak ((Nat.le_trans HW0.out (by rw[hg];exact(keep_size (w:=w) (g:=g) (row:=none) (kn HK.out)):w.heap.size≤gb437):w0.heap.size≤gb437));replace HK:=ak (KeepBut.trans (kn HK.out) (KeepBut.of_below hb g none) (.inl rfl));have NB0_437:=ak ((by rw[hg];exact Nat.ne_of_lt (IsS95.lt (show IsS95 w0 _ g s0_0 s0_1 s0_2 from(IsS95.now HI0.out))):g≠gb437));have NB437_0:=ak ((by rw[hg];exact Nat.ne_of_gt (IsS95.lt (show IsS95 w0 _ g s0_0 s0_1 s0_2 from(IsS95.now HI0.out))):gb437≠g));replace HI0:=ak (IsS95.below (g:=g) (IsS95.now HI0.out) hb);clear hb hbox hg)|(refine gs 11 Try.func91 #[.pointer (some ⟨g,0,none⟩)] ?_;(with_reducible refine(spec_l1Cur_line.calls g s0_0 s0_1 s0_2 t438 t439 t440 t441 w0 _ ?side1 ?side2 A2.out).mono ?_);(case side1=>exact IsS95.now HI0.out);(case side2=>exact h2 HB.out (IsS95.ge HI0.out) GE437.out);rintro e w6 ⟨rfl,hi,hb,hk⟩;refine⟨_,rfl,?_⟩;replace BK437:=kk BK437 hk NB437_0;replace HK:=ak (KeepBut.trans (kn HK.out) hk (.inl rfl));replace HB:=ak hb;replace HI0:=ak hi;(try clear hb);(try clear hk);(try clear hi))|(refine bx 6 #[.int .i64 0,.bool false] 28 ?_;intro gb442 hg w7 hbox hb;replace HB:=ak (below_step (h2 HB.out (IsS95.ge HI0.out) GE437.out) hb);have BK442:=ak hbox;have GW442:=ak ((by rw[hg];exact(keep_size (w:=w) (g:=g) (row:=none) (kn HK.out)):w.heap.size≤gb442));have GE442:=ak ((Nat.le_trans HW0.out (by rw[hg];exact(keep_size (w:=w) (g:=g) (row:=none) (kn HK.out)):w.heap.size≤gb442):w0.heap.size≤gb442));replace HK:=ak (KeepBut.trans (kn HK.out) (KeepBut.of_below hb g none) (.inl rfl));have NB437_442:=nl BK437 hg;have NB442_437:=ng BK437 hg;replace BK437:=kb BK437 hb;have NB0_442:=ak ((by rw[hg];exact Nat.ne_of_lt (IsS95.lt (show IsS95 w0 _ g s0_0 t440 t441 from(IsS95.now HI0.out))):g≠gb442));have NB442_0:=ak ((by rw[hg];exact Nat.ne_of_gt (IsS95.lt (show IsS95 w0 _ g s0_0 t440 t441 from(IsS95.now HI0.out))):gb442≠g));replace HI0:=ak (IsS95.below (g:=g) (IsS95.now HI0.out) hb);clear hb hbox hg;have hnb8:=NB442_437.out;have hnc8:=NB437_442.out;have hnb9:=NB442_0.out;have hnc9:=NB0_442.out;have hcz10_0:=bc BK442 0 rfl;have hcz10_1:=bc BK442 1 rfl;have hfz10_0:=bf BK442 0;have hfz10_1:=bf BK442 1)|(refine gs 13 Try.func81 #[.pointer (some ⟨g,0,none⟩),.int .i64 24] ?_;(with_reducible refine(spec_l1Cur_one.calls g s0_0 t440 t441 24 t443 t444 t445 w0 _ ?side1 ?side2 A3.out).mono ?_);(case side1=>exact IsS95.now HI0.out);(case side2=>exact h3 HB.out (IsS95.ge HI0.out) GE437.out GE442.out);rintro e w11 ⟨rfl,hi,hb,hk⟩;refine⟨_,rfl,?_⟩;replace BK437:=ak (KeepBut.blk hk (g':=gb437) (o:=.cells #[.int .i64 0,.bool false] 28 (0,0)) (by(with_reducible repeat(first|apply blk_drewN|apply blk_drew|apply blk_alloc));refine blk_far ?_ NB437_442.out _;(with_reducible repeat(first|apply blk_drewN|apply blk_drew|apply blk_alloc));refine blk_far ?_ NB437_442.out _;exact bm BK437.out) NB437_0.out (by simp));replace BK442:=ak (KeepBut.blk hk (g':=gb442) (o:=.cells #[.int .i64 t438,.bool t439] 28 (0,0)) (by(with_reducible repeat(first|apply blk_drewN|apply blk_drew|apply blk_alloc));refine blk_put (cs:=#[.int .i64 t438,.bool false]) ?_ 1 _ rfl;(with_reducible repeat(first|apply blk_drewN|apply blk_drew|apply blk_alloc));refine blk_put (cs:=#[.int .i64 0,.bool false]) ?_ 0 _ rfl;exact bm BK442.out) NB442_0.out (by simp));replace HK:=ak (KeepBut.trans (kn HK.out) hk (.inl rfl));replace HB:=ak hb;replace HI0:=ak hi;(try clear hb);(try clear hk);(try clear hi)))
 (try simp only[ap])
 go_cut [] (fun wc=>∃ (kq:Nat) (x1001_3:Int) (x1002_3:Int) (x443000_3:Int) (x443001_3:Bool),Aside0 (spec_l1Cur_ask7.j0 kq s0_0 x1001_3 x1002_3 x443000_3 x443001_3=some (r1,r2,r3,r4,r5,r6,r7))∧Aside0 (kq≤k)∧Aside0 (wc.heap[gb437]? =some (.cells #[.int .i64 0,.bool false] 28 (0,0)))∧Aside0 (wc.heap[gb442]? =some (.cells #[.int .i64 x443000_3,.bool x443001_3] 28 (0,0)))∧Aside0 (IsS95 w0 wc g s0_0 x1001_3 x1002_3)∧Aside0 (KeepBut w wc g none)∧Aside0 (Below w0.heap.size w0 wc))
 case first=>
  have H:=HC4.out
  clear HC4
  by_cases c12:t443=true
  rotate_left
  ·replace c12:=Bool.eq_false_iff.mpr c12
   subst c12
   rw[if_neg (show ¬(false=true)by decide)]at H
   have H':=Aside0.mk H
   clear H
   go_wp2
   go_meet
   case rel=>exact⟨_,(t444),(t445),(t438),(t439),H',⟨by first|exact Nat.le_refl _|omega⟩,⟨bm BK437.out⟩,⟨bm BK442.out⟩,⟨(IsS95.now HI0.out)⟩,⟨(kn HK.out)⟩,⟨h3 HB.out (IsS95.ge HI0.out) GE437.out GE442.out⟩⟩
  subst c12
  rw[if_pos rfl]at H
  obtain⟨⟨t446,t447,t448,t449⟩,A13,H⟩:=bd H;(try dsimp only at H)
  have H':=Aside0.mk H
  clear H
  go_wp2_with (first|(refine gs 15 Try.func107 #[.pointer (some ⟨g,0,none⟩)] ?_;(with_reducible refine(spec_l1Cur_road.calls g s0_0 t444 t445 t446 t447 t448 t449 w0 _ ?side1 ?side2 A13.out).mono ?_);(case side1=>exact IsS95.now HI0.out);(case side2=>exact h3 HB.out (IsS95.ge HI0.out) GE437.out GE442.out);rintro e w14 ⟨rfl,hi,hb,hk⟩;refine⟨_,rfl,?_⟩;replace BK437:=kk BK437 hk NB437_0;replace BK442:=kk BK442 hk NB442_0;replace HK:=ak (KeepBut.trans (kn HK.out) hk (.inl rfl));replace HB:=ak hb;replace HI0:=ak hi;(try clear hb);(try clear hk);(try clear hi);have hnb15:=NB442_437.out;have hnc15:=NB437_442.out;have hnb16:=NB442_0.out;have hnc16:=NB0_442.out;have hcz17_0:=bc BK442 0 rfl;have hcz17_1:=bc BK442 1 rfl;have hfz17_0:=bf BK442 0;have hfz17_1:=bf BK442 1))
  go_meet
  case rel=>exact⟨_,(t448),(t449),(t446),(t447),H',⟨by first|exact Nat.le_refl _|omega⟩,⟨by(with_reducible repeat(first|apply blk_drewN|apply blk_drew|apply blk_alloc));refine blk_far ?_ NB437_442.out _;(with_reducible repeat(first|apply blk_drewN|apply blk_drew|apply blk_alloc));refine blk_far ?_ NB437_442.out _;exact bm BK437.out⟩,⟨by(with_reducible repeat(first|apply blk_drewN|apply blk_drew|apply blk_alloc));refine blk_put (cs:=#[.int .i64 t446,.bool t439]) ?_ 1 _ rfl;(with_reducible repeat(first|apply blk_drewN|apply blk_drew|apply blk_alloc));refine blk_put (cs:=#[.int .i64 t438,.bool t439]) ?_ 0 _ rfl;exact bm BK442.out⟩,⟨(IsS95.now HI0.out)⟩,⟨(kn HK.out)⟩,⟨h3 HB.out (IsS95.ge HI0.out) GE437.out GE442.out⟩⟩
 clear HC4
 try clear c1
 try clear p2
 try clear c7
 try clear c8
 try clear c9
 try clear c10
 try clear c12
 try clear c15
 try clear c16
 try clear hcz10_0
 try clear hcz10_1
 try clear hcz17_0
 try clear hcz17_1
 try clear hfz10_0
 try clear hfz10_1
 try clear hfz17_0
 try clear hfz17_1
 obtain⟨kq,x1001_3,x1002_3,x443000_3,x443001_3,HA,HJ3,BK437,BK442,HI0,HK,HB⟩:=hcut
 obtain _|kj3:=kq;·cases HA.out
 obtain⟨H⟩:=HA
 simp only[spec_l1Cur_ask7.j0]at H
 obtain⟨t450,A18,H⟩:=bd H;(try dsimp only at H)
 obtain⟨t451,A19,H⟩:=bd H;(try dsimp only at H)
 obtain⟨⟨t452,t453,t454⟩,A20,H⟩:=bd H;(try dsimp only at H)
 obtain⟨⟨t455,t456,t457⟩,A21,H⟩:=bd H;(try dsimp only at H)
 obtain⟨⟨t458,t459,t460⟩,A22,H⟩:=bd H;(try dsimp only at H)
 by_cases c23:t458=true
 rotate_left
 ·replace c23:=Bool.eq_false_iff.mpr c23
  subst c23
  rw[if_neg (show ¬(false=true)by decide)]at H
  obtain⟨⟨t469,t472,t473⟩,A38,H⟩:=bd H;(try dsimp only at H)
  simp only[Option.some.injEq,Prod.mk.injEq]at H
  obtain⟨rfl,rfl,rfl,rfl,rfl,rfl,rfl⟩:=H
  have hnb39:=NB442_437.out
  have hnc39:=NB437_442.out
  have hnb40:=NB442_0.out
  have hnc40:=NB0_442.out
  have hcz41_0:=bc BK442 0 rfl
  have hcz41_1:=bc BK442 1 rfl
  have hfz41_0:=bf BK442 0
  have hfz41_1:=bf BK442 1
  try go_wp2_with (first|(refine gs 18 Try.func108 #[.int .i64 x443000_3,.int .i64 24] ?_;(with_reducible refine(spec_l1Least.calls x443000_3 24 t450 _ A18.out).mono ?_);rintro e w' ⟨rfl,⟨nd,rfl⟩⟩;refine⟨_,rfl,?_⟩;(try(rw[drewN_self wc];generalize hq_:World.drewN wc _=wc;have n0_:Aside0 (wc.heap[gb437]? =some (.cells #[.int .i64 0,.bool false] 28 (0,0))):=⟨by rw[←hq_];exact(bm BK437.out)⟩;have n1_:Aside0 (wc.heap[gb442]? =some (.cells #[.int .i64 x443000_3,.bool x443001_3] 28 (0,0))):=⟨by rw[←hq_];exact(bm BK442.out)⟩;have n2_:Aside0 (IsS95 w0 wc g s0_0 x1001_3 x1002_3):=⟨by rw[←hq_];exact(IsS95.now HI0.out)⟩;have n3_:Aside0 (KeepBut w wc g none):=⟨by rw[←hq_];exact(kn HK.out)⟩;have n4_:Aside0 (Below w0.heap.size w0 wc):=⟨by rw[←hq_];exact(h3 HB.out (IsS95.ge HI0.out) GE437.out GE442.out)⟩;clear BK437 BK442 HI0 HK HB hq_;have BK437:=n0_;have BK442:=n1_;have HI0:=n2_;have HK:=n3_;have HB:=n4_;clear n0_ n1_ n2_ n3_ n4_)))|(refine gs 19 Try.func101 #[.int .i64 1,.int .i64 t450] ?_;(with_reducible refine(spec_l1Most.calls 1 t450 t451 _ A19.out).mono ?_);rintro e w' ⟨rfl,⟨nd,rfl⟩⟩;refine⟨_,rfl,?_⟩;(try(rw[drewN_self wc];generalize hq_:World.drewN wc _=wc;have n0_:Aside0 (wc.heap[gb437]? =some (.cells #[.int .i64 0,.bool false] 28 (0,0))):=⟨by rw[←hq_];exact(bm BK437.out)⟩;have n1_:Aside0 (wc.heap[gb442]? =some (.cells #[.int .i64 x443000_3,.bool x443001_3] 28 (0,0))):=⟨by rw[←hq_];exact(bm BK442.out)⟩;have n2_:Aside0 (IsS95 w0 wc g s0_0 x1001_3 x1002_3):=⟨by rw[←hq_];exact(IsS95.now HI0.out)⟩;have n3_:Aside0 (KeepBut w wc g none):=⟨by rw[←hq_];exact(kn HK.out)⟩;have n4_:Aside0 (Below w0.heap.size w0 wc):=⟨by rw[←hq_];exact(h3 HB.out (IsS95.ge HI0.out) GE437.out GE442.out)⟩;clear BK437 BK442 HI0 HK HB hq_;have BK437:=n0_;have BK442:=n1_;have HI0:=n2_;have HK:=n3_;have HB:=n4_;clear n0_ n1_ n2_ n3_ n4_)))|(refine gs 22 Try.func79 #[.pointer (some ⟨g,0,none⟩),.int .i64 t451] ?_;(with_reducible refine(spec_l1Cur_pick.calls g s0_0 x1001_3 x1002_3 t451 t452 t453 t454 w0 _ ?side1 ?side2 A20.out).mono ?_);(case side1=>exact IsS95.now HI0.out);(case side2=>exact h3 HB.out (IsS95.ge HI0.out) GE437.out GE442.out);rintro e w42 ⟨rfl,hi,hb,hk⟩;refine⟨_,rfl,?_⟩;replace BK437:=kk BK437 hk NB437_0;replace BK442:=kk BK442 hk NB442_0;replace HK:=ak (KeepBut.trans (kn HK.out) hk (.inl rfl));replace HB:=ak hb;replace HI0:=ak hi;(try clear hb);(try clear hk);(try clear hi))|(refine gs 28 Try.func79 #[.pointer (some ⟨g,0,none⟩),.int .i64 (wrap64 (t451-t452))] ?_;(with_reducible refine(spec_l1Cur_pick.calls g s0_0 t453 t454 (wrap64 (t451-t452)) t455 t456 t457 w0 _ ?side1 ?side2 A21.out).mono ?_);(case side1=>exact IsS95.now HI0.out);(case side2=>exact h3 HB.out (IsS95.ge HI0.out) GE437.out GE442.out);rintro e w43 ⟨rfl,hi,hb,hk⟩;refine⟨_,rfl,?_⟩;replace BK437:=kk BK437 hk NB437_0;replace BK442:=kk BK442 hk NB442_0;replace HK:=ak (KeepBut.trans (kn HK.out) hk (.inl rfl));replace HB:=ak hb;replace HI0:=ak hi;(try clear hb);(try clear hk);(try clear hi))|(refine gs 31 Try.func81 #[.pointer (some ⟨g,0,none⟩),.int .i64 16] ?_;(with_reducible refine(spec_l1Cur_one.calls g s0_0 t456 t457 16 false t459 t460 w0 _ ?side1 ?side2 A22.out).mono ?_);(case side1=>exact IsS95.now HI0.out);(case side2=>exact h3 HB.out (IsS95.ge HI0.out) GE437.out GE442.out);rintro e w44 ⟨rfl,hi,hb,hk⟩;refine⟨_,rfl,?_⟩;replace BK437:=kk BK437 hk NB437_0;replace BK442:=kk BK442 hk NB442_0;replace HK:=ak (KeepBut.trans (kn HK.out) hk (.inl rfl));replace HB:=ak hb;replace HI0:=ak hi;(try clear hb);(try clear hk);(try clear hi)))
  replace BK437:=ak (blk_drew BK437.out)
  replace BK442:=ak (blk_drew BK442.out)
  replace HI0:=ak (IsS95.drew HI0.out)
  replace HK:=ak (keep_drew HK.out)
  replace HB:=ak (below_drew1 HB.out)
  refine start_ (n:=10) (S:=fun w'=>w'.cell? ⟨gb442,0,none⟩=some (.int .i64 x443000_3)∧w'.cell? ⟨gb442,1,none⟩=some (.bool x443001_3)) (ds:=[]) (lb 10 0) (by kernel_rfl) rfl rfl ⟨bc BK442 0 rfl,bc BK442 1 rfl⟩ (fun hHeld=>?_);refine with_tabW spec_l1Cur_ask7.tab9 spec_l1Cur_ask7.bits9 (fun HT_ HW_=>?_)
  generalize w44.drew=w45 at BK437 BK442 HI0 HK HB hHeld⊢
  refine pq 1 (N:=some 36) (lb 10 2) HT_ ?_
  refine pq 4 (N:=some 39) (lb 10 18) HT_ ?_
  refine pq 5 (N:=some 40) (lb 10 50) HT_ ?_
  refine tq 0 (N:=some 35) (lb 10 51) HT_ HW_ hHeld ?_
  refine tq 2 (N:=some 37) (lb 10 55) HT_ HW_ hHeld ?_
  refine one_ (i:=3) (N:=some 38) (lb 10 63) rfl rfl (one_of HT_.out (by kernel_rfl)) (by decide) (fun K hK=>?_)
  refine goes_ Try.func92 (by kernel_rfl) rfl #[.pointer (some ⟨g,0,none⟩),.agg #[.int .i64 x443000_3,.bool x443001_3]] (by rfl) rfl rfl gl ?_
  with_reducible refine(spec_l1Cur_carriers7.calls kj3 g s0_0 t459 t460 x443000_3 x443001_3 t469 t472 t473 w0 _ ?side1 ?side2 A38.out).mono ?_
  (case side1=>exact IsS95.now HI0.out)
  (case side2=>exact h3 HB.out (IsS95.ge HI0.out) GE437.out GE442.out)
  rintro e w46 ⟨v470,rfl,ho0,hi,hb,hk⟩
  refine⟨_,rfl,?_⟩
  replace BK437:=kk BK437 hk NB437_0
  replace BK442:=kk BK442 hk NB442_0
  have HO471:=ak (R_lower ho0 (keep_size (w:=w) (g:=g) (row:=none) (kn HK.out)))
  replace HK:=ak (KeepBut.trans (kn HK.out) hk (.inl rfl))
  replace HB:=ak hb
  replace HI0:=ak hi
  (try clear hb)
  (try clear hb2)
  (try clear hk)
  (try clear hi)
  (try clear ho0)
  refine hK.out _ _ ⟨bc BK442 0 rfl,bc BK442 1 rfl⟩ (fun hHeld=>?_)
  clear hK K
  refine norm_ (a':=?_) ?_ ?_
  rotate_left
  ·show Act.put _ (some 38) _=_
   simp only[ap]
   rfl
  refine one_ (i:=6) (N:=none) (lb 10 127) rfl rfl (one_of HT_.out (by kernel_rfl)) (by decide) (fun K hK=>?_)
  have hs47:w46.cell? ⟨gb437,0,none⟩=some (.int .i64 0):=bc BK437 0 rfl
  have hfs47:=blk_frozen BK437.out 0
  have hns47_1:=NB442_437.out
  have hms47_1:=NB437_442.out
  have hs48:w46.cell? ⟨gb437,1,none⟩=some (.bool false):=bc BK437 1 rfl
  have hfs48:=blk_frozen BK437.out 1
  have hns48_1:=NB442_437.out
  have hms48_1:=NB437_442.out
  refine skip_ (w1:=?_) (by rfl) rfl ?_ ?_
  rotate_left
  ·go_simp
   rfl
  refine hK.out _ _ ⟨((cell_far (p:=⟨gb437,_,none⟩) NB442_437.out _).trans (((cell_far (p:=⟨gb437,_,none⟩) NB442_437.out _).trans (hHeld.1)))),((cell_far (p:=⟨gb437,_,none⟩) NB442_437.out _).trans (((cell_far (p:=⟨gb437,_,none⟩) NB442_437.out _).trans (hHeld.2))))⟩ (fun hHeld=>?_)
  clear hK K
  refine pq 7 (N:=some 3) (lb 10 255) HT_ ?_
  refine pq 8 (N:=some 4) (lb 10 511) HT_ ?_
  refine pq 9 (N:=some 5) (lb 10 1023) HT_ ?_
  refine done_ (done_of HT_.out (by kernel_rfl)) ?_
  try go_wp2
  refine bodyPost_ret (results_list (rs:=[.cell 2 28,.tmp 3,.tmp 4,.tmp 5]) rfl (by simp) (.cell gb437 28 #[.int .i64 x443000_3,.bool x443001_3] (0,0) _ rfl (by(with_reducible repeat(first|apply blk_drewN|apply blk_drew|apply blk_alloc));refine blk_put (cs:=#[.int .i64 x443000_3,.bool false]) ?_ 1 _ rfl;(with_reducible repeat(first|apply blk_drewN|apply blk_drew|apply blk_alloc));refine blk_put (cs:=#[.int .i64 0,.bool false]) ?_ 0 _ rfl;exact bm BK437.out) Try.underlying28 rfl (by kernel_rfl) (.tmp (.tmp (.tmp .nil))))) rfl ?_
  exact⟨_,fe,by(with_reducible repeat(first|apply R_alloc|apply R_drewN|apply R_drew));exact R_mono (R_far (p:=⟨gb437,1,none⟩) (R_far (p:=⟨gb437,0,none⟩) (R_types HO471.out BK437.out (by decide)) (fun _ hk=>hk.2) (.int .i64 x443000_3)) (fun _ hk=>hk.2) (.bool x443001_3)) (fun _ hk=>trivial),(IsS95.now HI0.out),h3 HB.out (IsS95.ge HI0.out) GE437.out GE442.out,(kn HK.out)⟩
 subst c23
 rw[if_pos rfl]at H
 obtain⟨⟨t461,t462,t463⟩,A24,H⟩:=bd H;(try dsimp only at H)
 obtain⟨⟨t464,t467,t468⟩,A25,H⟩:=bd H;(try dsimp only at H)
 simp only[Option.some.injEq,Prod.mk.injEq]at H
 obtain⟨rfl,rfl,rfl,rfl,rfl,rfl,rfl⟩:=H
 have hnb26:=NB442_437.out
 have hnc26:=NB437_442.out
 have hnb27:=NB442_0.out
 have hnc27:=NB0_442.out
 have hcz28_0:=bc BK442 0 rfl
 have hcz28_1:=bc BK442 1 rfl
 have hfz28_0:=bf BK442 0
 have hfz28_1:=bf BK442 1
 try go_wp2_with (first|(refine gs 18 Try.func108 #[.int .i64 x443000_3,.int .i64 24] ?_;(with_reducible refine(spec_l1Least.calls x443000_3 24 t450 _ A18.out).mono ?_);rintro e w' ⟨rfl,⟨nd,rfl⟩⟩;refine⟨_,rfl,?_⟩;(try(rw[drewN_self wc];generalize hq_:World.drewN wc _=wc;have n0_:Aside0 (wc.heap[gb437]? =some (.cells #[.int .i64 0,.bool false] 28 (0,0))):=⟨by rw[←hq_];exact(bm BK437.out)⟩;have n1_:Aside0 (wc.heap[gb442]? =some (.cells #[.int .i64 x443000_3,.bool x443001_3] 28 (0,0))):=⟨by rw[←hq_];exact(bm BK442.out)⟩;have n2_:Aside0 (IsS95 w0 wc g s0_0 x1001_3 x1002_3):=⟨by rw[←hq_];exact(IsS95.now HI0.out)⟩;have n3_:Aside0 (KeepBut w wc g none):=⟨by rw[←hq_];exact(kn HK.out)⟩;have n4_:Aside0 (Below w0.heap.size w0 wc):=⟨by rw[←hq_];exact(h3 HB.out (IsS95.ge HI0.out) GE437.out GE442.out)⟩;clear BK437 BK442 HI0 HK HB hq_;have BK437:=n0_;have BK442:=n1_;have HI0:=n2_;have HK:=n3_;have HB:=n4_;clear n0_ n1_ n2_ n3_ n4_)))|(refine gs 19 Try.func101 #[.int .i64 1,.int .i64 t450] ?_;(with_reducible refine(spec_l1Most.calls 1 t450 t451 _ A19.out).mono ?_);rintro e w' ⟨rfl,⟨nd,rfl⟩⟩;refine⟨_,rfl,?_⟩;(try(rw[drewN_self wc];generalize hq_:World.drewN wc _=wc;have n0_:Aside0 (wc.heap[gb437]? =some (.cells #[.int .i64 0,.bool false] 28 (0,0))):=⟨by rw[←hq_];exact(bm BK437.out)⟩;have n1_:Aside0 (wc.heap[gb442]? =some (.cells #[.int .i64 x443000_3,.bool x443001_3] 28 (0,0))):=⟨by rw[←hq_];exact(bm BK442.out)⟩;have n2_:Aside0 (IsS95 w0 wc g s0_0 x1001_3 x1002_3):=⟨by rw[←hq_];exact(IsS95.now HI0.out)⟩;have n3_:Aside0 (KeepBut w wc g none):=⟨by rw[←hq_];exact(kn HK.out)⟩;have n4_:Aside0 (Below w0.heap.size w0 wc):=⟨by rw[←hq_];exact(h3 HB.out (IsS95.ge HI0.out) GE437.out GE442.out)⟩;clear BK437 BK442 HI0 HK HB hq_;have BK437:=n0_;have BK442:=n1_;have HI0:=n2_;have HK:=n3_;have HB:=n4_;clear n0_ n1_ n2_ n3_ n4_)))|(refine gs 22 Try.func79 #[.pointer (some ⟨g,0,none⟩),.int .i64 t451] ?_;(with_reducible refine(spec_l1Cur_pick.calls g s0_0 x1001_3 x1002_3 t451 t452 t453 t454 w0 _ ?side1 ?side2 A20.out).mono ?_);(case side1=>exact IsS95.now HI0.out);(case side2=>exact h3 HB.out (IsS95.ge HI0.out) GE437.out GE442.out);rintro e w29 ⟨rfl,hi,hb,hk⟩;refine⟨_,rfl,?_⟩;replace BK437:=kk BK437 hk NB437_0;replace BK442:=kk BK442 hk NB442_0;replace HK:=ak (KeepBut.trans (kn HK.out) hk (.inl rfl));replace HB:=ak hb;replace HI0:=ak hi;(try clear hb);(try clear hk);(try clear hi))|(refine gs 28 Try.func79 #[.pointer (some ⟨g,0,none⟩),.int .i64 (wrap64 (t451-t452))] ?_;(with_reducible refine(spec_l1Cur_pick.calls g s0_0 t453 t454 (wrap64 (t451-t452)) t455 t456 t457 w0 _ ?side1 ?side2 A21.out).mono ?_);(case side1=>exact IsS95.now HI0.out);(case side2=>exact h3 HB.out (IsS95.ge HI0.out) GE437.out GE442.out);rintro e w30 ⟨rfl,hi,hb,hk⟩;refine⟨_,rfl,?_⟩;replace BK437:=kk BK437 hk NB437_0;replace BK442:=kk BK442 hk NB442_0;replace HK:=ak (KeepBut.trans (kn HK.out) hk (.inl rfl));replace HB:=ak hb;replace HI0:=ak hi;(try clear hb);(try clear hk);(try clear hi))|(refine gs 31 Try.func81 #[.pointer (some ⟨g,0,none⟩),.int .i64 16] ?_;(with_reducible refine(spec_l1Cur_one.calls g s0_0 t456 t457 16 true t459 t460 w0 _ ?side1 ?side2 A22.out).mono ?_);(case side1=>exact IsS95.now HI0.out);(case side2=>exact h3 HB.out (IsS95.ge HI0.out) GE437.out GE442.out);rintro e w31 ⟨rfl,hi,hb,hk⟩;refine⟨_,rfl,?_⟩;replace BK437:=kk BK437 hk NB437_0;replace BK442:=kk BK442 hk NB442_0;replace HK:=ak (KeepBut.trans (kn HK.out) hk (.inl rfl));replace HB:=ak hb;replace HI0:=ak hi;(try clear hb);(try clear hk);(try clear hi);have hcz32_0:=bc BK442 0 rfl;have hcz32_1:=bc BK442 1 rfl;have hfz32_0:=bf BK442 0;have hfz32_1:=bf BK442 1)|(refine gs 34 Try.func93 #[.pointer (some ⟨g,0,none⟩),.agg #[.int .i64 x443000_3,.bool x443001_3]] ?_;(with_reducible refine(spec_l1Cur_placeOn.calls g s0_0 t459 t460 x443000_3 x443001_3 t461 t462 t463 w0 _ ?side1 ?side2 A24.out).mono ?_);(case side1=>exact IsS95.now HI0.out);(case side2=>exact h3 HB.out (IsS95.ge HI0.out) GE437.out GE442.out);rintro e w33 ⟨rfl,hi,hb,hk⟩;refine⟨_,rfl,?_⟩;replace BK437:=kk BK437 hk NB437_0;replace BK442:=kk BK442 hk NB442_0;replace HK:=ak (KeepBut.trans (kn HK.out) hk (.inl rfl));replace HB:=ak hb;replace HI0:=ak hi;(try clear hb);(try clear hk);(try clear hi)))
 replace BK437:=ak (blk_drew BK437.out)
 replace BK442:=ak (blk_drew BK442.out)
 replace HI0:=ak (IsS95.drew HI0.out)
 replace HK:=ak (keep_drew HK.out)
 replace HB:=ak (below_drew1 HB.out)
 refine start_ (n:=10) (S:=fun w'=>w'.cell? ⟨gb442,0,none⟩=some (.int .i64 x443000_3)∧w'.cell? ⟨gb442,1,none⟩=some (.bool x443001_3)) (ds:=[]) (lb 10 0) (by kernel_rfl) rfl rfl ⟨bc BK442 0 rfl,bc BK442 1 rfl⟩ (fun hHeld=>?_);refine with_tabW spec_l1Cur_ask7.tab9 spec_l1Cur_ask7.bits9 (fun HT_ HW_=>?_)
 generalize w33.drew=w34 at BK437 BK442 HI0 HK HB hHeld⊢
 refine pq 1 (N:=some 36) (lb 10 2) HT_ ?_
 refine pq 4 (N:=some 39) (lb 10 18) HT_ ?_
 refine pq 5 (N:=some 40) (lb 10 50) HT_ ?_
 refine tq 0 (N:=some 35) (lb 10 51) HT_ HW_ hHeld ?_
 refine tq 2 (N:=some 37) (lb 10 55) HT_ HW_ hHeld ?_
 refine one_ (i:=3) (N:=some 38) (lb 10 63) rfl rfl (one_of HT_.out (by kernel_rfl)) (by decide) (fun K hK=>?_)
 refine goes_ Try.func92 (by kernel_rfl) rfl #[.pointer (some ⟨g,0,none⟩),.agg #[.int .i64 x443000_3,.bool x443001_3]] (by rfl) rfl rfl gl ?_
 with_reducible refine(spec_l1Cur_carriers7.calls kj3 g s0_0 t462 t463 x443000_3 x443001_3 t464 t467 t468 w0 _ ?side1 ?side2 A25.out).mono ?_
 (case side1=>exact IsS95.now HI0.out)
 (case side2=>exact h3 HB.out (IsS95.ge HI0.out) GE437.out GE442.out)
 rintro e w35 ⟨v465,rfl,ho0,hi,hb,hk⟩
 refine⟨_,rfl,?_⟩
 replace BK437:=kk BK437 hk NB437_0
 replace BK442:=kk BK442 hk NB442_0
 have HO466:=ak (R_lower ho0 (keep_size (w:=w) (g:=g) (row:=none) (kn HK.out)))
 replace HK:=ak (KeepBut.trans (kn HK.out) hk (.inl rfl))
 replace HB:=ak hb
 replace HI0:=ak hi
 (try clear hb)
 (try clear hb2)
 (try clear hk)
 (try clear hi)
 (try clear ho0)
 refine hK.out _ _ ⟨bc BK442 0 rfl,bc BK442 1 rfl⟩ (fun hHeld=>?_)
 clear hK K
 refine norm_ (a':=?_) ?_ ?_
 rotate_left
 ·show Act.put _ (some 38) _=_
  simp only[ap]
  rfl
 refine one_ (i:=6) (N:=none) (lb 10 127) rfl rfl (one_of HT_.out (by kernel_rfl)) (by decide) (fun K hK=>?_)
 have hs36:w35.cell? ⟨gb437,0,none⟩=some (.int .i64 0):=bc BK437 0 rfl
 have hfs36:=blk_frozen BK437.out 0
 have hns36_1:=NB442_437.out
 have hms36_1:=NB437_442.out
 have hs37:w35.cell? ⟨gb437,1,none⟩=some (.bool false):=bc BK437 1 rfl
 have hfs37:=blk_frozen BK437.out 1
 have hns37_1:=NB442_437.out
 have hms37_1:=NB437_442.out
 refine skip_ (w1:=?_) (by rfl) rfl ?_ ?_
 rotate_left
 ·go_simp
  rfl
 refine hK.out _ _ ⟨((cell_far (p:=⟨gb437,_,none⟩) NB442_437.out _).trans (((cell_far (p:=⟨gb437,_,none⟩) NB442_437.out _).trans (hHeld.1)))),((cell_far (p:=⟨gb437,_,none⟩) NB442_437.out _).trans (((cell_far (p:=⟨gb437,_,none⟩) NB442_437.out _).trans (hHeld.2))))⟩ (fun hHeld=>?_)
 clear hK K
 refine pq 7 (N:=some 3) (lb 10 255) HT_ ?_
 refine pq 8 (N:=some 4) (lb 10 511) HT_ ?_
 refine pq 9 (N:=some 5) (lb 10 1023) HT_ ?_
 refine done_ (done_of HT_.out (by kernel_rfl)) ?_
 try go_wp2
 refine bodyPost_ret (results_list (rs:=[.cell 2 28,.tmp 3,.tmp 4,.tmp 5]) rfl (by simp) (.cell gb437 28 #[.int .i64 x443000_3,.bool x443001_3] (0,0) _ rfl (by(with_reducible repeat(first|apply blk_drewN|apply blk_drew|apply blk_alloc));refine blk_put (cs:=#[.int .i64 x443000_3,.bool false]) ?_ 1 _ rfl;(with_reducible repeat(first|apply blk_drewN|apply blk_drew|apply blk_alloc));refine blk_put (cs:=#[.int .i64 0,.bool false]) ?_ 0 _ rfl;exact bm BK437.out) Try.underlying28 rfl (by kernel_rfl) (.tmp (.tmp (.tmp .nil))))) rfl ?_
 exact⟨_,fe,by(with_reducible repeat(first|apply R_alloc|apply R_drewN|apply R_drew));exact R_mono (R_far (p:=⟨gb437,1,none⟩) (R_far (p:=⟨gb437,0,none⟩) (R_types HO466.out BK437.out (by decide)) (fun _ hk=>hk.2) (.int .i64 x443000_3)) (fun _ hk=>hk.2) (.bool x443001_3)) (fun _ hk=>trivial),(IsS95.now HI0.out),h3 HB.out (IsS95.ge HI0.out) GE437.out GE442.out,(kn HK.out)⟩
def spec_DrawReachOrder.f (k:Nat) (l0:List Int):Option (Int × Bool × (List (S63))× Int × Int):=(spec_l1Cur_ask7.f k l0 0 0).bind fun bt476=>(some (bt476.1,bt476.2.1,bt476.2.2.1,bt476.2.2.2.1,bt476.2.2.2.2.1))
theorem spec_DrawReachOrder.mono:∀ a0 k,LeO (spec_DrawReachOrder.f k a0) (spec_DrawReachOrder.f (k+1) a0):=by
 intro a0 k
 unfold spec_DrawReachOrder.f
 repeat' (with_reducible first|exact spec_l1Cur_ask7.mono ..|exact LeO.refl _|exact LeO.none _|refine LeO.ite ?_ ?_|refine LeO.bind ?_ (fun _=>?_))
set_option maxHeartbeats 8000000 in
set_option maxRecDepth 100000 in
theorem spec_DrawReachOrder.calls (k:Nat) (A0:Option Addr) (c0:Nat) (l0:List Int) (r1:Int) (r2:Bool) (r3:List (S63)) (r4:Int) (r5:Int) (w:World) (hr0:Kd.C (Kd.int .u8) w A0 l0.length l0) (hc0:l0.length≤c0) (h:spec_DrawReachOrder.f k l0=some (r1,r2,r3,r4,r5)):
  Calls Try.prog 32 #[.slice A0 l0.length c0] w fun e w'=>∃ v2_:Value,e= .returned (.tuple #[.agg #[.int .i64 r1,.bool r2],v2_,.int .i64 r4,.int .i64 r5])∧Kd.R k63 63 w' w.heap.size (fun _=>True) v2_ r3∧Below w.heap.size w w':=by
 have hu28:=Try.underlying28
 have hu95:=Try.underlying95
 have HR0:=Aside0.mk hr0
 have HC0:=Aside0.mk hc0
 clear hr0 hc0
 have HB:=Aside0.mk (Below.refl w.heap.size w)
 unfold spec_DrawReachOrder.f at h
 have H:=h
 clear h
 obtain⟨⟨t476,t477,t478,t481,t482,t483,t484⟩,A2,H⟩:=bd H;(try dsimp only at H)
 simp only[Option.some.injEq,Prod.mk.injEq]at H
 obtain⟨rfl,rfl,rfl,rfl,rfl⟩:=H
 go_enter Try.func32,Try.ntmps32
 go_wp2_with (first|(refine bx 2 #[.int .i64 0,.bool false] 28 ?_;intro gb474 hg w3 hbox hb;have BK474:=ak hbox;have GW474:=gw HB hg;have GE474:=gw HB hg;replace HB:=bs HB hb;clear hb hbox hg)|(refine bx 9 #[.slice A0 l0.length c0,.int .i64 0,.int .u64 0] 95 ?_;intro gb475 hg w4 hbox hb;have NB474_475:=nl BK474 hg;have NB475_474:=ng BK474 hg;replace BK474:=kb BK474 hb;have HI475:=ak ((⟨_,_,hbox,(by rw[hg];exact(below_size (h1 HB.out GE474.out)):w.heap.size≤gb475),HR0.out⟩:IsS95 w w4 gb475 l0 0 0));replace HB:=ak (below_step (h1 HB.out GE474.out) hb);clear hb hbox hg)|(refine gs 11 Try.func73 #[.pointer (some ⟨gb475,0,none⟩)] ?_;(with_reducible refine(spec_l1Cur_ask7.calls k gb475 l0 0 0 t476 t477 t478 t481 t482 t483 t484 w _ ?side1 ?side2 A2.out).mono ?_);(case side1=>exact IsS95.now HI475.out);(case side2=>exact h2 HB.out (IsS95.ge HI475.out) GE474.out);rintro e w5 ⟨v479,rfl,ho0,hi,hb,hk⟩;refine⟨_,rfl,?_⟩;replace BK474:=kk BK474 hk NB474_475;have HO480:=ak (R_lower ho0 (below_size (h2 HB.out (IsS95.ge HI475.out) GE474.out)));replace HB:=ak hb;replace HI475:=ak hi;(try clear hb);(try clear hk);(try clear hi);(try clear ho0);have hnb6:=NB474_475.out;have hnc6:=NB475_474.out;have hcz7_0:=bc BK474 0 rfl;have hcz7_1:=bc BK474 1 rfl;have hfz7_0:=bf BK474 0;have hfz7_1:=bf BK474 1))
 refine bodyPost_ret (results_list (rs:=[.cell 2 28,.tmp 3,.tmp 4,.tmp 5]) rfl (by simp) (.cell gb474 28 #[.int .i64 t476,.bool t477] (0,0) _ rfl (by(with_reducible repeat(first|apply blk_drewN|apply blk_drew|apply blk_alloc));refine blk_put (cs:=#[.int .i64 t476,.bool false]) ?_ 1 _ rfl;(with_reducible repeat(first|apply blk_drewN|apply blk_drew|apply blk_alloc));refine blk_put (cs:=#[.int .i64 0,.bool false]) ?_ 0 _ rfl;exact bm BK474.out) Try.underlying28 rfl (by kernel_rfl) (.tmp (.tmp (.tmp .nil))))) rfl ?_
 exact⟨_,fe,by(with_reducible repeat(first|apply R_alloc|apply R_drewN|apply R_drew));exact R_mono (R_far (p:=⟨gb474,1,none⟩) (R_far (p:=⟨gb474,0,none⟩) (R_types HO480.out BK474.out (by decide)) (fun _ hk=>hk.2) (.int .i64 t476)) (fun _ hk=>hk.2) (.bool t477)) (fun _ hk=>trivial),h2 HB.out (IsS95.ge HI475.out) GE474.out⟩
def impl_Road_steps.f (a0_0:Int) (a0_1:Bool) (a1_0:Int) (a1_1:Int) (a1_2:Int) (a2:Int) (a3:Int):Option (Int):=(impl_Road_gap.f a0_0 a0_1 a1_0 a2).bind fun t487=>((impl_Road_gap.f a0_0 a0_1 a2 a3).bind fun t488=>(some (wrap64 (t487+t488))))
def impl_Road_steps.T1:Bool × List (List Nat × List Nat):=(true,[([],[]),([],[]),([1],[1]),([],[]),([0,2,3],[0,2,3]),([],[]),([],[]),([],[]),([5,6,7,4],[5,6,7]),([4,8],[4,8]),([9,8,0,1,2,3,4,5,6,7,8,9],[9])])
def impl_Road_steps.B1:List Nat:=[0,0,2,0,15,0,0,0,255,511,1023]
theorem impl_Road_steps.tab1:rtab .any (opsOf Try.f65 1)=impl_Road_steps.T1:=by kernel_rfl
theorem impl_Road_steps.bits1:waitsOk impl_Road_steps.T1.2 impl_Road_steps.B1=true:=by kernel_rfl
set_option maxHeartbeats 8000000 in
set_option maxRecDepth 100000 in
theorem impl_Road_steps.calls (a0_0:Int) (a0_1:Bool) (a1_0:Int) (a1_1:Int) (a1_2:Int) (a2:Int) (a3:Int) (r:Int) (w:World) (h:impl_Road_steps.f a0_0 a0_1 a1_0 a1_1 a1_2 a2 a3=some r):
  Calls Try.prog 65 #[.agg #[.int .i64 a0_0,.bool a0_1],.agg #[.int .i64 a1_0,.int .i64 a1_1,.int .i64 a1_2],.int .i64 a2,.int .i64 a3] w fun e w'=>e= .returned (.int .i64 r)∧Below w.heap.size w w':=by
 have hu28:=Try.underlying28
 have hu63:=Try.underlying63
 have HB:=Aside0.mk (Below.refl w.heap.size w)
 unfold impl_Road_steps.f at h
 have H:=h
 clear h
 obtain⟨t487,A5,H⟩:=bd H;(try dsimp only at H)
 obtain⟨t488,A6,H⟩:=bd H;(try dsimp only at H)
 obtain rfl:=Option.some.inj H
 go_enter Try.func65,Try.ntmps65
 try go_wp2_with (first|(refine bx 4 #[.int .i64 a0_0,.bool a0_1] 28 ?_;intro gb485 hg w7 hbox hb;have BK485:=ak hbox;have GW485:=gw HB hg;have GE485:=gw HB hg;replace HB:=bs HB hb;clear hb hbox hg)|(refine bx 5 #[.int .i64 a1_0,.int .i64 a1_1,.int .i64 a1_2] 63 ?_;intro gb486 hg w8 hbox hb;have BK486:=ak hbox;have GW486:=ak ((by rw[hg];exact(below_size (h1 HB.out GE485.out)):w.heap.size≤gb486));have GE486:=ak ((by rw[hg];exact(below_size (h1 HB.out GE485.out)):w.heap.size≤gb486));replace HB:=ak (below_step (h1 HB.out GE485.out) hb);have NB485_486:=nl BK485 hg;have NB486_485:=ng BK485 hg;replace BK485:=kb BK485 hb;clear hb hbox hg))
 replace BK485:=ak (blk_drew BK485.out)
 replace BK486:=ak (blk_drew BK486.out)
 replace HB:=ak (below_drew1 HB.out)
 refine start_ (n:=11) (S:=fun w'=>w'.cell? ⟨gb485,0,none⟩=some (.int .i64 a0_0)∧w'.cell? ⟨gb485,1,none⟩=some (.bool a0_1)∧w'.cell? ⟨gb486,0,none⟩=some (.int .i64 a1_0)∧w'.cell? ⟨gb486,1,none⟩=some (.int .i64 a1_1)∧w'.cell? ⟨gb486,2,none⟩=some (.int .i64 a1_2)) (ds:=[]) (lb 11 0) (by kernel_rfl) rfl rfl ⟨bc BK485 0 rfl,bc BK485 1 rfl,bc BK486 0 rfl,bc BK486 1 rfl,bc BK486 2 rfl⟩ (fun hHeld=>?_);refine with_tabW impl_Road_steps.tab1 impl_Road_steps.bits1 (fun HT_ HW_=>?_)
 generalize w8.drew=w9 at BK485 BK486 HB hHeld⊢
 refine pq 1 (N:=some 10) (lb 11 2) HT_ ?_
 refine pq 3 (N:=some 12) (lb 11 10) HT_ ?_
 refine pq 6 (N:=some 15) (lb 11 74) HT_ ?_
 refine pq 7 (N:=some 16) (lb 11 202) HT_ ?_
 refine tq 0 (N:=some 9) (lb 11 203) HT_ HW_ hHeld ?_
 refine tq 2 (N:=some 11) (lb 11 207) HT_ HW_ hHeld ?_
 refine tq 5 (N:=some 14) (lb 11 239) HT_ HW_ hHeld ?_
 refine one_ (i:=4) (N:=some 13) (lb 11 255) rfl rfl (one_of HT_.out (by kernel_rfl)) (by decide) (fun K hK=>?_)
 refine goes_ Try.func89 (by kernel_rfl) rfl #[.agg #[.int .i64 a0_0,.bool a0_1],.int .i64 a1_0,.int .i64 a2] (by rfl) rfl rfl gl ?_
 with_reducible refine(impl_Road_gap.calls a0_0 a0_1 a1_0 a2 t487 _ A5.out).mono ?_
 rintro e w10 ⟨rfl,hb⟩
 refine⟨_,rfl,?_⟩
 replace BK485:=kb BK485 hb
 replace BK486:=kb BK486 hb
 replace HB:=ak (below_step (h2 HB.out GE485.out GE486.out) hb)
 (try clear hb)
 (try clear hb2)
 (try clear hk)
 (try clear hi)
 refine hK.out _ _ ⟨bc BK485 0 rfl,bc BK485 1 rfl,bc BK486 0 rfl,bc BK486 1 rfl,bc BK486 2 rfl⟩ (fun hHeld=>?_)
 clear hK K
 refine norm_ (a':=?_) ?_ ?_
 rotate_left
 ·show Act.put _ (some 13) _=_
  simp only[ap]
  rfl
 refine one_ (i:=8) (N:=some 17) (lb 11 511) rfl rfl (one_of HT_.out (by kernel_rfl)) (by decide) (fun K hK=>?_)
 refine goes_ Try.func89 (by kernel_rfl) rfl #[.agg #[.int .i64 a0_0,.bool a0_1],.int .i64 a2,.int .i64 a3] (by rfl) rfl rfl gl ?_
 with_reducible refine(impl_Road_gap.calls a0_0 a0_1 a2 a3 t488 _ A6.out).mono ?_
 rintro e w11 ⟨rfl,hb⟩
 refine⟨_,rfl,?_⟩
 replace BK485:=kb BK485 hb
 replace BK486:=kb BK486 hb
 replace HB:=ak (below_step (h2 HB.out GE485.out GE486.out) hb)
 (try clear hb)
 (try clear hb2)
 (try clear hk)
 (try clear hi)
 refine hK.out _ _ ⟨bc BK485 0 rfl,bc BK485 1 rfl,bc BK486 0 rfl,bc BK486 1 rfl,bc BK486 2 rfl⟩ (fun hHeld=>?_)
 clear hK K
 refine norm_ (a':=?_) ?_ ?_
 rotate_left
 ·show Act.put _ (some 17) _=_
  simp only[ap]
  rfl
 refine pq 9 (N:=some 18) (lb 11 1023) HT_ ?_
 refine pq 10 (N:=some 8) (lb 11 2047) HT_ ?_
 refine done_ (done_of HT_.out (by kernel_rfl)) ?_
 try go_wp2
 go_ret
 exact⟨fe,h2 HB.out GE485.out GE486.out⟩
def impl_Road_arrives.f (a0_0:Int) (a0_1:Bool) (a1_0:Int) (a1_1:Int) (a1_2:Int) (a2:Int) (a3:Int) (a4:Int):Option (Int):=(impl_Road_gap.f a0_0 a0_1 a1_0 a3).bind fun t491=>((impl_Road_gap.f a0_0 a0_1 a3 a4).bind fun t492=>(some (wrap64 ((mx a2 t491)+t492))))
def impl_Road_arrives.T1:Bool × List (List Nat × List Nat):=(true,[([],[]),([],[]),([],[]),([2],[2]),([],[]),([1,3,4],[1,3,4]),([0,5],[0,5]),([],[]),([],[]),([],[]),([7,8,9,5],[7,8,9]),([6,10],[6,10]),([11,10,0,1,2,3,4,5,6,7,8,9,10,11],[11])])
def impl_Road_arrives.B1:List Nat:=[0,0,0,4,0,30,63,0,0,0,958,2047,4095]
theorem impl_Road_arrives.tab1:rtab .any (opsOf Try.f70 1)=impl_Road_arrives.T1:=by kernel_rfl
theorem impl_Road_arrives.bits1:waitsOk impl_Road_arrives.T1.2 impl_Road_arrives.B1=true:=by kernel_rfl
set_option maxHeartbeats 8000000 in
set_option maxRecDepth 100000 in
theorem impl_Road_arrives.calls (a0_0:Int) (a0_1:Bool) (a1_0:Int) (a1_1:Int) (a1_2:Int) (a2:Int) (a3:Int) (a4:Int) (r:Int) (w:World) (h:impl_Road_arrives.f a0_0 a0_1 a1_0 a1_1 a1_2 a2 a3 a4=some r):
  Calls Try.prog 70 #[.agg #[.int .i64 a0_0,.bool a0_1],.agg #[.int .i64 a1_0,.int .i64 a1_1,.int .i64 a1_2],.int .i64 a2,.int .i64 a3,.int .i64 a4] w fun e w'=>e= .returned (.int .i64 r)∧Below w.heap.size w w':=by
 have hu28:=Try.underlying28
 have hu63:=Try.underlying63
 have HB:=Aside0.mk (Below.refl w.heap.size w)
 unfold impl_Road_arrives.f at h
 have H:=h
 clear h
 obtain⟨t491,A6,H⟩:=bd H;(try dsimp only at H)
 generalize hji7: (mx a2 t491)=ji7 at H
 (try rw[hji7]at A6)
 have hji7_: (if a2<t491 then t491 else a2)=ji7:=hji7
 obtain⟨t492,A8,H⟩:=bd H;(try dsimp only at H)
 obtain rfl:=Option.some.inj H
 go_enter Try.func70,Try.ntmps70
 try go_wp2_with (first|(refine bx 5 #[.int .i64 a0_0,.bool a0_1] 28 ?_;intro gb489 hg w9 hbox hb;have BK489:=ak hbox;have GW489:=gw HB hg;have GE489:=gw HB hg;replace HB:=bs HB hb;clear hb hbox hg)|(refine bx 6 #[.int .i64 a1_0,.int .i64 a1_1,.int .i64 a1_2] 63 ?_;intro gb490 hg w10 hbox hb;have BK490:=ak hbox;have GW490:=ak ((by rw[hg];exact(below_size (h1 HB.out GE489.out)):w.heap.size≤gb490));have GE490:=ak ((by rw[hg];exact(below_size (h1 HB.out GE489.out)):w.heap.size≤gb490));replace HB:=ak (below_step (h1 HB.out GE489.out) hb);have NB489_490:=nl BK489 hg;have NB490_489:=ng BK489 hg;replace BK489:=kb BK489 hb;clear hb hbox hg))
 replace BK489:=ak (blk_drew BK489.out)
 replace BK490:=ak (blk_drew BK490.out)
 replace HB:=ak (below_drew1 HB.out)
 refine start_ (n:=13) (S:=fun w'=>w'.cell? ⟨gb489,0,none⟩=some (.int .i64 a0_0)∧w'.cell? ⟨gb489,1,none⟩=some (.bool a0_1)∧w'.cell? ⟨gb490,0,none⟩=some (.int .i64 a1_0)∧w'.cell? ⟨gb490,1,none⟩=some (.int .i64 a1_1)∧w'.cell? ⟨gb490,2,none⟩=some (.int .i64 a1_2)) (ds:=[]) (lb 13 0) (by kernel_rfl) rfl rfl ⟨bc BK489 0 rfl,bc BK489 1 rfl,bc BK490 0 rfl,bc BK490 1 rfl,bc BK490 2 rfl⟩ (fun hHeld=>?_);refine with_tabW impl_Road_arrives.tab1 impl_Road_arrives.bits1 (fun HT_ HW_=>?_)
 generalize w10.drew=w11 at BK489 BK490 HB hHeld⊢
 refine pq 0 (N:=some 11) (lb 13 1) HT_ ?_
 refine pq 2 (N:=some 13) (lb 13 5) HT_ ?_
 refine pq 4 (N:=some 15) (lb 13 21) HT_ ?_
 refine pq 8 (N:=some 19) (lb 13 277) HT_ ?_
 refine pq 9 (N:=some 20) (lb 13 789) HT_ ?_
 refine tq 1 (N:=some 12) (lb 13 791) HT_ HW_ hHeld ?_
 refine tq 3 (N:=some 14) (lb 13 799) HT_ HW_ hHeld ?_
 refine tq 7 (N:=some 18) (lb 13 927) HT_ HW_ hHeld ?_
 refine one_ (i:=5) (N:=some 16) (lb 13 959) rfl rfl (one_of HT_.out (by kernel_rfl)) (by decide) (fun K hK=>?_)
 refine goes_ Try.func89 (by kernel_rfl) rfl #[.agg #[.int .i64 a0_0,.bool a0_1],.int .i64 a1_0,.int .i64 a3] (by rfl) rfl rfl gl ?_
 with_reducible refine(impl_Road_gap.calls a0_0 a0_1 a1_0 a3 t491 _ A6.out).mono ?_
 rintro e w12 ⟨rfl,hb⟩
 refine⟨_,rfl,?_⟩
 replace BK489:=kb BK489 hb
 replace BK490:=kb BK490 hb
 replace HB:=ak (below_step (h2 HB.out GE489.out GE490.out) hb)
 (try clear hb)
 (try clear hb2)
 (try clear hk)
 (try clear hi)
 refine hK.out _ _ ⟨bc BK489 0 rfl,bc BK489 1 rfl,bc BK490 0 rfl,bc BK490 1 rfl,bc BK490 2 rfl⟩ (fun hHeld=>?_)
 clear hK K
 refine norm_ (a':=?_) ?_ ?_
 rotate_left
 ·show Act.put _ (some 16) _=_
  simp only[ap]
  rfl
 refine pq 6 (N:=some 17) (lb 13 1023) HT_ ?_
 refine one_ (i:=10) (N:=some 21) (lb 13 2047) rfl rfl (one_of HT_.out (by kernel_rfl)) (by decide) (fun K hK=>?_)
 refine goes_ Try.func89 (by kernel_rfl) rfl #[.agg #[.int .i64 a0_0,.bool a0_1],.int .i64 a3,.int .i64 a4] (by rfl) rfl rfl gl ?_
 with_reducible refine(impl_Road_gap.calls a0_0 a0_1 a3 a4 t492 _ A8.out).mono ?_
 rintro e w13 ⟨rfl,hb⟩
 refine⟨_,rfl,?_⟩
 replace BK489:=kb BK489 hb
 replace BK490:=kb BK490 hb
 replace HB:=ak (below_step (h2 HB.out GE489.out GE490.out) hb)
 (try clear hb)
 (try clear hb2)
 (try clear hk)
 (try clear hi)
 refine hK.out _ _ ⟨bc BK489 0 rfl,bc BK489 1 rfl,bc BK490 0 rfl,bc BK490 1 rfl,bc BK490 2 rfl⟩ (fun hHeld=>?_)
 clear hK K
 refine norm_ (a':=?_) ?_ ?_
 rotate_left
 ·show Act.put _ (some 21) _=_
  simp only[ap]
  rfl
 refine pq 11 (N:=some 22) (lb 13 4095) HT_ ?_
 refine pq 12 (N:=some 10) (lb 13 8191) HT_ ?_
 refine done_ (done_of HT_.out (by kernel_rfl)) ?_
 try go_wp2
 go_ret
 exact⟨by first|rfl|(simp[errW_none,errW_some]<;>rfl)|(simp only[←hji7];first|rfl|(simp[errW_none,errW_some]<;>rfl))|(simp[*,errW_none,errW_some]<;>rfl),h2 HB.out GE489.out GE490.out⟩
def impl_found.f (a0:Int):Option (Int × Bool):=some (mx 0 a0,decide (a0≥0))
set_option maxHeartbeats 8000000 in
set_option maxRecDepth 100000 in
theorem impl_found.calls (a0:Int) (r1:Int) (r2:Bool) (w:World) (h:impl_found.f a0=some (r1,r2)):
  Calls Try.prog 109 #[.int .i64 a0] w fun e w'=>e= .returned (.tuple #[.int .i64 r1,.bool r2])∧Below w.heap.size w w':=by
 have HB:=Aside0.mk (Below.refl w.heap.size w)
 unfold impl_found.f at h
 have H:=h
 clear h
 generalize hji2: (mx 0 a0)=ji2 at H
 (try(have hji2l:0≤ji2:=by(rw[←hji2];unfold mx;(repeat' split)<;>omega)))
 (try(have hji2m:0≤ji2:=by omega))
 have hji2_: (if 0<a0 then a0 else 0)=ji2:=hji2
 simp only[Option.some.injEq,Prod.mk.injEq]at H
 obtain⟨rfl,rfl⟩:=H
 go_enter Try.func109,Try.ntmps109
 go_wp2
 go_ret2
 exact⟨by first|rfl|(simp[errW_none,errW_some]<;>rfl)|(simp only[←hji2];first|rfl|(simp[errW_none,errW_some]<;>rfl))|(simp[*,errW_none,errW_some]<;>rfl),hm HB.out⟩
end
end Go.Proofs.Ythagkpoinjpmfaa.QFnReaches
