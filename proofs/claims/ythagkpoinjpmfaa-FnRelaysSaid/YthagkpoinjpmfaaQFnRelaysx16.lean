/- Functions that the law FnRelays comes to, and their walks: no condition but those named. -/
import Derived.Test.YthagkpoinjpmfaaQFnRelaysx0
import Derived.Test.YthagkpoinjpmfaaQFnRelaysx1
import Derived.Test.YthagkpoinjpmfaaQFnRelaysx4
import Derived.Test.YthagkpoinjpmfaaQFnRelaysx5
import Derived.Test.YthagkpoinjpmfaaQFnRelaysx7
import Derived.Test.YthagkpoinjpmfaaQFnRelaysx12
import Derived.Test.YthagkpoinjpmfaaQFnRelaysx13
import Derived.Test.YthagkpoinjpmfaaQFnRelaysx15
namespace Go.Proofs.Ythagkpoinjpmfaa.QFnRelays
open Go.RowKit Go.Proofs.YthagkpoinjpmfaaW.PrintWords Go.Proofs.YthagkpoinjpmfaaW.PrintLast Go.Proofs.YthagkpoinjpmfaaW.PrintMore Go.Proofs.Ythagkpoinjpmfaa.Short
attribute [local go_sem] max2_int min2_int max_two min_two max_three min_three max_four min_four
set_option linter.unusedVariables false
set_option linter.unusedSimpArgs false
section
open Kd
def spec_DrawIsRelay.f (k:Nat) (l0:List Int):Option (Int × Bool × (List (S63))× Int × Int × (List (S70))):=(spec_l1Cur_ask7.f k l0 0 0).bind fun bt549=>((spec_l1Cur_legs7.f k l0 bt549.2.2.2.2.2.1 bt549.2.2.2.2.2.2 bt549.1 bt549.2.1 bt549.2.2.1 bt549.2.2.2.1 bt549.2.2.2.2.1).bind fun bt559=>(if(bt559.1.length:Int)>0 then((spec_l1Cur_one.f l0 bt559.2.1 bt559.2.2 4).bind fun bt564=>(if bt564.1=true then(some (bt549.1,bt549.2.1,bt549.2.2.1,bt549.2.2.2.1,bt549.2.2.2.2.1,bt559.1))else(if 0≤(wrap64 ((bt559.1.length:Int)-1))then(if(wrap64 ((bt559.1.length:Int)-1))<(bt559.1.length:Int)then(some (bt549.1,bt549.2.1,bt549.2.2.1,bt549.2.2.2.1,(rd_T70 bt559.1 (wrap64 ((bt559.1.length:Int)-1))).f2,bt559.1))else(none))else(none))))else(some (bt549.1,bt549.2.1,bt549.2.2.1,bt549.2.2.2.1,bt549.2.2.2.2.1,bt559.1))))
theorem spec_DrawIsRelay.mono:∀ a0 k,LeO (spec_DrawIsRelay.f k a0) (spec_DrawIsRelay.f (k+1) a0):=by
 intro a0 k
 unfold spec_DrawIsRelay.f
 repeat' (with_reducible first|exact spec_l1Cur_ask7.mono ..|exact spec_l1Cur_legs7.mono ..|exact LeO.refl _|exact LeO.none _|refine LeO.ite ?_ ?_|refine LeO.bind ?_ (fun _=>?_))
set_option maxHeartbeats 8000000 in
set_option maxRecDepth 100000 in
theorem spec_DrawIsRelay.calls (k:Nat) (A0:Option Addr) (c0:Nat) (l0:List Int) (r1:Int) (r2:Bool) (r3:List (S63)) (r4:Int) (r5:Int) (r6:List (S70)) (w:World) (hr0:Kd.C (Kd.int .u8) w A0 l0.length l0) (hc0:l0.length≤c0) (h:spec_DrawIsRelay.f k l0=some (r1,r2,r3,r4,r5,r6)):
  Calls Try.prog 46 #[.slice A0 l0.length c0] w fun e w'=>∃ v2_ v5_:Value,e= .returned (.tuple #[.agg #[.int .i64 r1,.bool r2],v2_,.int .i64 r4,.int .i64 r5,v5_])∧Kd.R k63 63 w' w.heap.size (fun _=>True) v2_ r3∧Kd.R k70 70 w' w.heap.size (fun _=>True) v5_ r6∧Below w.heap.size w w':=by
 have hu28:=Try.underlying28
 have hu95:=Try.underlying95
 have HR0:=Aside0.mk hr0
 have HC0:=Aside0.mk hc0
 clear hr0 hc0
 have HB:=Aside0.mk (Below.refl w.heap.size w)
 unfold spec_DrawIsRelay.f at h
 have H:=h
 clear h
 obtain⟨⟨t549,t550,t551,t554,t555,t556,t557⟩,A2,H⟩:=bd H;(try dsimp only at H)
 obtain⟨⟨t559,t562,t563⟩,A3,H⟩:=bd H;(try dsimp only at H)
 by_cases c4: (t559.length:Int)>0
 rotate_left
 ·rw[if_neg c4]at H
  have c4b0:decide (0<(t559.length:Int))=false:=decide_eq_false c4
  have c4b1:decide (0<t559.length)=false:=decide_eq_false (by omega)
  clear c4
  simp only[Option.some.injEq,Prod.mk.injEq]at H
  obtain⟨rfl,rfl,rfl,rfl,rfl,rfl⟩:=H
  go_enter Try.func46,Try.ntmps46
  go_wp2_with (first|(refine bx 2 #[.int .i64 0,.bool false] 28 ?_;intro gb547 hg w38 hbox hb;have BK547:=ak hbox;have GW547:=gw HB hg;have GE547:=gw HB hg;replace HB:=bs HB hb;clear hb hbox hg)|(refine bx 15 #[.slice A0 l0.length c0,.int .i64 0,.int .u64 0] 95 ?_;intro gb548 hg w39 hbox hb;have NB547_548:=nl BK547 hg;have NB548_547:=ng BK547 hg;replace BK547:=kb BK547 hb;have HI548:=ak ((⟨_,_,hbox,(by rw[hg];exact(below_size (h1 HB.out GE547.out)):w.heap.size≤gb548),HR0.out⟩:IsS95 w w39 gb548 l0 0 0));replace HB:=ak (below_step (h1 HB.out GE547.out) hb);clear hb hbox hg)|(refine gs 18 Try.func73 #[.pointer (some ⟨gb548,0,none⟩)] ?_;(with_reducible refine(spec_l1Cur_ask7.calls k gb548 l0 0 0 t549 t550 t551 t554 t555 t556 t557 w _ ?side1 ?side2 A2.out).mono ?_);(case side1=>exact IsS95.now HI548.out);(case side2=>exact h2 HB.out (IsS95.ge HI548.out) GE547.out);rintro e w40 ⟨v552,rfl,ho0,hi,hb,hk⟩;refine⟨_,rfl,?_⟩;replace BK547:=kk BK547 hk NB547_548;have HO553:=ak (R_lower ho0 (below_size (h2 HB.out (IsS95.ge HI548.out) GE547.out)));replace HB:=ak hb;replace HI548:=ak hi;(try clear hb);(try clear hk);(try clear hi);(try clear ho0))|(refine bx 8 #[.int .i64 0,.bool false] 28 ?_;intro gb558 hg w41 hbox hb;replace HO553:=rb HO553 hb;have BK558:=ak hbox;have GW558:=ak ((by rw[hg];exact(below_size (h2 HB.out (IsS95.ge HI548.out) GE547.out)):w.heap.size≤gb558));have GE558:=ak ((by rw[hg];exact(below_size (h2 HB.out (IsS95.ge HI548.out) GE547.out)):w.heap.size≤gb558));replace HB:=ak (below_step (h2 HB.out (IsS95.ge HI548.out) GE547.out) hb);have NB547_558:=nl BK547 hg;have NB558_547:=ng BK547 hg;replace BK547:=kb BK547 hb;have NB548_558:=ak ((by rw[hg];exact Nat.ne_of_lt (IsS95.lt (show IsS95 w _ gb548 l0 t556 t557 from by exact IsS95.now HI548.out)):gb548≠gb558));have NB558_548:=ak ((by rw[hg];exact Nat.ne_of_gt (IsS95.lt (show IsS95 w _ gb548 l0 t556 t557 from by exact IsS95.now HI548.out)):gb558≠gb548));replace HI548:=ak (IsS95.below (by exact IsS95.now HI548.out) hb);clear hb hbox hg;have hnb42:=NB558_547.out;have hnc42:=NB547_558.out;have hnb43:=NB558_548.out;have hnc43:=NB548_558.out;have hcz44_0:=bc BK558 0 rfl;have hcz44_1:=bc BK558 1 rfl;have hfz44_0:=bf BK558 0;have hfz44_1:=bf BK558 1;obtain⟨Ao45,co45,eo45⟩:=R_slice HO553.out;subst eo45)|(refine gs 28 Try.func90 #[.pointer (some ⟨gb548,0,none⟩),.agg #[.int .i64 t549,.bool t550],.slice Ao45 t551.length co45,.int .i64 t554,.int .i64 t555] ?_;(with_reducible refine(spec_l1Cur_legs7.calls k gb548 l0 t556 t557 t549 t550 _ _ t551 t554 t555 t559 t562 t563 w _ ?side1 ?side2 ?side3 ?side4 A3.out).mono ?_);(case side1=>exact IsS95.now HI548.out);(case side2=>exact h3 HB.out (IsS95.ge HI548.out) GE547.out GE558.out);(case side3=>exact C_foot_own (IsS95.apart (show IsS95 w _ gb548 l0 t556 t557 from by exact IsS95.now HI548.out) (by(with_reducible repeat(first|apply R_alloc|apply R_drewN|apply R_drew));exact(R_mono (R_far (p:=⟨gb558,1,none⟩) (R_far (p:=⟨gb558,0,none⟩) (R_types HO553.out BK558.out (by decide)) (fun _ hk=>hk.2) (.int .i64 t549)) (fun _ hk=>hk.2) (.bool t550)) (fun _ h_=>h_.1))) (by decide)) (fun _ h_=>h_.2));(case side4=>exact(R_reads' HO553.out).2.1);rintro e w46 ⟨v560,rfl,ho0,hi,hb,hk⟩;refine⟨_,rfl,?_⟩;replace BK547:=ak (KeepBut.blk hk (g':=gb547) (o:=.cells #[.int .i64 0,.bool false] 28 (0,0)) (by(with_reducible repeat(first|apply blk_drewN|apply blk_drew|apply blk_alloc));refine blk_far ?_ NB547_558.out _;(with_reducible repeat(first|apply blk_drewN|apply blk_drew|apply blk_alloc));refine blk_far ?_ NB547_558.out _;exact bm BK547.out) NB547_548.out (by simp));replace HO553:=ak (R_mono (R_keep (IsS95.apart (show IsS95 w _ gb548 l0 t556 t557 from by exact IsS95.now HI548.out) (by(with_reducible repeat(first|apply R_alloc|apply R_drewN|apply R_drew));exact(R_mono (R_far (p:=⟨gb558,1,none⟩) (R_far (p:=⟨gb558,0,none⟩) (R_types HO553.out BK558.out (by decide)) (fun _ hk=>hk.2) (.int .i64 t549)) (fun _ hk=>hk.2) (.bool t550)) (fun _ h_=>h_.1))) (by decide)) hk (fun _ h=>h.2)) (fun _ h=>h.1));replace BK558:=ak (KeepBut.blk hk (g':=gb558) (o:=.cells #[.int .i64 t549,.bool t550] 28 (0,0)) (by(with_reducible repeat(first|apply blk_drewN|apply blk_drew|apply blk_alloc));refine blk_put (cs:=#[.int .i64 t549,.bool false]) ?_ 1 _ rfl;(with_reducible repeat(first|apply blk_drewN|apply blk_drew|apply blk_alloc));refine blk_put (cs:=#[.int .i64 0,.bool false]) ?_ 0 _ rfl;exact bm BK558.out) NB558_548.out (by simp));have HO561:=ak (R_lower ho0 (below_size (h3 HB.out (IsS95.ge HI548.out) GE547.out GE558.out)));replace HB:=ak hb;replace HI548:=ak hi;(try clear hb);(try clear hk);(try clear hi);(try clear ho0);obtain⟨Ao47,co47,eo47⟩:=R_slice HO561.out;subst eo47;have hcz48_0:=bc BK558 0 rfl;have hcz48_1:=bc BK558 1 rfl;have hfz48_0:=bf BK558 0;have hfz48_1:=bf BK558 1;have hnb49:=NB547_548.out;have hnc49:=NB548_547.out;have hcz50_0:=bc BK547 0 rfl;have hcz50_1:=bc BK547 1 rfl;have hfz50_0:=bf BK547 0;have hfz50_1:=bf BK547 1))
  refine bodyPost_ret (results_list (rs:=[.cell 2 28,.tmp 3,.tmp 4,.tmp 5,.tmp 6]) rfl (by simp) (.cell gb547 28 #[.int .i64 t549,.bool t550] (0,0) _ rfl (by(with_reducible repeat(first|apply blk_drewN|apply blk_drew|apply blk_alloc));refine blk_put (cs:=#[.int .i64 t549,.bool false]) ?_ 1 _ rfl;(with_reducible repeat(first|apply blk_drewN|apply blk_drew|apply blk_alloc));refine blk_put (cs:=#[.int .i64 0,.bool false]) ?_ 0 _ rfl;exact bm BK547.out) Try.underlying28 rfl (by kernel_rfl) (.tmp (.tmp (.tmp (.tmp .nil)))))) rfl ?_
  exact⟨_,_,fe,by(with_reducible repeat(first|apply R_alloc|apply R_drewN|apply R_drew));exact R_mono (R_far (p:=⟨gb547,1,none⟩) (R_far (p:=⟨gb547,0,none⟩) (R_types HO553.out BK547.out (by decide)) (fun _ hk=>hk.2) (.int .i64 t549)) (fun _ hk=>hk.2) (.bool t550)) (fun _ hk=>trivial),by(with_reducible repeat(first|apply R_alloc|apply R_drewN|apply R_drew));exact R_mono (R_far (p:=⟨gb547,1,none⟩) (R_far (p:=⟨gb547,0,none⟩) (R_types HO561.out BK547.out (by decide)) (fun _ hk=>hk.2) (.int .i64 t549)) (fun _ hk=>hk.2) (.bool t550)) (fun _ hk=>trivial),h3 HB.out (IsS95.ge HI548.out) GE547.out GE558.out⟩
 rw[if_pos c4]at H
 have c4b0:decide (0<(t559.length:Int))=true:=decide_eq_true c4
 have c4b1:decide (0<t559.length)=true:=decide_eq_true (by omega)
 clear c4
 obtain⟨⟨t564,t565,t566⟩,A5,H⟩:=bd H;(try dsimp only at H)
 by_cases c6:t564=true
 ·subst c6
  rw[if_pos rfl]at H
  simp only[Option.some.injEq,Prod.mk.injEq]at H
  obtain⟨rfl,rfl,rfl,rfl,rfl,rfl⟩:=H
  go_enter Try.func46,Try.ntmps46
  go_wp2_with (first|(refine bx 2 #[.int .i64 0,.bool false] 28 ?_;intro gb547 hg w7 hbox hb;have BK547:=ak hbox;have GW547:=gw HB hg;have GE547:=gw HB hg;replace HB:=bs HB hb;clear hb hbox hg)|(refine bx 15 #[.slice A0 l0.length c0,.int .i64 0,.int .u64 0] 95 ?_;intro gb548 hg w8 hbox hb;have NB547_548:=nl BK547 hg;have NB548_547:=ng BK547 hg;replace BK547:=kb BK547 hb;have HI548:=ak ((⟨_,_,hbox,(by rw[hg];exact(below_size (h1 HB.out GE547.out)):w.heap.size≤gb548),HR0.out⟩:IsS95 w w8 gb548 l0 0 0));replace HB:=ak (below_step (h1 HB.out GE547.out) hb);clear hb hbox hg)|(refine gs 18 Try.func73 #[.pointer (some ⟨gb548,0,none⟩)] ?_;(with_reducible refine(spec_l1Cur_ask7.calls k gb548 l0 0 0 t549 t550 t551 t554 t555 t556 t557 w _ ?side1 ?side2 A2.out).mono ?_);(case side1=>exact IsS95.now HI548.out);(case side2=>exact h2 HB.out (IsS95.ge HI548.out) GE547.out);rintro e w9 ⟨v552,rfl,ho0,hi,hb,hk⟩;refine⟨_,rfl,?_⟩;replace BK547:=kk BK547 hk NB547_548;have HO553:=ak (R_lower ho0 (below_size (h2 HB.out (IsS95.ge HI548.out) GE547.out)));replace HB:=ak hb;replace HI548:=ak hi;(try clear hb);(try clear hk);(try clear hi);(try clear ho0))|(refine bx 8 #[.int .i64 0,.bool false] 28 ?_;intro gb558 hg w10 hbox hb;replace HO553:=rb HO553 hb;have BK558:=ak hbox;have GW558:=ak ((by rw[hg];exact(below_size (h2 HB.out (IsS95.ge HI548.out) GE547.out)):w.heap.size≤gb558));have GE558:=ak ((by rw[hg];exact(below_size (h2 HB.out (IsS95.ge HI548.out) GE547.out)):w.heap.size≤gb558));replace HB:=ak (below_step (h2 HB.out (IsS95.ge HI548.out) GE547.out) hb);have NB547_558:=nl BK547 hg;have NB558_547:=ng BK547 hg;replace BK547:=kb BK547 hb;have NB548_558:=ak ((by rw[hg];exact Nat.ne_of_lt (IsS95.lt (show IsS95 w _ gb548 l0 t556 t557 from by exact IsS95.now HI548.out)):gb548≠gb558));have NB558_548:=ak ((by rw[hg];exact Nat.ne_of_gt (IsS95.lt (show IsS95 w _ gb548 l0 t556 t557 from by exact IsS95.now HI548.out)):gb558≠gb548));replace HI548:=ak (IsS95.below (by exact IsS95.now HI548.out) hb);clear hb hbox hg;have hnb11:=NB558_547.out;have hnc11:=NB547_558.out;have hnb12:=NB558_548.out;have hnc12:=NB548_558.out;have hcz13_0:=bc BK558 0 rfl;have hcz13_1:=bc BK558 1 rfl;have hfz13_0:=bf BK558 0;have hfz13_1:=bf BK558 1;obtain⟨Ao14,co14,eo14⟩:=R_slice HO553.out;subst eo14)|(refine gs 28 Try.func90 #[.pointer (some ⟨gb548,0,none⟩),.agg #[.int .i64 t549,.bool t550],.slice Ao14 t551.length co14,.int .i64 t554,.int .i64 t555] ?_;(with_reducible refine(spec_l1Cur_legs7.calls k gb548 l0 t556 t557 t549 t550 _ _ t551 t554 t555 t559 t562 t563 w _ ?side1 ?side2 ?side3 ?side4 A3.out).mono ?_);(case side1=>exact IsS95.now HI548.out);(case side2=>exact h3 HB.out (IsS95.ge HI548.out) GE547.out GE558.out);(case side3=>exact C_foot_own (IsS95.apart (show IsS95 w _ gb548 l0 t556 t557 from by exact IsS95.now HI548.out) (by(with_reducible repeat(first|apply R_alloc|apply R_drewN|apply R_drew));exact(R_mono (R_far (p:=⟨gb558,1,none⟩) (R_far (p:=⟨gb558,0,none⟩) (R_types HO553.out BK558.out (by decide)) (fun _ hk=>hk.2) (.int .i64 t549)) (fun _ hk=>hk.2) (.bool t550)) (fun _ h_=>h_.1))) (by decide)) (fun _ h_=>h_.2));(case side4=>exact(R_reads' HO553.out).2.1);rintro e w15 ⟨v560,rfl,ho0,hi,hb,hk⟩;refine⟨_,rfl,?_⟩;replace BK547:=ak (KeepBut.blk hk (g':=gb547) (o:=.cells #[.int .i64 0,.bool false] 28 (0,0)) (by(with_reducible repeat(first|apply blk_drewN|apply blk_drew|apply blk_alloc));refine blk_far ?_ NB547_558.out _;(with_reducible repeat(first|apply blk_drewN|apply blk_drew|apply blk_alloc));refine blk_far ?_ NB547_558.out _;exact bm BK547.out) NB547_548.out (by simp));replace HO553:=ak (R_mono (R_keep (IsS95.apart (show IsS95 w _ gb548 l0 t556 t557 from by exact IsS95.now HI548.out) (by(with_reducible repeat(first|apply R_alloc|apply R_drewN|apply R_drew));exact(R_mono (R_far (p:=⟨gb558,1,none⟩) (R_far (p:=⟨gb558,0,none⟩) (R_types HO553.out BK558.out (by decide)) (fun _ hk=>hk.2) (.int .i64 t549)) (fun _ hk=>hk.2) (.bool t550)) (fun _ h_=>h_.1))) (by decide)) hk (fun _ h=>h.2)) (fun _ h=>h.1));replace BK558:=ak (KeepBut.blk hk (g':=gb558) (o:=.cells #[.int .i64 t549,.bool t550] 28 (0,0)) (by(with_reducible repeat(first|apply blk_drewN|apply blk_drew|apply blk_alloc));refine blk_put (cs:=#[.int .i64 t549,.bool false]) ?_ 1 _ rfl;(with_reducible repeat(first|apply blk_drewN|apply blk_drew|apply blk_alloc));refine blk_put (cs:=#[.int .i64 0,.bool false]) ?_ 0 _ rfl;exact bm BK558.out) NB558_548.out (by simp));have HO561:=ak (R_lower ho0 (below_size (h3 HB.out (IsS95.ge HI548.out) GE547.out GE558.out)));replace HB:=ak hb;replace HI548:=ak hi;(try clear hb);(try clear hk);(try clear hi);(try clear ho0);obtain⟨Ao16,co16,eo16⟩:=R_slice HO561.out;subst eo16)|(go_at_call 81;(with_reducible refine(spec_l1Cur_one.calls gb548 l0 t562 t563 4 true t565 t566 w _ ?side1 ?side2 A5.out).mono ?_);(case side1=>exact IsS95.now HI548.out);(case side2=>exact h3 HB.out (IsS95.ge HI548.out) GE547.out GE558.out);rintro e w17 ⟨rfl,hi,hb,hk⟩;replace BK547:=kk BK547 hk NB547_548;replace HO553:=ak (R_mono (R_keep (IsS95.apart (show IsS95 w _ gb548 l0 t562 t563 from by exact IsS95.now HI548.out) (rm HO553.out) (by decide)) hk (fun _ h=>h.2)) (fun _ h=>h.1));replace BK558:=kk BK558 hk NB558_548;replace HO561:=ak (R_mono (R_keep (IsS95.apart (show IsS95 w _ gb548 l0 t562 t563 from by exact IsS95.now HI548.out) (rm HO561.out) (by decide)) hk (fun _ h=>h.2)) (fun _ h=>h.1));replace HB:=ak hb;replace HI548:=ak hi;(try clear hb);(try clear hk);(try clear hi);have hcz18_0:=bc BK558 0 rfl;have hcz18_1:=bc BK558 1 rfl;have hfz18_0:=bf BK558 0;have hfz18_1:=bf BK558 1;have hnb19:=NB547_548.out;have hnc19:=NB548_547.out;have hcz20_0:=bc BK547 0 rfl;have hcz20_1:=bc BK547 1 rfl;have hfz20_0:=bf BK547 0;have hfz20_1:=bf BK547 1))
  refine bodyPost_ret (results_list (rs:=[.cell 2 28,.tmp 3,.tmp 4,.tmp 5,.tmp 6]) rfl (by simp) (.cell gb547 28 #[.int .i64 t549,.bool t550] (0,0) _ rfl (by(with_reducible repeat(first|apply blk_drewN|apply blk_drew|apply blk_alloc));refine blk_put (cs:=#[.int .i64 t549,.bool false]) ?_ 1 _ rfl;(with_reducible repeat(first|apply blk_drewN|apply blk_drew|apply blk_alloc));refine blk_put (cs:=#[.int .i64 0,.bool false]) ?_ 0 _ rfl;exact bm BK547.out) Try.underlying28 rfl (by kernel_rfl) (.tmp (.tmp (.tmp (.tmp .nil)))))) rfl ?_
  exact⟨_,_,fe,by(with_reducible repeat(first|apply R_alloc|apply R_drewN|apply R_drew));exact R_mono (R_far (p:=⟨gb547,1,none⟩) (R_far (p:=⟨gb547,0,none⟩) (R_types HO553.out BK547.out (by decide)) (fun _ hk=>hk.2) (.int .i64 t549)) (fun _ hk=>hk.2) (.bool t550)) (fun _ hk=>trivial),by(with_reducible repeat(first|apply R_alloc|apply R_drewN|apply R_drew));exact R_mono (R_far (p:=⟨gb547,1,none⟩) (R_far (p:=⟨gb547,0,none⟩) (R_types HO561.out BK547.out (by decide)) (fun _ hk=>hk.2) (.int .i64 t549)) (fun _ hk=>hk.2) (.bool t550)) (fun _ hk=>trivial),h3 HB.out (IsS95.ge HI548.out) GE547.out GE558.out⟩
 replace c6:=Bool.eq_false_iff.mpr c6
 subst c6
 rw[if_neg (show ¬(false=true)by decide)]at H
 generalize hji21: (wrap64 ((t559.length:Int)-1))=ji21 at H
 (try rw[hji21]at A2)
 (try rw[hji21]at A3)
 (try rw[hji21]at A5)
 have hji21w: (IntKind.i64.wrap ((t559.length:Int)-1))=ji21:=(i64_w _).trans hji21
 obtain⟨c22,H⟩:=gi H
 have c22b0:decide (0≤(ji21))=true:=decide_eq_true c22
 clear c22
 obtain⟨c23,H⟩:=gi H
 have c23b0:decide ((ji21)<(t559.length:Int))=true:=decide_eq_true c23
 clear c23
 simp only[Option.some.injEq,Prod.mk.injEq]at H
 obtain⟨rfl,rfl,rfl,rfl,rfl,rfl⟩:=H
 go_enter Try.func46,Try.ntmps46
 go_wp2_with (first|(refine bx 2 #[.int .i64 0,.bool false] 28 ?_;intro gb547 hg w24 hbox hb;have BK547:=ak hbox;have GW547:=gw HB hg;have GE547:=gw HB hg;replace HB:=bs HB hb;clear hb hbox hg)|(refine bx 15 #[.slice A0 l0.length c0,.int .i64 0,.int .u64 0] 95 ?_;intro gb548 hg w25 hbox hb;have NB547_548:=nl BK547 hg;have NB548_547:=ng BK547 hg;replace BK547:=kb BK547 hb;have HI548:=ak ((⟨_,_,hbox,(by rw[hg];exact(below_size (h1 HB.out GE547.out)):w.heap.size≤gb548),HR0.out⟩:IsS95 w w25 gb548 l0 0 0));replace HB:=ak (below_step (h1 HB.out GE547.out) hb);clear hb hbox hg)|(refine gs 18 Try.func73 #[.pointer (some ⟨gb548,0,none⟩)] ?_;(with_reducible refine(spec_l1Cur_ask7.calls k gb548 l0 0 0 t549 t550 t551 t554 t555 t556 t557 w _ ?side1 ?side2 A2.out).mono ?_);(case side1=>exact IsS95.now HI548.out);(case side2=>exact h2 HB.out (IsS95.ge HI548.out) GE547.out);rintro e w26 ⟨v552,rfl,ho0,hi,hb,hk⟩;refine⟨_,rfl,?_⟩;replace BK547:=kk BK547 hk NB547_548;have HO553:=ak (R_lower ho0 (below_size (h2 HB.out (IsS95.ge HI548.out) GE547.out)));replace HB:=ak hb;replace HI548:=ak hi;(try clear hb);(try clear hk);(try clear hi);(try clear ho0))|(refine bx 8 #[.int .i64 0,.bool false] 28 ?_;intro gb558 hg w27 hbox hb;replace HO553:=rb HO553 hb;have BK558:=ak hbox;have GW558:=ak ((by rw[hg];exact(below_size (h2 HB.out (IsS95.ge HI548.out) GE547.out)):w.heap.size≤gb558));have GE558:=ak ((by rw[hg];exact(below_size (h2 HB.out (IsS95.ge HI548.out) GE547.out)):w.heap.size≤gb558));replace HB:=ak (below_step (h2 HB.out (IsS95.ge HI548.out) GE547.out) hb);have NB547_558:=nl BK547 hg;have NB558_547:=ng BK547 hg;replace BK547:=kb BK547 hb;have NB548_558:=ak ((by rw[hg];exact Nat.ne_of_lt (IsS95.lt (show IsS95 w _ gb548 l0 t556 t557 from by exact IsS95.now HI548.out)):gb548≠gb558));have NB558_548:=ak ((by rw[hg];exact Nat.ne_of_gt (IsS95.lt (show IsS95 w _ gb548 l0 t556 t557 from by exact IsS95.now HI548.out)):gb558≠gb548));replace HI548:=ak (IsS95.below (by exact IsS95.now HI548.out) hb);clear hb hbox hg;have hnb28:=NB558_547.out;have hnc28:=NB547_558.out;have hnb29:=NB558_548.out;have hnc29:=NB548_558.out;have hcz30_0:=bc BK558 0 rfl;have hcz30_1:=bc BK558 1 rfl;have hfz30_0:=bf BK558 0;have hfz30_1:=bf BK558 1;obtain⟨Ao31,co31,eo31⟩:=R_slice HO553.out;subst eo31)|(refine gs 28 Try.func90 #[.pointer (some ⟨gb548,0,none⟩),.agg #[.int .i64 t549,.bool t550],.slice Ao31 t551.length co31,.int .i64 t554,.int .i64 t555] ?_;(with_reducible refine(spec_l1Cur_legs7.calls k gb548 l0 t556 t557 t549 t550 _ _ t551 t554 t555 t559 t562 t563 w _ ?side1 ?side2 ?side3 ?side4 A3.out).mono ?_);(case side1=>exact IsS95.now HI548.out);(case side2=>exact h3 HB.out (IsS95.ge HI548.out) GE547.out GE558.out);(case side3=>exact C_foot_own (IsS95.apart (show IsS95 w _ gb548 l0 t556 t557 from by exact IsS95.now HI548.out) (by(with_reducible repeat(first|apply R_alloc|apply R_drewN|apply R_drew));exact(R_mono (R_far (p:=⟨gb558,1,none⟩) (R_far (p:=⟨gb558,0,none⟩) (R_types HO553.out BK558.out (by decide)) (fun _ hk=>hk.2) (.int .i64 t549)) (fun _ hk=>hk.2) (.bool t550)) (fun _ h_=>h_.1))) (by decide)) (fun _ h_=>h_.2));(case side4=>exact(R_reads' HO553.out).2.1);rintro e w32 ⟨v560,rfl,ho0,hi,hb,hk⟩;refine⟨_,rfl,?_⟩;replace BK547:=ak (KeepBut.blk hk (g':=gb547) (o:=.cells #[.int .i64 0,.bool false] 28 (0,0)) (by(with_reducible repeat(first|apply blk_drewN|apply blk_drew|apply blk_alloc));refine blk_far ?_ NB547_558.out _;(with_reducible repeat(first|apply blk_drewN|apply blk_drew|apply blk_alloc));refine blk_far ?_ NB547_558.out _;exact bm BK547.out) NB547_548.out (by simp));replace HO553:=ak (R_mono (R_keep (IsS95.apart (show IsS95 w _ gb548 l0 t556 t557 from by exact IsS95.now HI548.out) (by(with_reducible repeat(first|apply R_alloc|apply R_drewN|apply R_drew));exact(R_mono (R_far (p:=⟨gb558,1,none⟩) (R_far (p:=⟨gb558,0,none⟩) (R_types HO553.out BK558.out (by decide)) (fun _ hk=>hk.2) (.int .i64 t549)) (fun _ hk=>hk.2) (.bool t550)) (fun _ h_=>h_.1))) (by decide)) hk (fun _ h=>h.2)) (fun _ h=>h.1));replace BK558:=ak (KeepBut.blk hk (g':=gb558) (o:=.cells #[.int .i64 t549,.bool t550] 28 (0,0)) (by(with_reducible repeat(first|apply blk_drewN|apply blk_drew|apply blk_alloc));refine blk_put (cs:=#[.int .i64 t549,.bool false]) ?_ 1 _ rfl;(with_reducible repeat(first|apply blk_drewN|apply blk_drew|apply blk_alloc));refine blk_put (cs:=#[.int .i64 0,.bool false]) ?_ 0 _ rfl;exact bm BK558.out) NB558_548.out (by simp));have HO561:=ak (R_lower ho0 (below_size (h3 HB.out (IsS95.ge HI548.out) GE547.out GE558.out)));replace HB:=ak hb;replace HI548:=ak hi;(try clear hb);(try clear hk);(try clear hi);(try clear ho0);obtain⟨Ao33,co33,eo33⟩:=R_slice HO561.out;subst eo33)|(go_at_call 81;(with_reducible refine(spec_l1Cur_one.calls gb548 l0 t562 t563 4 false t565 t566 w _ ?side1 ?side2 A5.out).mono ?_);(case side1=>exact IsS95.now HI548.out);(case side2=>exact h3 HB.out (IsS95.ge HI548.out) GE547.out GE558.out);rintro e w34 ⟨rfl,hi,hb,hk⟩;replace BK547:=kk BK547 hk NB547_548;replace HO553:=ak (R_mono (R_keep (IsS95.apart (show IsS95 w _ gb548 l0 t562 t563 from by exact IsS95.now HI548.out) (rm HO553.out) (by decide)) hk (fun _ h=>h.2)) (fun _ h=>h.1));replace BK558:=kk BK558 hk NB558_548;replace HO561:=ak (R_mono (R_keep (IsS95.apart (show IsS95 w _ gb548 l0 t562 t563 from by exact IsS95.now HI548.out) (rm HO561.out) (by decide)) hk (fun _ h=>h.2)) (fun _ h=>h.1));replace HB:=ak hb;replace HI548:=ak hi;(try clear hb);(try clear hk);(try clear hi);have p567:0≤((ji21):Int):=od;have q567: (ji21)<(t559.length:Int):=od;obtain⟨ad567,e567,hx567_0,hx567_1,hx567_2⟩:=at_T70 (R_reads' HO561.out).2.2 (ji21) p567 q567;cases e567;replace p567:=eq_true p567;replace q567:=eq_true q567;have hcz35_0:=bc BK558 0 rfl;have hcz35_1:=bc BK558 1 rfl;have hfz35_0:=bf BK558 0;have hfz35_1:=bf BK558 1;have hnb36:=NB547_548.out;have hnc36:=NB548_547.out;have hcz37_0:=bc BK547 0 rfl;have hcz37_1:=bc BK547 1 rfl;have hfz37_0:=bf BK547 0;have hfz37_1:=bf BK547 1))
 refine bodyPost_ret (results_list (rs:=[.cell 2 28,.tmp 3,.tmp 4,.tmp 5,.tmp 6]) rfl (by simp) (.cell gb547 28 #[.int .i64 t549,.bool t550] (0,0) _ rfl (by(with_reducible repeat(first|apply blk_drewN|apply blk_drew|apply blk_alloc));refine blk_put (cs:=#[.int .i64 t549,.bool false]) ?_ 1 _ rfl;(with_reducible repeat(first|apply blk_drewN|apply blk_drew|apply blk_alloc));refine blk_put (cs:=#[.int .i64 0,.bool false]) ?_ 0 _ rfl;exact bm BK547.out) Try.underlying28 rfl (by kernel_rfl) (.tmp (.tmp (.tmp (.tmp .nil)))))) rfl ?_
 exact⟨_,_,by first|rfl|(simp[errW_none,errW_some]<;>rfl)|(simp only[←hji21];first|rfl|(simp[errW_none,errW_some]<;>rfl))|(simp[*,errW_none,errW_some]<;>rfl),by(with_reducible repeat(first|apply R_alloc|apply R_drewN|apply R_drew));exact R_mono (R_far (p:=⟨gb547,1,none⟩) (R_far (p:=⟨gb547,0,none⟩) (R_types HO553.out BK547.out (by decide)) (fun _ hk=>hk.2) (.int .i64 t549)) (fun _ hk=>hk.2) (.bool t550)) (fun _ hk=>trivial),by(with_reducible repeat(first|apply R_alloc|apply R_drewN|apply R_drew));exact R_mono (R_far (p:=⟨gb547,1,none⟩) (R_far (p:=⟨gb547,0,none⟩) (R_types HO561.out BK547.out (by decide)) (fun _ hk=>hk.2) (.int .i64 t549)) (fun _ hk=>hk.2) (.bool t550)) (fun _ hk=>trivial),h3 HB.out (IsS95.ge HI548.out) GE547.out GE558.out⟩
def impl_IsRelay.f (k:Nat) (a0_0:Int) (a0_1:Bool) (l1:List (S63)) (a2:Int) (a3:Int) (l4:List (S70)):Option (Bool × Bool):=(impl_isCarried.f k a0_0 a0_1 l1 (([a2,a3]:List Int))).bind fun t572=>(if t572=true then((impl_Road_isRelay.f k a0_0 a0_1 l1 a2 a3 l4).bind fun t573=>(some (t573,true)))else(some (false,false)))
theorem impl_IsRelay.mono:∀ a0 a1 a2 a3 a4 a5 k,LeO (impl_IsRelay.f k a0 a1 a2 a3 a4 a5) (impl_IsRelay.f (k+1) a0 a1 a2 a3 a4 a5):=by
 intro a0 a1 a2 a3 a4 a5 k
 unfold impl_IsRelay.f
 repeat' (with_reducible first|exact impl_Road_isRelay.mono ..|exact impl_isCarried.mono ..|exact LeO.refl _|exact LeO.none _|refine LeO.ite ?_ ?_|refine LeO.bind ?_ (fun _=>?_))
set_option maxHeartbeats 8000000 in
set_option maxRecDepth 100000 in
theorem impl_IsRelay.calls (k:Nat) (a0_0:Int) (a0_1:Bool) (A1:Option Addr) (c1:Nat) (l1:List (S63)) (a2:Int) (a3:Int) (A4:Option Addr) (c4:Nat) (l4:List (S70)) (r1:Bool) (r2:Bool) (w:World) (hr1:Kd.C k63 w A1 l1.length l1) (hc1:l1.length≤c1) (hr4:Kd.C k70 w A4 l4.length l4) (hc4:l4.length≤c4) (h:impl_IsRelay.f k a0_0 a0_1 l1 a2 a3 l4=some (r1,r2)):
  Calls Try.prog 47 #[.agg #[.int .i64 a0_0,.bool a0_1],.slice A1 l1.length c1,.int .i64 a2,.int .i64 a3,.slice A4 l4.length c4] w fun e w'=>e= .returned (.tuple #[.bool r1,.bool r2])∧Below w.heap.size w w':=by
 have hu28:=Try.underlying28
 have HR1:=Aside0.mk hr1
 have HC1:=Aside0.mk hc1
 clear hr1 hc1
 have HR4:=Aside0.mk hr4
 have HC4:=Aside0.mk hc4
 clear hr4 hc4
 have HB:=Aside0.mk (Below.refl w.heap.size w)
 unfold impl_IsRelay.f at h
 have H:=h
 clear h
 generalize hy569: ([a2,a3]:List Int)=y569 at H
 have Ny569:=ak hy569.symm
 clear hy569
 obtain⟨t572,A6,H⟩:=bd H;(try dsimp only at H)
 by_cases c7:t572=true
 rotate_left
 ·replace c7:=Bool.eq_false_iff.mpr c7
  subst c7
  rw[if_neg (show ¬(false=true)by decide)]at H
  simp only[Option.some.injEq,Prod.mk.injEq]at H
  obtain⟨rfl,rfl⟩:=H
  go_enter Try.func47,Try.ntmps47
  go_wp2_with (first|(refine bx 5 #[.int .i64 a0_0,.bool a0_1] 28 ?_;intro gb568 hg w17 hbox hb;have BK568:=ak hbox;have GW568:=gw HB hg;have GE568:=gw HB hg;replace HB:=bs HB hb;clear hb hbox hg;have hcz18_0:=bc BK568 0 rfl;have hcz18_1:=bc BK568 1 rfl;have hfz18_0:=bf BK568 0;have hfz18_1:=bf BK568 1)|((with_reducible refine gate_dst (N:=16) rfl ?_);refine R_lit (Kd.int .i64) _ 3 ?hg (N:=16) ?hd (xs:=([a2,a3]:List Int)) (inner:=[.int .i64 a2,.int .i64 a3]) (ok:=fun _=>True) (okp:=fun _=>True) ?hr ?hp (fun _ hk=>hk) trivial (Below.refl _ _) (Nat.le_refl _) (by simp) ?_;(case hd=>rfl);(case hg=>rfl);(case hr=>first|(go_simp;done)|(go_simp;rfl));(case hp=>exact(Reps.one (show Kd.M (Kd.int .i64) _ _ _ a2 [.int .i64 a2]from rfl) (Reps.one (show Kd.M (Kd.int .i64) _ _ _ a3 [.int .i64 a3]from rfl) (Reps.none _ _))));intro v570 w19 ho20 hb hg_ hnew_;clear hg_ hnew_;(first|rw[←Ny569.out]at ho20|(simp only[Int.reduceToNat]at ho20;rw[←Ny569.out]at ho20));have HO571:=ak (R_lower ho20 (below_size (h1 HB.out GE568.out)));replace BK568:=kb BK568 hb;replace HB:=ak (below_step (h1 HB.out GE568.out) hb);clear hb ho20;obtain⟨Ao21,co21,eo21⟩:=R_slice HO571.out;subst eo21)|(refine gs 17 Try.func63 #[.agg #[.int .i64 a0_0,.bool a0_1],.slice A1 l1.length c1,.slice Ao21 y569.length co21] ?_;(with_reducible refine(impl_isCarried.calls k a0_0 a0_1 _ _ l1 _ _ y569 false _ ?side1 ?side2 ?side3 ?side4 A6.out).mono ?_);(case side1=>exact cm (C_below HR1.out HB.out));(case side2=>exact HC1.out);(case side3=>exact cm (R_reads' HO571.out).2.2);(case side4=>exact(R_reads' HO571.out).2.1);rintro e w22 ⟨rfl,hb⟩;refine⟨_,rfl,?_⟩;replace HO571:=rb HO571 hb;replace BK568:=kb BK568 hb;replace HB:=ak (below_step (h1 HB.out GE568.out) hb);(try clear hb);(try clear hk);(try clear hi)))
  go_ret2
  exact⟨fe,h1 HB.out GE568.out⟩
 subst c7
 rw[if_pos rfl]at H
 obtain⟨t573,A8,H⟩:=bd H;(try dsimp only at H)
 simp only[Option.some.injEq,Prod.mk.injEq]at H
 obtain⟨rfl,rfl⟩:=H
 go_enter Try.func47,Try.ntmps47
 go_wp2_with (first|(refine bx 5 #[.int .i64 a0_0,.bool a0_1] 28 ?_;intro gb568 hg w9 hbox hb;have BK568:=ak hbox;have GW568:=gw HB hg;have GE568:=gw HB hg;replace HB:=bs HB hb;clear hb hbox hg;have hcz10_0:=bc BK568 0 rfl;have hcz10_1:=bc BK568 1 rfl;have hfz10_0:=bf BK568 0;have hfz10_1:=bf BK568 1)|((with_reducible refine gate_dst (N:=16) rfl ?_);refine R_lit (Kd.int .i64) _ 3 ?hg (N:=16) ?hd (xs:=([a2,a3]:List Int)) (inner:=[.int .i64 a2,.int .i64 a3]) (ok:=fun _=>True) (okp:=fun _=>True) ?hr ?hp (fun _ hk=>hk) trivial (Below.refl _ _) (Nat.le_refl _) (by simp) ?_;(case hd=>rfl);(case hg=>rfl);(case hr=>first|(go_simp;done)|(go_simp;rfl));(case hp=>exact(Reps.one (show Kd.M (Kd.int .i64) _ _ _ a2 [.int .i64 a2]from rfl) (Reps.one (show Kd.M (Kd.int .i64) _ _ _ a3 [.int .i64 a3]from rfl) (Reps.none _ _))));intro v570 w11 ho12 hb hg_ hnew_;clear hg_ hnew_;(first|rw[←Ny569.out]at ho12|(simp only[Int.reduceToNat]at ho12;rw[←Ny569.out]at ho12));have HO571:=ak (R_lower ho12 (below_size (h1 HB.out GE568.out)));replace BK568:=kb BK568 hb;replace HB:=ak (below_step (h1 HB.out GE568.out) hb);clear hb ho12;obtain⟨Ao13,co13,eo13⟩:=R_slice HO571.out;subst eo13)|(refine gs 17 Try.func63 #[.agg #[.int .i64 a0_0,.bool a0_1],.slice A1 l1.length c1,.slice Ao13 y569.length co13] ?_;(with_reducible refine(impl_isCarried.calls k a0_0 a0_1 _ _ l1 _ _ y569 true _ ?side1 ?side2 ?side3 ?side4 A6.out).mono ?_);(case side1=>exact cm (C_below HR1.out HB.out));(case side2=>exact HC1.out);(case side3=>exact cm (R_reads' HO571.out).2.2);(case side4=>exact(R_reads' HO571.out).2.1);rintro e w14 ⟨rfl,hb⟩;refine⟨_,rfl,?_⟩;replace HO571:=rb HO571 hb;replace BK568:=kb BK568 hb;replace HB:=ak (below_step (h1 HB.out GE568.out) hb);(try clear hb);(try clear hk);(try clear hi);have hcz15_0:=bc BK568 0 rfl;have hcz15_1:=bc BK568 1 rfl;have hfz15_0:=bf BK568 0;have hfz15_1:=bf BK568 1)|(refine gs 24 Try.func64 #[.agg #[.int .i64 a0_0,.bool a0_1],.slice A1 l1.length c1,.int .i64 a2,.int .i64 a3,.slice A4 l4.length c4] ?_;(with_reducible refine(impl_Road_isRelay.calls k a0_0 a0_1 _ _ l1 a2 a3 _ _ l4 t573 _ ?side1 ?side2 ?side3 ?side4 A8.out).mono ?_);(case side1=>exact cm (C_below HR1.out HB.out));(case side2=>exact HC1.out);(case side3=>exact cm (C_below HR4.out HB.out));(case side4=>exact HC4.out);rintro e w16 ⟨rfl,hb⟩;refine⟨_,rfl,?_⟩;replace HO571:=rb HO571 hb;replace BK568:=kb BK568 hb;replace HB:=ak (below_step (h1 HB.out GE568.out) hb);(try clear hb);(try clear hk);(try clear hi)))
 go_ret2
 exact⟨fe,h1 HB.out GE568.out⟩
def spec_IsRelay.f (k:Nat) (a0_0:Int) (a0_1:Bool) (l1:List (S63)) (a2:Int) (a3:Int) (l4:List (S70)):Option (Bool × Bool):=(spec_l7Asks.f k a0_0 a0_1 l1 a2 a3).bind fun t575=>(if t575=true then((spec_l7Relay.f k a0_0 a0_1 l1 a2 a3 l4).bind fun t576=>(some (t576,true)))else(some (false,false)))
theorem spec_IsRelay.mono:∀ a0 a1 a2 a3 a4 a5 k,LeO (spec_IsRelay.f k a0 a1 a2 a3 a4 a5) (spec_IsRelay.f (k+1) a0 a1 a2 a3 a4 a5):=by
 intro a0 a1 a2 a3 a4 a5 k
 unfold spec_IsRelay.f
 repeat' (with_reducible first|exact spec_l7Asks.mono ..|exact spec_l7Relay.mono ..|exact LeO.refl _|exact LeO.none _|refine LeO.ite ?_ ?_|refine LeO.bind ?_ (fun _=>?_))
set_option maxHeartbeats 8000000 in
set_option maxRecDepth 100000 in
theorem spec_IsRelay.calls (k:Nat) (a0_0:Int) (a0_1:Bool) (A1:Option Addr) (c1:Nat) (l1:List (S63)) (a2:Int) (a3:Int) (A4:Option Addr) (c4:Nat) (l4:List (S70)) (r1:Bool) (r2:Bool) (w:World) (hr1:Kd.C k63 w A1 l1.length l1) (hc1:l1.length≤c1) (hr4:Kd.C k70 w A4 l4.length l4) (hc4:l4.length≤c4) (h:spec_IsRelay.f k a0_0 a0_1 l1 a2 a3 l4=some (r1,r2)):
  Calls Try.prog 48 #[.agg #[.int .i64 a0_0,.bool a0_1],.slice A1 l1.length c1,.int .i64 a2,.int .i64 a3,.slice A4 l4.length c4] w fun e w'=>e= .returned (.tuple #[.bool r1,.bool r2])∧Below w.heap.size w w':=by
 have hu28:=Try.underlying28
 have HR1:=Aside0.mk hr1
 have HC1:=Aside0.mk hc1
 clear hr1 hc1
 have HR4:=Aside0.mk hr4
 have HC4:=Aside0.mk hc4
 clear hr4 hc4
 have HB:=Aside0.mk (Below.refl w.heap.size w)
 unfold spec_IsRelay.f at h
 have H:=h
 clear h
 obtain⟨t575,A6,H⟩:=bd H;(try dsimp only at H)
 by_cases c7:t575=true
 rotate_left
 ·replace c7:=Bool.eq_false_iff.mpr c7
  subst c7
  rw[if_neg (show ¬(false=true)by decide)]at H
  simp only[Option.some.injEq,Prod.mk.injEq]at H
  obtain⟨rfl,rfl⟩:=H
  go_enter Try.func48,Try.ntmps48
  go_wp2_with (first|(refine bx 5 #[.int .i64 a0_0,.bool a0_1] 28 ?_;intro gb574 hg w14 hbox hb;have BK574:=ak hbox;have GW574:=gw HB hg;have GE574:=gw HB hg;replace HB:=bs HB hb;clear hb hbox hg;have hcz15_0:=bc BK574 0 rfl;have hcz15_1:=bc BK574 1 rfl;have hfz15_0:=bf BK574 0;have hfz15_1:=bf BK574 1)|(refine gs 16 Try.func55 #[.agg #[.int .i64 a0_0,.bool a0_1],.slice A1 l1.length c1,.int .i64 a2,.int .i64 a3] ?_;(with_reducible refine(spec_l7Asks.calls k a0_0 a0_1 _ _ l1 a2 a3 false _ ?side1 ?side2 A6.out).mono ?_);(case side1=>exact cm (C_below HR1.out HB.out));(case side2=>exact HC1.out);rintro e w16 ⟨rfl,hb⟩;refine⟨_,rfl,?_⟩;replace BK574:=kb BK574 hb;replace HB:=ak (below_step (h1 HB.out GE574.out) hb);(try clear hb);(try clear hk);(try clear hi)))
  go_ret2
  exact⟨fe,h1 HB.out GE574.out⟩
 subst c7
 rw[if_pos rfl]at H
 obtain⟨t576,A8,H⟩:=bd H;(try dsimp only at H)
 simp only[Option.some.injEq,Prod.mk.injEq]at H
 obtain⟨rfl,rfl⟩:=H
 go_enter Try.func48,Try.ntmps48
 go_wp2_with (first|(refine bx 5 #[.int .i64 a0_0,.bool a0_1] 28 ?_;intro gb574 hg w9 hbox hb;have BK574:=ak hbox;have GW574:=gw HB hg;have GE574:=gw HB hg;replace HB:=bs HB hb;clear hb hbox hg;have hcz10_0:=bc BK574 0 rfl;have hcz10_1:=bc BK574 1 rfl;have hfz10_0:=bf BK574 0;have hfz10_1:=bf BK574 1)|(refine gs 16 Try.func55 #[.agg #[.int .i64 a0_0,.bool a0_1],.slice A1 l1.length c1,.int .i64 a2,.int .i64 a3] ?_;(with_reducible refine(spec_l7Asks.calls k a0_0 a0_1 _ _ l1 a2 a3 true _ ?side1 ?side2 A6.out).mono ?_);(case side1=>exact cm (C_below HR1.out HB.out));(case side2=>exact HC1.out);rintro e w11 ⟨rfl,hb⟩;refine⟨_,rfl,?_⟩;replace BK574:=kb BK574 hb;replace HB:=ak (below_step (h1 HB.out GE574.out) hb);(try clear hb);(try clear hk);(try clear hi);have hcz12_0:=bc BK574 0 rfl;have hcz12_1:=bc BK574 1 rfl;have hfz12_0:=bf BK574 0;have hfz12_1:=bf BK574 1)|(refine gs 23 Try.func60 #[.agg #[.int .i64 a0_0,.bool a0_1],.slice A1 l1.length c1,.int .i64 a2,.int .i64 a3,.slice A4 l4.length c4] ?_;(with_reducible refine(spec_l7Relay.calls k a0_0 a0_1 _ _ l1 a2 a3 _ _ l4 t576 _ ?side1 ?side2 ?side3 ?side4 A8.out).mono ?_);(case side1=>exact cm (C_below HR1.out HB.out));(case side2=>exact HC1.out);(case side3=>exact cm (C_below HR4.out HB.out));(case side4=>exact HC4.out);rintro e w13 ⟨rfl,hb⟩;refine⟨_,rfl,?_⟩;replace BK574:=kb BK574 hb;replace HB:=ak (below_step (h1 HB.out GE574.out) hb);(try clear hb);(try clear hk);(try clear hi)))
 go_ret2
 exact⟨fe,h1 HB.out GE574.out⟩
def spec_DrawLegEnd.f (k:Nat) (l0:List Int):Option (Int × Bool × Int × Int × Int × Int):=(spec_l1Cur_line.f l0 0 0).bind fun bt580=>((spec_l1Cur_carriers7.f k l0 bt580.2.2.1 bt580.2.2.2 bt580.1 bt580.2.1).bind fun bt585=>(if(bt585.1.length:Int)=0 then((spec_l1Cur_placeOn.f l0 bt585.2.1 bt585.2.2 bt580.1 bt580.2.1).bind fun bt590=>(some (bt580.1,bt580.2.1,0,3,0,bt590.1)))else(if 0≤(wrap64 ((bt585.1.length:Int)-1))then(if(wrap64 ((bt585.1.length:Int)-1))<(bt585.1.length:Int)then((spec_l1Cur_placeOn.f l0 bt585.2.1 bt585.2.2 bt580.1 bt580.2.1).bind fun bt594=>(some (bt580.1,bt580.2.1,(rd_T63 bt585.1 (wrap64 ((bt585.1.length:Int)-1))).f0,(rd_T63 bt585.1 (wrap64 ((bt585.1.length:Int)-1))).f1,(rd_T63 bt585.1 (wrap64 ((bt585.1.length:Int)-1))).f2,bt594.1)))else(none))else(none))))
theorem spec_DrawLegEnd.mono:∀ a0 k,LeO (spec_DrawLegEnd.f k a0) (spec_DrawLegEnd.f (k+1) a0):=by
 intro a0 k
 unfold spec_DrawLegEnd.f
 repeat' (with_reducible first|exact spec_l1Cur_carriers7.mono ..|exact LeO.refl _|exact LeO.none _|refine LeO.ite ?_ ?_|refine LeO.bind ?_ (fun _=>?_))
def spec_DrawLegEnd.T5:Bool × List (List Nat × List Nat):=(true,[([],[]),([],[]),([],[]),([],[]),([2,3],[2,3]),([0,4,0],[0]),([1,5,0,1,5],[1]),([4,6,0,1,2,3,4,5,6],[4])])
def spec_DrawLegEnd.B5:List Nat:=[0,0,0,0,12,29,63,127]
theorem spec_DrawLegEnd.tab5:rtab .any (opsOf Try.f49 5)=spec_DrawLegEnd.T5:=by kernel_rfl
theorem spec_DrawLegEnd.bits5:waitsOk spec_DrawLegEnd.T5.2 spec_DrawLegEnd.B5=true:=by kernel_rfl
def spec_DrawLegEnd.T6:Bool × List (List Nat × List Nat):=(true,[([],[]),([],[]),([],[]),([2],[2]),([3],[3]),([1,4],[1,4]),([5],[5]),([],[]),([],[]),([7,8],[7,8]),([0,9,0],[0]),([6,10,0,1,2,3,4,5,6,10],[6]),([9,11,0,1,2,3,4,5,6,7,8,9,10,11],[9])])
def spec_DrawLegEnd.B6:List Nat:=[0,0,0,4,12,30,62,0,0,384,897,2047,4095]
theorem spec_DrawLegEnd.tab6:rtab .any (opsOf Try.f49 6)=spec_DrawLegEnd.T6:=by kernel_rfl
theorem spec_DrawLegEnd.bits6:waitsOk spec_DrawLegEnd.T6.2 spec_DrawLegEnd.B6=true:=by kernel_rfl
set_option maxHeartbeats 8000000 in
set_option maxRecDepth 100000 in
theorem spec_DrawLegEnd.calls (k:Nat) (A0:Option Addr) (c0:Nat) (l0:List Int) (r1:Int) (r2:Bool) (r3:Int) (r4:Int) (r5:Int) (r6:Int) (w:World) (hr0:Kd.C (Kd.int .u8) w A0 l0.length l0) (hc0:l0.length≤c0) (h:spec_DrawLegEnd.f k l0=some (r1,r2,r3,r4,r5,r6)):
  Calls Try.prog 49 #[.slice A0 l0.length c0] w fun e w'=>e= .returned (.tuple #[.agg #[.int .i64 r1,.bool r2],.agg #[.int .i64 r3,.int .i64 r4,.int .i64 r5],.int .i64 r6])∧Below w.heap.size w w':=by
 have hu28:=Try.underlying28
 have hu63:=Try.underlying63
 have hu95:=Try.underlying95
 have HR0:=Aside0.mk hr0
 have HC0:=Aside0.mk hc0
 clear hr0 hc0
 have HB:=Aside0.mk (Below.refl w.heap.size w)
 unfold spec_DrawLegEnd.f at h
 have H:=h
 clear h
 obtain⟨⟨t580,t581,t582,t583⟩,A2,H⟩:=bd H;(try dsimp only at H)
 obtain⟨⟨t585,t588,t589⟩,A3,H⟩:=bd H;(try dsimp only at H)
 by_cases c4: (t585.length:Int)=0
 ·rw[if_pos c4]at H
  have c4b0: ((t585.length:Int)==0)=true:=beq_iff_eq.mpr c4
  have c4b1: ((t585.length:Int) !=0)=false:=bne_eq_false_iff_eq.mpr c4
  clear c4
  obtain⟨⟨t590,t591,t592⟩,A5,H⟩:=bd H;(try dsimp only at H)
  simp only[Option.some.injEq,Prod.mk.injEq]at H
  obtain⟨rfl,rfl,rfl,rfl,rfl,rfl⟩:=H
  go_enter Try.func49,Try.ntmps49
  try go_wp2_with (first|(refine bx 2 #[.int .i64 0,.bool false] 28 ?_;intro gb577 hg w6 hbox hb;have BK577:=ak hbox;have GW577:=gw HB hg;have GE577:=gw HB hg;replace HB:=bs HB hb;clear hb hbox hg)|(refine bx 3 #[.int .i64 0,.int .i64 0,.int .i64 0] 63 ?_;intro gb578 hg w7 hbox hb;have BK578:=ak hbox;have GW578:=ak ((by rw[hg];exact(below_size (h1 HB.out GE577.out)):w.heap.size≤gb578));have GE578:=ak ((by rw[hg];exact(below_size (h1 HB.out GE577.out)):w.heap.size≤gb578));replace HB:=ak (below_step (h1 HB.out GE577.out) hb);have NB577_578:=nl BK577 hg;have NB578_577:=ng BK577 hg;replace BK577:=kb BK577 hb;clear hb hbox hg)|(refine bx 10 #[.slice A0 l0.length c0,.int .i64 0,.int .u64 0] 95 ?_;intro gb579 hg w8 hbox hb;have NB577_579:=nl BK577 hg;have NB579_577:=ng BK577 hg;replace BK577:=kb BK577 hb;have NB578_579:=nl BK578 hg;have NB579_578:=ng BK578 hg;replace BK578:=kb BK578 hb;have HI579:=ak ((⟨_,_,hbox,(by rw[hg];exact(below_size (h2 HB.out GE577.out GE578.out)):w.heap.size≤gb579),HR0.out⟩:IsS95 w w8 gb579 l0 0 0));replace HB:=ak (below_step (h2 HB.out GE577.out GE578.out) hb);clear hb hbox hg)|(refine gs 12 Try.func91 #[.pointer (some ⟨gb579,0,none⟩)] ?_;(with_reducible refine(spec_l1Cur_line.calls gb579 l0 0 0 t580 t581 t582 t583 w _ ?side1 ?side2 A2.out).mono ?_);(case side1=>exact IsS95.now HI579.out);(case side2=>exact h3 HB.out (IsS95.ge HI579.out) GE577.out GE578.out);rintro e w9 ⟨rfl,hi,hb,hk⟩;refine⟨_,rfl,?_⟩;replace BK577:=kk BK577 hk NB577_579;replace BK578:=kk BK578 hk NB578_579;replace HB:=ak hb;replace HI579:=ak hi;(try clear hb);(try clear hk);(try clear hi))|(refine bx 6 #[.int .i64 0,.bool false] 28 ?_;intro gb584 hg w10 hbox hb;have BK584:=ak hbox;have GW584:=ak ((by rw[hg];exact(below_size (h3 HB.out (IsS95.ge HI579.out) GE577.out GE578.out)):w.heap.size≤gb584));have GE584:=ak ((by rw[hg];exact(below_size (h3 HB.out (IsS95.ge HI579.out) GE577.out GE578.out)):w.heap.size≤gb584));replace HB:=ak (below_step (h3 HB.out (IsS95.ge HI579.out) GE577.out GE578.out) hb);have NB577_584:=nl BK577 hg;have NB584_577:=ng BK577 hg;replace BK577:=kb BK577 hb;have NB578_584:=nl BK578 hg;have NB584_578:=ng BK578 hg;replace BK578:=kb BK578 hb;have NB579_584:=ak ((by rw[hg];exact Nat.ne_of_lt (IsS95.lt (show IsS95 w _ gb579 l0 t582 t583 from by exact IsS95.now HI579.out)):gb579≠gb584));have NB584_579:=ak ((by rw[hg];exact Nat.ne_of_gt (IsS95.lt (show IsS95 w _ gb579 l0 t582 t583 from by exact IsS95.now HI579.out)):gb584≠gb579));replace HI579:=ak (IsS95.below (by exact IsS95.now HI579.out) hb);clear hb hbox hg;have hnb11:=NB584_577.out;have hnc11:=NB577_584.out;have hnb12:=NB584_578.out;have hnc12:=NB578_584.out;have hnb13:=NB584_579.out;have hnc13:=NB579_584.out;have hcz14_0:=bc BK584 0 rfl;have hcz14_1:=bc BK584 1 rfl;have hfz14_0:=bf BK584 0;have hfz14_1:=bf BK584 1)|(refine gs 15 Try.func92 #[.pointer (some ⟨gb579,0,none⟩),.agg #[.int .i64 t580,.bool t581]] ?_;(with_reducible refine(spec_l1Cur_carriers7.calls k gb579 l0 t582 t583 t580 t581 t585 t588 t589 w _ ?side1 ?side2 A3.out).mono ?_);(case side1=>exact IsS95.now HI579.out);(case side2=>repeat(first|(with_reducible first|exact HB.out|apply below_alloc|apply pw_below_drewN|apply below_drew1|refine below_set ?_ (IsS95.ge HI579.out)|refine below_set ?_ GE577.out|refine below_set ?_ GE578.out|refine below_set ?_ GE584.out)|exact HB.out));rintro e w15 ⟨v586,rfl,ho0,hi,hb,hk⟩;refine⟨_,rfl,?_⟩;replace BK577:=ak (KeepBut.blk hk (g':=gb577) (o:=.cells #[.int .i64 0,.bool false] 28 (0,0)) (by(with_reducible repeat(first|apply blk_drewN|apply blk_drew|apply blk_alloc));refine blk_far ?_ NB577_584.out _;(with_reducible repeat(first|apply blk_drewN|apply blk_drew|apply blk_alloc));refine blk_far ?_ NB577_584.out _;exact bm BK577.out) NB577_579.out (by simp));replace BK584:=ak (KeepBut.blk hk (g':=gb584) (o:=.cells #[.int .i64 t580,.bool t581] 28 (0,0)) (by(with_reducible repeat(first|apply blk_drewN|apply blk_drew|apply blk_alloc));refine blk_put (cs:=#[.int .i64 t580,.bool false]) ?_ 1 _ rfl;(with_reducible repeat(first|apply blk_drewN|apply blk_drew|apply blk_alloc));refine blk_put (cs:=#[.int .i64 0,.bool false]) ?_ 0 _ rfl;exact bm BK584.out) NB584_579.out (by simp));have HO587:=ak (R_lower (R_newB ho0 (g:=gb578) (o:=.cells #[.int .i64 0,.int .i64 0,.int .i64 0] 63 (0,0)) (by(with_reducible repeat(first|apply blk_drewN|apply blk_drew|apply blk_alloc));refine blk_far ?_ NB578_584.out _;(with_reducible repeat(first|apply blk_drewN|apply blk_drew|apply blk_alloc));refine blk_far ?_ NB578_584.out _;exact bm BK578.out)) (below_size (by repeat(first|(with_reducible first|exact HB.out|apply below_alloc|apply pw_below_drewN|apply below_drew1|refine below_set ?_ (IsS95.ge HI579.out)|refine below_set ?_ GE577.out|refine below_set ?_ GE578.out|refine below_set ?_ GE584.out)|exact HB.out))));replace BK578:=ak (KeepBut.blk hk (g':=gb578) (o:=.cells #[.int .i64 0,.int .i64 0,.int .i64 0] 63 (0,0)) (by(with_reducible repeat(first|apply blk_drewN|apply blk_drew|apply blk_alloc));refine blk_far ?_ NB578_584.out _;(with_reducible repeat(first|apply blk_drewN|apply blk_drew|apply blk_alloc));refine blk_far ?_ NB578_584.out _;exact bm BK578.out) NB578_579.out (by simp));replace HB:=ak hb;replace HI579:=ak hi;(try clear hb);(try clear hk);(try clear hi);(try clear ho0);obtain⟨Ao16,co16,eo16⟩:=R_slice HO587.out;subst eo16))
  replace HO587:=ak (R_drew HO587.out)
  replace BK577:=ak (blk_drew BK577.out)
  replace BK578:=ak (blk_drew BK578.out)
  replace BK584:=ak (blk_drew BK584.out)
  replace HI579:=ak (IsS95.drew HI579.out)
  replace HB:=ak (below_drew1 HB.out)
  refine start_ (n:=8) (S:=fun w'=>w'.cell? ⟨gb584,0,none⟩=some (.int .i64 t580)∧w'.cell? ⟨gb584,1,none⟩=some (.bool t581)) (ds:=[]) (lb 8 0) (by kernel_rfl) rfl rfl ⟨bc BK584 0 rfl,bc BK584 1 rfl⟩ (fun hHeld=>?_);refine with_tabW spec_DrawLegEnd.tab5 spec_DrawLegEnd.bits5 (fun HT_ HW_=>?_)
  generalize w15.drew=w17 at HO587 BK577 BK578 BK584 HI579 HB hHeld⊢
  refine pq 1 (N:=some 20) (lb 8 2) HT_ ?_
  refine pq 2 (N:=some 21) (lb 8 6) HT_ ?_
  refine tq 0 (N:=some 19) (lb 8 7) HT_ HW_ hHeld ?_
  refine tq 3 (N:=some 22) (lb 8 15) HT_ HW_ hHeld ?_
  refine one_ (i:=4) (N:=some 23) (lb 8 31) rfl rfl (one_of HT_.out (by kernel_rfl)) (by decide) (fun K hK=>?_)
  refine goes_ Try.func93 (by kernel_rfl) rfl #[.pointer (some ⟨gb579,0,none⟩),.agg #[.int .i64 t580,.bool t581]] (by rfl) rfl rfl gl ?_
  with_reducible refine(spec_l1Cur_placeOn.calls gb579 l0 t588 t589 t580 t581 t590 t591 t592 w _ ?side1 ?side2 A5.out).mono ?_
  (case side1=>exact IsS95.now HI579.out)
  (case side2=>repeat(first|(with_reducible first|exact HB.out|apply below_alloc|apply pw_below_drewN|apply below_drew1|refine below_set ?_ (IsS95.ge HI579.out)|refine below_set ?_ GE577.out|refine below_set ?_ GE578.out|refine below_set ?_ GE584.out)|exact HB.out))
  rintro e w18 ⟨rfl,hi,hb,hk⟩
  refine⟨_,rfl,?_⟩
  replace BK577:=kk BK577 hk NB577_579
  replace BK578:=kk BK578 hk NB578_579
  replace BK584:=kk BK584 hk NB584_579
  replace HO587:=ak (R_mono (R_keep (IsS95.apart (show IsS95 w _ gb579 l0 t588 t589 from by exact IsS95.now HI579.out) (rm HO587.out) (by decide)) hk (fun _ h=>h.2)) (fun _ h=>h.1))
  replace HB:=ak hb
  replace HI579:=ak hi
  (try clear hb)
  (try clear hb2)
  (try clear hk)
  (try clear hi)
  refine hK.out _ _ ⟨bc BK584 0 rfl,bc BK584 1 rfl⟩ (fun hHeld=>?_)
  clear hK K
  refine norm_ (a':=?_) ?_ ?_
  rotate_left
  ·show Act.put _ (some 23) _=_
   simp only[ap]
   rfl
  refine one_ (i:=5) (N:=none) (lb 8 63) rfl rfl (one_of HT_.out (by kernel_rfl)) (by decide) (fun K hK=>?_)
  have hs19:w18.cell? ⟨gb577,0,none⟩=some (.int .i64 0):=bc BK577 0 rfl
  have hfs19:=blk_frozen BK577.out 0
  have hns19_1:=NB578_577.out
  have hns19_2:=NB584_577.out
  have hms19_1:=NB577_578.out
  have hms19_2:=NB577_584.out
  have hs20:w18.cell? ⟨gb577,1,none⟩=some (.bool false):=bc BK577 1 rfl
  have hfs20:=blk_frozen BK577.out 1
  have hns20_1:=NB578_577.out
  have hns20_2:=NB584_577.out
  have hms20_1:=NB577_578.out
  have hms20_2:=NB577_584.out
  refine skip_ (w1:=?_) (by rfl) rfl ?_ ?_
  rotate_left
  ·go_simp
   rfl
  refine hK.out _ _ ⟨((cell_far (p:=⟨gb577,_,none⟩) NB584_577.out _).trans (((cell_far (p:=⟨gb577,_,none⟩) NB584_577.out _).trans (hHeld.1)))),((cell_far (p:=⟨gb577,_,none⟩) NB584_577.out _).trans (((cell_far (p:=⟨gb577,_,none⟩) NB584_577.out _).trans (hHeld.2))))⟩ (fun hHeld=>?_)
  clear hK K
  refine one_ (i:=6) (N:=none) (lb 8 127) rfl rfl (one_of HT_.out (by kernel_rfl)) (by decide) (fun K hK=>?_)
  have hs21:w18.cell? ⟨gb578,0,none⟩=some (.int .i64 0):=bc BK578 0 rfl
  have hfs21:=blk_frozen BK578.out 0
  have hns21_0:=NB577_578.out
  have hns21_2:=NB584_578.out
  have hms21_0:=NB578_577.out
  have hms21_2:=NB578_584.out
  have hs22:w18.cell? ⟨gb578,1,none⟩=some (.int .i64 0):=bc BK578 1 rfl
  have hfs22:=blk_frozen BK578.out 1
  have hns22_0:=NB577_578.out
  have hns22_2:=NB584_578.out
  have hms22_0:=NB578_577.out
  have hms22_2:=NB578_584.out
  have hs23:w18.cell? ⟨gb578,2,none⟩=some (.int .i64 0):=bc BK578 2 rfl
  have hfs23:=blk_frozen BK578.out 2
  have hns23_0:=NB577_578.out
  have hns23_2:=NB584_578.out
  have hms23_0:=NB578_577.out
  have hms23_2:=NB578_584.out
  refine skip_ (w1:=?_) (by rfl) rfl ?_ ?_
  rotate_left
  ·go_simp
   rfl
  refine hK.out _ _ ⟨((cell_far (p:=⟨gb578,_,none⟩) NB584_578.out _).trans (((cell_far (p:=⟨gb578,_,none⟩) NB584_578.out _).trans (((cell_far (p:=⟨gb578,_,none⟩) NB584_578.out _).trans (hHeld.1)))))),((cell_far (p:=⟨gb578,_,none⟩) NB584_578.out _).trans (((cell_far (p:=⟨gb578,_,none⟩) NB584_578.out _).trans (((cell_far (p:=⟨gb578,_,none⟩) NB584_578.out _).trans (hHeld.2))))))⟩ (fun hHeld=>?_)
  clear hK K
  refine pq 7 (N:=some 4) (lb 8 255) HT_ ?_
  refine done_ (done_of HT_.out (by kernel_rfl)) ?_
  try go_wp2
  refine bodyPost_ret (results_list (rs:=[.cell 2 28,.cell 3 63,.tmp 4]) rfl (by simp) (.cell gb577 28 #[.int .i64 t580,.bool t581] (0,0) _ rfl (by(with_reducible repeat(first|apply blk_drewN|apply blk_drew|apply blk_alloc));refine blk_far ?_ NB577_578.out _;(with_reducible repeat(first|apply blk_drewN|apply blk_drew|apply blk_alloc));refine blk_far ?_ NB577_578.out _;(with_reducible repeat(first|apply blk_drewN|apply blk_drew|apply blk_alloc));refine blk_far ?_ NB577_578.out _;(with_reducible repeat(first|apply blk_drewN|apply blk_drew|apply blk_alloc));refine blk_put (cs:=#[.int .i64 t580,.bool false]) ?_ 1 _ rfl;(with_reducible repeat(first|apply blk_drewN|apply blk_drew|apply blk_alloc));refine blk_put (cs:=#[.int .i64 0,.bool false]) ?_ 0 _ rfl;exact bm BK577.out) Try.underlying28 rfl (by kernel_rfl) (.cell gb578 63 #[.int .i64 0,.int .i64 3,.int .i64 0] (0,0) _ rfl (by(with_reducible repeat(first|apply blk_drewN|apply blk_drew|apply blk_alloc));refine blk_put (cs:=#[.int .i64 0,.int .i64 3,.int .i64 0]) ?_ 2 _ rfl;(with_reducible repeat(first|apply blk_drewN|apply blk_drew|apply blk_alloc));refine blk_put (cs:=#[.int .i64 0,.int .i64 0,.int .i64 0]) ?_ 1 _ rfl;(with_reducible repeat(first|apply blk_drewN|apply blk_drew|apply blk_alloc));refine blk_put (cs:=#[.int .i64 0,.int .i64 0,.int .i64 0]) ?_ 0 _ rfl;(with_reducible repeat(first|apply blk_drewN|apply blk_drew|apply blk_alloc));refine blk_far ?_ NB578_577.out _;(with_reducible repeat(first|apply blk_drewN|apply blk_drew|apply blk_alloc));refine blk_far ?_ NB578_577.out _;exact bm BK578.out) Try.underlying63 rfl (by kernel_rfl) (.tmp .nil)))) rfl ?_
  exact⟨fe,by repeat(first|(with_reducible first|exact HB.out|apply below_alloc|apply pw_below_drewN|apply below_drew1|refine below_set ?_ (IsS95.ge HI579.out)|refine below_set ?_ GE577.out|refine below_set ?_ GE578.out|refine below_set ?_ GE584.out)|exact HB.out)⟩
 rw[if_neg c4]at H
 have c4b0: ((t585.length:Int)==0)=false:=beq_eq_false_iff_ne.mpr c4
 have c4b1: ((t585.length:Int) !=0)=true:=bne_iff_ne.mpr c4
 have c4b2:¬(t585=[]):=fun h_=>c4 (by rw[h_];rfl)
 generalize hji24: (wrap64 ((t585.length:Int)-1))=ji24 at H
 (try rw[hji24]at A2)
 (try rw[hji24]at A3)
 have hji24w: (IntKind.i64.wrap ((t585.length:Int)-1))=ji24:=(i64_w _).trans hji24
 obtain⟨c25,H⟩:=gi H
 have c25b0:decide (0≤(ji24))=true:=decide_eq_true c25
 clear c25
 obtain⟨c26,H⟩:=gi H
 have c26b0:decide ((ji24)<(t585.length:Int))=true:=decide_eq_true c26
 clear c26
 obtain⟨⟨t594,t595,t596⟩,A27,H⟩:=bd H;(try dsimp only at H)
 simp only[Option.some.injEq,Prod.mk.injEq]at H
 obtain⟨rfl,rfl,rfl,rfl,rfl,rfl⟩:=H
 go_enter Try.func49,Try.ntmps49
 try go_wp2_with (first|(refine bx 2 #[.int .i64 0,.bool false] 28 ?_;intro gb577 hg w28 hbox hb;have BK577:=ak hbox;have GW577:=gw HB hg;have GE577:=gw HB hg;replace HB:=bs HB hb;clear hb hbox hg)|(refine bx 3 #[.int .i64 0,.int .i64 0,.int .i64 0] 63 ?_;intro gb578 hg w29 hbox hb;have BK578:=ak hbox;have GW578:=ak ((by rw[hg];exact(below_size (h1 HB.out GE577.out)):w.heap.size≤gb578));have GE578:=ak ((by rw[hg];exact(below_size (h1 HB.out GE577.out)):w.heap.size≤gb578));replace HB:=ak (below_step (h1 HB.out GE577.out) hb);have NB577_578:=nl BK577 hg;have NB578_577:=ng BK577 hg;replace BK577:=kb BK577 hb;clear hb hbox hg)|(refine bx 10 #[.slice A0 l0.length c0,.int .i64 0,.int .u64 0] 95 ?_;intro gb579 hg w30 hbox hb;have NB577_579:=nl BK577 hg;have NB579_577:=ng BK577 hg;replace BK577:=kb BK577 hb;have NB578_579:=nl BK578 hg;have NB579_578:=ng BK578 hg;replace BK578:=kb BK578 hb;have HI579:=ak ((⟨_,_,hbox,(by rw[hg];exact(below_size (h2 HB.out GE577.out GE578.out)):w.heap.size≤gb579),HR0.out⟩:IsS95 w w30 gb579 l0 0 0));replace HB:=ak (below_step (h2 HB.out GE577.out GE578.out) hb);clear hb hbox hg)|(refine gs 12 Try.func91 #[.pointer (some ⟨gb579,0,none⟩)] ?_;(with_reducible refine(spec_l1Cur_line.calls gb579 l0 0 0 t580 t581 t582 t583 w _ ?side1 ?side2 A2.out).mono ?_);(case side1=>exact IsS95.now HI579.out);(case side2=>exact h3 HB.out (IsS95.ge HI579.out) GE577.out GE578.out);rintro e w31 ⟨rfl,hi,hb,hk⟩;refine⟨_,rfl,?_⟩;replace BK577:=kk BK577 hk NB577_579;replace BK578:=kk BK578 hk NB578_579;replace HB:=ak hb;replace HI579:=ak hi;(try clear hb);(try clear hk);(try clear hi))|(refine bx 6 #[.int .i64 0,.bool false] 28 ?_;intro gb584 hg w32 hbox hb;have BK584:=ak hbox;have GW584:=ak ((by rw[hg];exact(below_size (h3 HB.out (IsS95.ge HI579.out) GE577.out GE578.out)):w.heap.size≤gb584));have GE584:=ak ((by rw[hg];exact(below_size (h3 HB.out (IsS95.ge HI579.out) GE577.out GE578.out)):w.heap.size≤gb584));replace HB:=ak (below_step (h3 HB.out (IsS95.ge HI579.out) GE577.out GE578.out) hb);have NB577_584:=nl BK577 hg;have NB584_577:=ng BK577 hg;replace BK577:=kb BK577 hb;have NB578_584:=nl BK578 hg;have NB584_578:=ng BK578 hg;replace BK578:=kb BK578 hb;have NB579_584:=ak ((by rw[hg];exact Nat.ne_of_lt (IsS95.lt (show IsS95 w _ gb579 l0 t582 t583 from by exact IsS95.now HI579.out)):gb579≠gb584));have NB584_579:=ak ((by rw[hg];exact Nat.ne_of_gt (IsS95.lt (show IsS95 w _ gb579 l0 t582 t583 from by exact IsS95.now HI579.out)):gb584≠gb579));replace HI579:=ak (IsS95.below (by exact IsS95.now HI579.out) hb);clear hb hbox hg;have hnb33:=NB584_577.out;have hnc33:=NB577_584.out;have hnb34:=NB584_578.out;have hnc34:=NB578_584.out;have hnb35:=NB584_579.out;have hnc35:=NB579_584.out;have hcz36_0:=bc BK584 0 rfl;have hcz36_1:=bc BK584 1 rfl;have hfz36_0:=bf BK584 0;have hfz36_1:=bf BK584 1)|(refine gs 15 Try.func92 #[.pointer (some ⟨gb579,0,none⟩),.agg #[.int .i64 t580,.bool t581]] ?_;(with_reducible refine(spec_l1Cur_carriers7.calls k gb579 l0 t582 t583 t580 t581 t585 t588 t589 w _ ?side1 ?side2 A3.out).mono ?_);(case side1=>exact IsS95.now HI579.out);(case side2=>repeat(first|(with_reducible first|exact HB.out|apply below_alloc|apply pw_below_drewN|apply below_drew1|refine below_set ?_ (IsS95.ge HI579.out)|refine below_set ?_ GE577.out|refine below_set ?_ GE578.out|refine below_set ?_ GE584.out)|exact HB.out));rintro e w37 ⟨v586,rfl,ho0,hi,hb,hk⟩;refine⟨_,rfl,?_⟩;replace BK577:=ak (KeepBut.blk hk (g':=gb577) (o:=.cells #[.int .i64 0,.bool false] 28 (0,0)) (by(with_reducible repeat(first|apply blk_drewN|apply blk_drew|apply blk_alloc));refine blk_far ?_ NB577_584.out _;(with_reducible repeat(first|apply blk_drewN|apply blk_drew|apply blk_alloc));refine blk_far ?_ NB577_584.out _;exact bm BK577.out) NB577_579.out (by simp));replace BK584:=ak (KeepBut.blk hk (g':=gb584) (o:=.cells #[.int .i64 t580,.bool t581] 28 (0,0)) (by(with_reducible repeat(first|apply blk_drewN|apply blk_drew|apply blk_alloc));refine blk_put (cs:=#[.int .i64 t580,.bool false]) ?_ 1 _ rfl;(with_reducible repeat(first|apply blk_drewN|apply blk_drew|apply blk_alloc));refine blk_put (cs:=#[.int .i64 0,.bool false]) ?_ 0 _ rfl;exact bm BK584.out) NB584_579.out (by simp));have HO587:=ak (R_lower (R_newB ho0 (g:=gb578) (o:=.cells #[.int .i64 0,.int .i64 0,.int .i64 0] 63 (0,0)) (by(with_reducible repeat(first|apply blk_drewN|apply blk_drew|apply blk_alloc));refine blk_far ?_ NB578_584.out _;(with_reducible repeat(first|apply blk_drewN|apply blk_drew|apply blk_alloc));refine blk_far ?_ NB578_584.out _;exact bm BK578.out)) (below_size (by repeat(first|(with_reducible first|exact HB.out|apply below_alloc|apply pw_below_drewN|apply below_drew1|refine below_set ?_ (IsS95.ge HI579.out)|refine below_set ?_ GE577.out|refine below_set ?_ GE578.out|refine below_set ?_ GE584.out)|exact HB.out))));replace BK578:=ak (KeepBut.blk hk (g':=gb578) (o:=.cells #[.int .i64 0,.int .i64 0,.int .i64 0] 63 (0,0)) (by(with_reducible repeat(first|apply blk_drewN|apply blk_drew|apply blk_alloc));refine blk_far ?_ NB578_584.out _;(with_reducible repeat(first|apply blk_drewN|apply blk_drew|apply blk_alloc));refine blk_far ?_ NB578_584.out _;exact bm BK578.out) NB578_579.out (by simp));replace HB:=ak hb;replace HI579:=ak hi;(try clear hb);(try clear hk);(try clear hi);(try clear ho0);obtain⟨Ao38,co38,eo38⟩:=R_slice HO587.out;subst eo38))
 replace HO587:=ak (R_drew HO587.out)
 replace BK577:=ak (blk_drew BK577.out)
 replace BK578:=ak (blk_drew BK578.out)
 replace BK584:=ak (blk_drew BK584.out)
 replace HI579:=ak (IsS95.drew HI579.out)
 replace HB:=ak (below_drew1 HB.out)
 have p593:0≤((ji24):Int):=od
 have q593: (ji24)<(t585.length:Int):=od
 obtain⟨ad593,e593,hx593_0,hx593_1,hx593_2⟩:=at_T63 (R_reads' HO587.out).2.2 (ji24) p593 q593
 cases e593
 replace p593:=eq_true p593
 replace q593:=eq_true q593
 refine start_ (n:=13) (S:=fun w'=>w'.cell? ⟨gb584,0,none⟩=some (.int .i64 t580)∧w'.cell? ⟨gb584,1,none⟩=some (.bool t581)∧w'.cell? (ad593.add (((ji24)).toNat*3))=some (.int .i64 ((rd_T63 t585 (ji24)).f0))∧w'.cell? ⟨(ad593.add (((ji24)).toNat*3)).block,(ad593.add (((ji24)).toNat*3)).off+1,none⟩=some (.int .i64 ((rd_T63 t585 (ji24)).f1))∧w'.cell? ⟨(ad593.add (((ji24)).toNat*3)).block,(ad593.add (((ji24)).toNat*3)).off+2,none⟩=some (.int .i64 ((rd_T63 t585 (ji24)).f2))) (ds:=[]) (lb 13 0) (by kernel_rfl) rfl rfl ⟨bc BK584 0 rfl,bc BK584 1 rfl,hx593_0,hx593_1,hx593_2⟩ (fun hHeld=>?_);refine with_tabW spec_DrawLegEnd.tab6 spec_DrawLegEnd.bits6 (fun HT_ HW_=>?_)
 generalize w37.drew=w39 at HO587 BK577 BK578 BK584 HI579 HB hx593_0 hx593_1 hx593_2 hHeld⊢
 refine pq 1 (N:=some 25) (lb 13 2) HT_ ?_
 refine pq 2 (N:=some 26) (lb 13 6) HT_ ?_
 refine pq 3 (N:=some 27) (lb 13 14) HT_ ?_
 refine pq 4 (N:=some 28) (lb 13 30) HT_ ?_
 refine pq 5 (N:=some 29) (lb 13 62) HT_ ?_
 refine pq 7 (N:=some 31) (lb 13 190) HT_ ?_
 refine tq 0 (N:=some 24) (lb 13 191) HT_ HW_ hHeld ?_
 refine tq 6 (N:=some 30) (lb 13 255) HT_ HW_ hHeld ?_
 refine tq 8 (N:=some 32) (lb 13 511) HT_ HW_ hHeld ?_
 refine one_ (i:=9) (N:=some 33) (lb 13 1023) rfl rfl (one_of HT_.out (by kernel_rfl)) (by decide) (fun K hK=>?_)
 refine goes_ Try.func93 (by kernel_rfl) rfl #[.pointer (some ⟨gb579,0,none⟩),.agg #[.int .i64 t580,.bool t581]] (by rfl) rfl rfl gl ?_
 with_reducible refine(spec_l1Cur_placeOn.calls gb579 l0 t588 t589 t580 t581 t594 t595 t596 w _ ?side1 ?side2 A27.out).mono ?_
 (case side1=>exact IsS95.now HI579.out)
 (case side2=>repeat(first|(with_reducible first|exact HB.out|apply below_alloc|apply pw_below_drewN|apply below_drew1|refine below_set ?_ (IsS95.ge HI579.out)|refine below_set ?_ GE577.out|refine below_set ?_ GE578.out|refine below_set ?_ GE584.out)|exact HB.out))
 rintro e w40 ⟨rfl,hi,hb,hk⟩
 have HS2_:=keep_cell hk (hHeld.2.2.1) (by first|(rw[add_block];exact Kd.own_blk (IsS95.own_ne HI579.out HO587.out (by decide)))|(show(Addr.add _ _).block≠_;rw[add_block];exact Kd.own_blk (IsS95.own_ne HI579.out HO587.out (by decide)))|exact Kd.own_blk (IsS95.own_ne HI579.out HO587.out (by decide)))
 have HS3_:=keep_cell hk (hHeld.2.2.2.1) (by first|(rw[add_block];exact Kd.own_blk (IsS95.own_ne HI579.out HO587.out (by decide)))|(show(Addr.add _ _).block≠_;rw[add_block];exact Kd.own_blk (IsS95.own_ne HI579.out HO587.out (by decide)))|exact Kd.own_blk (IsS95.own_ne HI579.out HO587.out (by decide)))
 have HS4_:=keep_cell hk (hHeld.2.2.2.2) (by first|(rw[add_block];exact Kd.own_blk (IsS95.own_ne HI579.out HO587.out (by decide)))|(show(Addr.add _ _).block≠_;rw[add_block];exact Kd.own_blk (IsS95.own_ne HI579.out HO587.out (by decide)))|exact Kd.own_blk (IsS95.own_ne HI579.out HO587.out (by decide)))
 refine⟨_,rfl,?_⟩
 replace BK577:=kk BK577 hk NB577_579
 replace BK578:=kk BK578 hk NB578_579
 replace BK584:=kk BK584 hk NB584_579
 replace HO587:=ak (R_mono (R_keep (IsS95.apart (show IsS95 w _ gb579 l0 t588 t589 from by exact IsS95.now HI579.out) (rm HO587.out) (by decide)) hk (fun _ h=>h.2)) (fun _ h=>h.1))
 replace HB:=ak hb
 replace HI579:=ak hi
 (try clear hb)
 (try clear hb2)
 (try clear hk)
 (try clear hi)
 refine hK.out _ _ ⟨bc BK584 0 rfl,bc BK584 1 rfl,HS2_,HS3_,HS4_⟩ (fun hHeld=>?_)
 clear hK K
 refine norm_ (a':=?_) ?_ ?_
 rotate_left
 ·show Act.put _ (some 33) _=_
  simp only[ap]
  rfl
 refine one_ (i:=10) (N:=none) (lb 13 2047) rfl rfl (one_of HT_.out (by kernel_rfl)) (by decide) (fun K hK=>?_)
 have hs41:w40.cell? ⟨gb577,0,none⟩=some (.int .i64 0):=bc BK577 0 rfl
 have hfs41:=blk_frozen BK577.out 0
 have hns41_1:=NB578_577.out
 have hns41_2:=NB584_577.out
 have hms41_1:=NB577_578.out
 have hms41_2:=NB577_584.out
 have hs42:w40.cell? ⟨gb577,1,none⟩=some (.bool false):=bc BK577 1 rfl
 have hfs42:=blk_frozen BK577.out 1
 have hns42_1:=NB578_577.out
 have hns42_2:=NB584_577.out
 have hms42_1:=NB577_578.out
 have hms42_2:=NB577_584.out
 refine skip_ (w1:=?_) (by rfl) rfl ?_ ?_
 rotate_left
 ·go_simp
  rfl
 refine hK.out _ _ ⟨((cell_far (p:=⟨gb577,_,none⟩) NB584_577.out _).trans (((cell_far (p:=⟨gb577,_,none⟩) NB584_577.out _).trans (hHeld.1)))),((cell_far (p:=⟨gb577,_,none⟩) NB584_577.out _).trans (((cell_far (p:=⟨gb577,_,none⟩) NB584_577.out _).trans (hHeld.2.1)))),((cell_far (p:=⟨gb577,_,none⟩) (by first|exact Kd.own_blk (R_ne HO587.out BK577.out (by decide))|(rw[add_block];exact Kd.own_blk (R_ne HO587.out BK577.out (by decide)))|(show(Addr.add _ _).block≠_;rw[add_block];exact Kd.own_blk (R_ne HO587.out BK577.out (by decide)))|(dsimp only;exact Kd.own_blk (R_ne HO587.out BK577.out (by decide)))) _).trans (((cell_far (p:=⟨gb577,_,none⟩) (by first|exact Kd.own_blk (R_ne HO587.out BK577.out (by decide))|(rw[add_block];exact Kd.own_blk (R_ne HO587.out BK577.out (by decide)))|(show(Addr.add _ _).block≠_;rw[add_block];exact Kd.own_blk (R_ne HO587.out BK577.out (by decide)))|(dsimp only;exact Kd.own_blk (R_ne HO587.out BK577.out (by decide)))) _).trans (hHeld.2.2.1)))),((cell_far (p:=⟨gb577,_,none⟩) (by first|exact Kd.own_blk (R_ne HO587.out BK577.out (by decide))|(rw[add_block];exact Kd.own_blk (R_ne HO587.out BK577.out (by decide)))|(show(Addr.add _ _).block≠_;rw[add_block];exact Kd.own_blk (R_ne HO587.out BK577.out (by decide)))|(dsimp only;exact Kd.own_blk (R_ne HO587.out BK577.out (by decide)))) _).trans (((cell_far (p:=⟨gb577,_,none⟩) (by first|exact Kd.own_blk (R_ne HO587.out BK577.out (by decide))|(rw[add_block];exact Kd.own_blk (R_ne HO587.out BK577.out (by decide)))|(show(Addr.add _ _).block≠_;rw[add_block];exact Kd.own_blk (R_ne HO587.out BK577.out (by decide)))|(dsimp only;exact Kd.own_blk (R_ne HO587.out BK577.out (by decide)))) _).trans (hHeld.2.2.2.1)))),((cell_far (p:=⟨gb577,_,none⟩) (by first|exact Kd.own_blk (R_ne HO587.out BK577.out (by decide))|(rw[add_block];exact Kd.own_blk (R_ne HO587.out BK577.out (by decide)))|(show(Addr.add _ _).block≠_;rw[add_block];exact Kd.own_blk (R_ne HO587.out BK577.out (by decide)))|(dsimp only;exact Kd.own_blk (R_ne HO587.out BK577.out (by decide)))) _).trans (((cell_far (p:=⟨gb577,_,none⟩) (by first|exact Kd.own_blk (R_ne HO587.out BK577.out (by decide))|(rw[add_block];exact Kd.own_blk (R_ne HO587.out BK577.out (by decide)))|(show(Addr.add _ _).block≠_;rw[add_block];exact Kd.own_blk (R_ne HO587.out BK577.out (by decide)))|(dsimp only;exact Kd.own_blk (R_ne HO587.out BK577.out (by decide)))) _).trans (hHeld.2.2.2.2))))⟩ (fun hHeld=>?_)
 clear hK K
 refine one_ (i:=11) (N:=none) (lb 13 4095) rfl rfl (one_of HT_.out (by kernel_rfl)) (by decide) (fun K hK=>?_)
 have hs43:w40.cell? ⟨gb578,0,none⟩=some (.int .i64 0):=bc BK578 0 rfl
 have hfs43:=blk_frozen BK578.out 0
 have hns43_0:=NB577_578.out
 have hns43_2:=NB584_578.out
 have hms43_0:=NB578_577.out
 have hms43_2:=NB578_584.out
 have hs44:w40.cell? ⟨gb578,1,none⟩=some (.int .i64 0):=bc BK578 1 rfl
 have hfs44:=blk_frozen BK578.out 1
 have hns44_0:=NB577_578.out
 have hns44_2:=NB584_578.out
 have hms44_0:=NB578_577.out
 have hms44_2:=NB578_584.out
 have hs45:w40.cell? ⟨gb578,2,none⟩=some (.int .i64 0):=bc BK578 2 rfl
 have hfs45:=blk_frozen BK578.out 2
 have hns45_0:=NB577_578.out
 have hns45_2:=NB584_578.out
 have hms45_0:=NB578_577.out
 have hms45_2:=NB578_584.out
 refine skip_ (w1:=?_) (by rfl) rfl ?_ ?_
 rotate_left
 ·go_simp
  rfl
 refine hK.out _ _ ⟨((cell_far (p:=⟨gb578,_,none⟩) NB584_578.out _).trans (((cell_far (p:=⟨gb578,_,none⟩) NB584_578.out _).trans (((cell_far (p:=⟨gb578,_,none⟩) NB584_578.out _).trans (hHeld.1)))))),((cell_far (p:=⟨gb578,_,none⟩) NB584_578.out _).trans (((cell_far (p:=⟨gb578,_,none⟩) NB584_578.out _).trans (((cell_far (p:=⟨gb578,_,none⟩) NB584_578.out _).trans (hHeld.2.1)))))),((cell_far (p:=⟨gb578,_,none⟩) (by first|exact Kd.own_blk (R_away HO587.out (fun _ hk=>hk.2))|(rw[add_block];exact Kd.own_blk (R_away HO587.out (fun _ hk=>hk.2)))|(show(Addr.add _ _).block≠_;rw[add_block];exact Kd.own_blk (R_away HO587.out (fun _ hk=>hk.2)))|(dsimp only;exact Kd.own_blk (R_away HO587.out (fun _ hk=>hk.2)))) _).trans (((cell_far (p:=⟨gb578,_,none⟩) (by first|exact Kd.own_blk (R_away HO587.out (fun _ hk=>hk.2))|(rw[add_block];exact Kd.own_blk (R_away HO587.out (fun _ hk=>hk.2)))|(show(Addr.add _ _).block≠_;rw[add_block];exact Kd.own_blk (R_away HO587.out (fun _ hk=>hk.2)))|(dsimp only;exact Kd.own_blk (R_away HO587.out (fun _ hk=>hk.2)))) _).trans (((cell_far (p:=⟨gb578,_,none⟩) (by first|exact Kd.own_blk (R_away HO587.out (fun _ hk=>hk.2))|(rw[add_block];exact Kd.own_blk (R_away HO587.out (fun _ hk=>hk.2)))|(show(Addr.add _ _).block≠_;rw[add_block];exact Kd.own_blk (R_away HO587.out (fun _ hk=>hk.2)))|(dsimp only;exact Kd.own_blk (R_away HO587.out (fun _ hk=>hk.2)))) _).trans (hHeld.2.2.1)))))),((cell_far (p:=⟨gb578,_,none⟩) (by first|exact Kd.own_blk (R_away HO587.out (fun _ hk=>hk.2))|(rw[add_block];exact Kd.own_blk (R_away HO587.out (fun _ hk=>hk.2)))|(show(Addr.add _ _).block≠_;rw[add_block];exact Kd.own_blk (R_away HO587.out (fun _ hk=>hk.2)))|(dsimp only;exact Kd.own_blk (R_away HO587.out (fun _ hk=>hk.2)))) _).trans (((cell_far (p:=⟨gb578,_,none⟩) (by first|exact Kd.own_blk (R_away HO587.out (fun _ hk=>hk.2))|(rw[add_block];exact Kd.own_blk (R_away HO587.out (fun _ hk=>hk.2)))|(show(Addr.add _ _).block≠_;rw[add_block];exact Kd.own_blk (R_away HO587.out (fun _ hk=>hk.2)))|(dsimp only;exact Kd.own_blk (R_away HO587.out (fun _ hk=>hk.2)))) _).trans (((cell_far (p:=⟨gb578,_,none⟩) (by first|exact Kd.own_blk (R_away HO587.out (fun _ hk=>hk.2))|(rw[add_block];exact Kd.own_blk (R_away HO587.out (fun _ hk=>hk.2)))|(show(Addr.add _ _).block≠_;rw[add_block];exact Kd.own_blk (R_away HO587.out (fun _ hk=>hk.2)))|(dsimp only;exact Kd.own_blk (R_away HO587.out (fun _ hk=>hk.2)))) _).trans (hHeld.2.2.2.1)))))),((cell_far (p:=⟨gb578,_,none⟩) (by first|exact Kd.own_blk (R_away HO587.out (fun _ hk=>hk.2))|(rw[add_block];exact Kd.own_blk (R_away HO587.out (fun _ hk=>hk.2)))|(show(Addr.add _ _).block≠_;rw[add_block];exact Kd.own_blk (R_away HO587.out (fun _ hk=>hk.2)))|(dsimp only;exact Kd.own_blk (R_away HO587.out (fun _ hk=>hk.2)))) _).trans (((cell_far (p:=⟨gb578,_,none⟩) (by first|exact Kd.own_blk (R_away HO587.out (fun _ hk=>hk.2))|(rw[add_block];exact Kd.own_blk (R_away HO587.out (fun _ hk=>hk.2)))|(show(Addr.add _ _).block≠_;rw[add_block];exact Kd.own_blk (R_away HO587.out (fun _ hk=>hk.2)))|(dsimp only;exact Kd.own_blk (R_away HO587.out (fun _ hk=>hk.2)))) _).trans (((cell_far (p:=⟨gb578,_,none⟩) (by first|exact Kd.own_blk (R_away HO587.out (fun _ hk=>hk.2))|(rw[add_block];exact Kd.own_blk (R_away HO587.out (fun _ hk=>hk.2)))|(show(Addr.add _ _).block≠_;rw[add_block];exact Kd.own_blk (R_away HO587.out (fun _ hk=>hk.2)))|(dsimp only;exact Kd.own_blk (R_away HO587.out (fun _ hk=>hk.2)))) _).trans (hHeld.2.2.2.2))))))⟩ (fun hHeld=>?_)
 clear hK K
 refine pq 12 (N:=some 4) (lb 13 8191) HT_ ?_
 refine done_ (done_of HT_.out (by kernel_rfl)) ?_
 try go_wp2
 refine bodyPost_ret (results_list (rs:=[.cell 2 28,.cell 3 63,.tmp 4]) rfl (by simp) (.cell gb577 28 #[.int .i64 t580,.bool t581] (0,0) _ rfl (by(with_reducible repeat(first|apply blk_drewN|apply blk_drew|apply blk_alloc));refine blk_far ?_ NB577_578.out _;(with_reducible repeat(first|apply blk_drewN|apply blk_drew|apply blk_alloc));refine blk_far ?_ NB577_578.out _;(with_reducible repeat(first|apply blk_drewN|apply blk_drew|apply blk_alloc));refine blk_far ?_ NB577_578.out _;(with_reducible repeat(first|apply blk_drewN|apply blk_drew|apply blk_alloc));refine blk_put (cs:=#[.int .i64 t580,.bool false]) ?_ 1 _ rfl;(with_reducible repeat(first|apply blk_drewN|apply blk_drew|apply blk_alloc));refine blk_put (cs:=#[.int .i64 0,.bool false]) ?_ 0 _ rfl;exact bm BK577.out) Try.underlying28 rfl (by kernel_rfl) (.cell gb578 63 #[.int .i64 ((rd_T63 t585 (ji24)).f0),.int .i64 ((rd_T63 t585 (ji24)).f1),.int .i64 ((rd_T63 t585 (ji24)).f2)] (0,0) _ rfl (by(with_reducible repeat(first|apply blk_drewN|apply blk_drew|apply blk_alloc));refine blk_put (cs:=#[.int .i64 ((rd_T63 t585 (ji24)).f0),.int .i64 ((rd_T63 t585 (ji24)).f1),.int .i64 0]) ?_ 2 _ rfl;(with_reducible repeat(first|apply blk_drewN|apply blk_drew|apply blk_alloc));refine blk_put (cs:=#[.int .i64 ((rd_T63 t585 (ji24)).f0),.int .i64 0,.int .i64 0]) ?_ 1 _ rfl;(with_reducible repeat(first|apply blk_drewN|apply blk_drew|apply blk_alloc));refine blk_put (cs:=#[.int .i64 0,.int .i64 0,.int .i64 0]) ?_ 0 _ rfl;(with_reducible repeat(first|apply blk_drewN|apply blk_drew|apply blk_alloc));refine blk_far ?_ NB578_577.out _;(with_reducible repeat(first|apply blk_drewN|apply blk_drew|apply blk_alloc));refine blk_far ?_ NB578_577.out _;exact bm BK578.out) Try.underlying63 rfl (by kernel_rfl) (.tmp .nil)))) rfl ?_
 exact⟨by first|rfl|(simp[errW_none,errW_some]<;>rfl)|(simp only[←hji24];first|rfl|(simp[errW_none,errW_some]<;>rfl))|(simp[*,errW_none,errW_some]<;>rfl),by repeat(first|(with_reducible first|exact HB.out|apply below_alloc|apply pw_below_drewN|apply below_drew1|refine below_set ?_ (IsS95.ge HI579.out)|refine below_set ?_ GE577.out|refine below_set ?_ GE578.out|refine below_set ?_ GE584.out)|exact HB.out)⟩
end
end Go.Proofs.Ythagkpoinjpmfaa.QFnRelays
