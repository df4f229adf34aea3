/- Functions that the law FnRelays comes to, and their walks: no condition but those named. -/
import Derived.Test.YthagkpoinjpmfaaQFnRelaysx0
import Derived.Test.YthagkpoinjpmfaaQFnRelaysx4
import Derived.Test.YthagkpoinjpmfaaQFnRelaysx12
namespace Go.Proofs.Ythagkpoinjpmfaa.QFnRelays
open Go.RowKit Go.Proofs.YthagkpoinjpmfaaW.PrintWords Go.Proofs.YthagkpoinjpmfaaW.PrintLast Go.Proofs.YthagkpoinjpmfaaW.PrintMore Go.Proofs.Ythagkpoinjpmfaa.Short
attribute [local go_sem] max2_int min2_int max_two min_two max_three min_three max_four min_four
set_option linter.unusedVariables false
set_option linter.unusedSimpArgs false
section
open Kd
def spec_l1Cur_placeOn.f (s0_0:List Int) (s0_1:Int) (s0_2:Int) (a1_0:Int) (a1_1:Bool):Option (Int × Int × Int):=(spec_l1Cur_one.f s0_0 s0_1 s0_2 30).bind fun bt421=>(if bt421.1=true then((spec_l1Cur_among.f s0_0 bt421.2.1 bt421.2.2 (([(-1),0,a1_0,wrap64 (a1_0-1),4611686018427387904]:List Int))).bind fun bt427=>(some (bt427.1,bt427.2.1,bt427.2.2)))else((spec_l1Least.f a1_0 24).bind fun t430=>((spec_l1Most.f t430 1).bind fun t431=>((spec_l1Cur_pick.f s0_0 bt421.2.1 bt421.2.2 t431).bind fun bt432=>(some (bt432.1,bt432.2.1,bt432.2.2))))))
set_option maxHeartbeats 8000000 in
set_option maxRecDepth 100000 in
theorem spec_l1Cur_placeOn.calls (g:Nat) (s0_0:List Int) (s0_1:Int) (s0_2:Int) (a1_0:Int) (a1_1:Bool) (r1:Int) (r2:Int) (r3:Int) (w0 w:World) (hI:IsS95 w0 w g s0_0 s0_1 s0_2) (hB:Below w0.heap.size w0 w) (h:spec_l1Cur_placeOn.f s0_0 s0_1 s0_2 a1_0 a1_1=some (r1,r2,r3)):
  Calls Try.prog 93 #[.pointer (some ⟨g,0,none⟩),.agg #[.int .i64 a1_0,.bool a1_1]] w fun e w'=>e= .returned (.int .i64 r1)∧IsS95 w0 w' g s0_0 r2 r3∧Below w0.heap.size w0 w'∧KeepBut w w' g none:=by
 have hu28:=Try.underlying28
 have HI0:=Aside0.mk hI
 have HK:=Aside0.mk (KeepBut.refl w g none)
 have HL:=Aside0.mk hB.size
 clear hI
 have HW0:=Aside0.mk hB.size
 have HB:=Aside0.mk hB
 clear hB
 unfold spec_l1Cur_placeOn.f at h
 have H:=h
 clear h
 obtain⟨⟨t421,t422,t423⟩,A3,H⟩:=bd H;(try dsimp only at H)
 by_cases c4:t421=true
 rotate_left
 ·replace c4:=Bool.eq_false_iff.mpr c4
  subst c4
  rw[if_neg (show ¬(false=true)by decide)]at H
  obtain⟨t430,A14,H⟩:=bd H;(try dsimp only at H)
  obtain⟨t431,A15,H⟩:=bd H;(try dsimp only at H)
  obtain⟨⟨t432,t433,t434⟩,A16,H⟩:=bd H;(try dsimp only at H)
  simp only[Option.some.injEq,Prod.mk.injEq]at H
  obtain⟨rfl,rfl,rfl⟩:=H
  go_enter Try.func93,Try.ntmps93
  go_wp2_with (first|(refine bx 3 #[.int .i64 a1_0,.bool a1_1] 28 ?_;intro gb420 hg w17 hbox hb;replace HB:=ak (below_step (h1 HB.out (IsS95.ge HI0.out)) hb);have BK420:=ak hbox;have GW420:=ak ((by rw[hg];exact(keep_size (w:=w) (g:=g) (row:=none) (kn HK.out)):w.heap.size≤gb420));have GE420:=ak ((Nat.le_trans HW0.out (by rw[hg];exact(keep_size (w:=w) (g:=g) (row:=none) (kn HK.out)):w.heap.size≤gb420):w0.heap.size≤gb420));replace HK:=ak (KeepBut.trans (kn HK.out) (KeepBut.of_below hb g none) (.inl rfl));have NB0_420:=ak ((by rw[hg];exact Nat.ne_of_lt (IsS95.lt (show IsS95 w0 _ g s0_0 s0_1 s0_2 from(IsS95.now HI0.out))):g≠gb420));have NB420_0:=ak ((by rw[hg];exact Nat.ne_of_gt (IsS95.lt (show IsS95 w0 _ g s0_0 s0_1 s0_2 from(IsS95.now HI0.out))):gb420≠g));replace HI0:=ak (IsS95.below (g:=g) (IsS95.now HI0.out) hb);clear hb hbox hg)|(refine gs 6 Try.func81 #[.pointer (some ⟨g,0,none⟩),.int .i64 30] ?_;(with_reducible refine(spec_l1Cur_one.calls g s0_0 s0_1 s0_2 30 false t422 t423 w0 _ ?side1 ?side2 A3.out).mono ?_);(case side1=>exact IsS95.now HI0.out);(case side2=>exact h2 HB.out (IsS95.ge HI0.out) GE420.out);rintro e w18 ⟨rfl,hi,hb,hk⟩;refine⟨_,rfl,?_⟩;replace BK420:=kk BK420 hk NB420_0;replace HK:=ak (KeepBut.trans (kn HK.out) hk (.inl rfl));replace HB:=ak hb;replace HI0:=ak hi;(try clear hb);(try clear hk);(try clear hi);have hnb19:=NB420_0.out;have hnc19:=NB0_420.out;have hcz20_0:=bc BK420 0 rfl;have hcz20_1:=bc BK420 1 rfl;have hfz20_0:=bf BK420 0;have hfz20_1:=bf BK420 1)|(refine gs 18 Try.func108 #[.int .i64 a1_0,.int .i64 24] ?_;(with_reducible refine(spec_l1Least.calls a1_0 24 t430 _ A14.out).mono ?_);rintro e w' ⟨rfl,⟨nd,rfl⟩⟩;refine⟨_,rfl,?_⟩)|(refine gs 19 Try.func101 #[.int .i64 t430,.int .i64 1] ?_;(with_reducible refine(spec_l1Most.calls t430 1 t431 _ A15.out).mono ?_);rintro e w' ⟨rfl,⟨nd,rfl⟩⟩;refine⟨_,rfl,?_⟩)|(refine gs 20 Try.func79 #[.pointer (some ⟨g,0,none⟩),.int .i64 t431] ?_;(with_reducible refine(spec_l1Cur_pick.calls g s0_0 t422 t423 t431 t432 t433 t434 w0 _ ?side1 ?side2 A16.out).mono ?_);(case side1=>exact IsS95.now HI0.out);(case side2=>exact h2 HB.out (IsS95.ge HI0.out) GE420.out);rintro e w21 ⟨rfl,hi,hb,hk⟩;refine⟨_,rfl,?_⟩;replace BK420:=kk BK420 hk NB420_0;replace HK:=ak (KeepBut.trans (kn HK.out) hk (.inl rfl));replace HB:=ak hb;replace HI0:=ak hi;(try clear hb);(try clear hk);(try clear hi)))
  go_ret
  exact⟨fe,(IsS95.now HI0.out),h2 HB.out (IsS95.ge HI0.out) GE420.out,(kn HK.out)⟩
 subst c4
 rw[if_pos rfl]at H
 generalize hy424: ([(-1),0,a1_0,wrap64 (a1_0-1),4611686018427387904]:List Int)=y424 at H
 have Ny424:=ak hy424.symm
 clear hy424
 obtain⟨⟨t427,t428,t429⟩,A5,H⟩:=bd H;(try dsimp only at H)
 simp only[Option.some.injEq,Prod.mk.injEq]at H
 obtain⟨rfl,rfl,rfl⟩:=H
 go_enter Try.func93,Try.ntmps93
 go_wp2_with (first|(refine bx 3 #[.int .i64 a1_0,.bool a1_1] 28 ?_;intro gb420 hg w6 hbox hb;replace HB:=ak (below_step (h1 HB.out (IsS95.ge HI0.out)) hb);have BK420:=ak hbox;have GW420:=ak ((by rw[hg];exact(keep_size (w:=w) (g:=g) (row:=none) (kn HK.out)):w.heap.size≤gb420));have GE420:=ak ((Nat.le_trans HW0.out (by rw[hg];exact(keep_size (w:=w) (g:=g) (row:=none) (kn HK.out)):w.heap.size≤gb420):w0.heap.size≤gb420));replace HK:=ak (KeepBut.trans (kn HK.out) (KeepBut.of_below hb g none) (.inl rfl));have NB0_420:=ak ((by rw[hg];exact Nat.ne_of_lt (IsS95.lt (show IsS95 w0 _ g s0_0 s0_1 s0_2 from(IsS95.now HI0.out))):g≠gb420));have NB420_0:=ak ((by rw[hg];exact Nat.ne_of_gt (IsS95.lt (show IsS95 w0 _ g s0_0 s0_1 s0_2 from(IsS95.now HI0.out))):gb420≠g));replace HI0:=ak (IsS95.below (g:=g) (IsS95.now HI0.out) hb);clear hb hbox hg)|(refine gs 6 Try.func81 #[.pointer (some ⟨g,0,none⟩),.int .i64 30] ?_;(with_reducible refine(spec_l1Cur_one.calls g s0_0 s0_1 s0_2 30 true t422 t423 w0 _ ?side1 ?side2 A3.out).mono ?_);(case side1=>exact IsS95.now HI0.out);(case side2=>exact h2 HB.out (IsS95.ge HI0.out) GE420.out);rintro e w7 ⟨rfl,hi,hb,hk⟩;refine⟨_,rfl,?_⟩;replace BK420:=kk BK420 hk NB420_0;replace HK:=ak (KeepBut.trans (kn HK.out) hk (.inl rfl));replace HB:=ak hb;replace HI0:=ak hi;(try clear hb);(try clear hk);(try clear hi);have hnb8:=NB420_0.out;have hnc8:=NB0_420.out;have hcz9_0:=bc BK420 0 rfl;have hcz9_1:=bc BK420 1 rfl;have hfz9_0:=bf BK420 0;have hfz9_1:=bf BK420 1)|((with_reducible refine gate_dst (N:=13) rfl ?_);refine R_lit (Kd.int .i64) _ 3 ?hg (N:=13) ?hd (xs:=([(-1),0,a1_0,wrap64 (a1_0-1),4611686018427387904]:List Int)) (inner:=[.int .i64 (-1),.int .i64 0,.int .i64 a1_0,.int .i64 (wrap64 (a1_0-1)),.int .i64 4611686018427387904]) (ok:=fun _=>True) (okp:=fun _=>True) ?hr ?hp (fun _ hk=>hk) trivial (Below.refl _ _) (Nat.le_refl _) (by simp) ?_;(case hd=>rfl);(case hg=>rfl);(case hr=>first|(go_simp;done)|(go_simp;rfl));(case hp=>exact(Reps.one (show Kd.M (Kd.int .i64) _ _ _ (-1) [.int .i64 (-1)]from rfl) (Reps.one (show Kd.M (Kd.int .i64) _ _ _ 0 [.int .i64 0]from rfl) (Reps.one (show Kd.M (Kd.int .i64) _ _ _ a1_0 [.int .i64 a1_0]from rfl) (Reps.one (show Kd.M (Kd.int .i64) _ _ _ (wrap64 (a1_0-1)) [.int .i64 (wrap64 (a1_0-1))]from rfl) (Reps.one (show Kd.M (Kd.int .i64) _ _ _ 4611686018427387904 [.int .i64 4611686018427387904]from rfl) (Reps.none _ _)))))));intro v425 w10 ho11 hb hg_ hnew_;clear hg_ hnew_;(first|rw[←Ny424.out]at ho11|(simp only[Int.reduceToNat]at ho11;rw[←Ny424.out]at ho11));have HO426:=ak (R_lower ho11 (keep_size (w:=w) (g:=g) (row:=none) (kn HK.out)));replace BK420:=kb BK420 hb;replace HK:=ak (KeepBut.trans (kn HK.out) (KeepBut.of_below hb g none) (.inl rfl));replace HB:=ak (below_step (h2 HB.out (IsS95.ge HI0.out) GE420.out) hb);replace HI0:=ak (IsS95.below (g:=g) (IsS95.now HI0.out) hb);clear hb ho11;obtain⟨Ao12,co12,eo12⟩:=R_slice HO426.out;subst eo12)|(refine gs 14 Try.func82 #[.pointer (some ⟨g,0,none⟩),.slice Ao12 y424.length co12] ?_;(with_reducible refine(spec_l1Cur_among.calls g s0_0 t422 t423 _ _ y424 t427 t428 t429 w0 _ ?side1 ?side2 ?side3 ?side4 ?side5 A5.out).mono ?_);(case side1=>exact IsS95.now HI0.out);(case side2=>exact h2 HB.out (IsS95.ge HI0.out) GE420.out);(case side3=>exact cm (R_reads' HO426.out).2.2);(case side4=>exact(R_reads' HO426.out).2.1);(case side5=>exact far_slice (IsS95.own_ne HI0.out HO426.out (by decide)));rintro e w13 ⟨rfl,hi,hb,hk⟩;refine⟨_,rfl,?_⟩;replace BK420:=kk BK420 hk NB420_0;replace HO426:=ak (R_mono (R_keep (IsS95.apart (show IsS95 w0 _ g s0_0 t422 t423 from(IsS95.now HI0.out)) (rm HO426.out) (by decide)) hk (fun _ h=>h.2)) (fun _ h=>h.1));replace HK:=ak (KeepBut.trans (kn HK.out) hk (.inl rfl));replace HB:=ak hb;replace HI0:=ak hi;(try clear hb);(try clear hk);(try clear hi)))
 go_ret
 exact⟨fe,(IsS95.now HI0.out),h2 HB.out (IsS95.ge HI0.out) GE420.out,(kn HK.out)⟩
def spec_l1Cur_ring.f (s0_0:List Int) (s0_1:Int) (s0_2:Int):Option (Int × Bool × Int × Int):=(spec_l1Cur_size.f s0_0 s0_1 s0_2).bind fun bt436=>(if bt436.1=2 then((spec_l1Cur_one.f s0_0 bt436.2.1 bt436.2.2 4).bind fun bt440=>(if bt440.1=true then(some (bt436.1,true,bt440.2.1,bt440.2.2))else(some (3,true,bt440.2.1,bt440.2.2))))else(some (bt436.1,true,bt436.2.1,bt436.2.2)))
set_option maxHeartbeats 8000000 in
set_option maxRecDepth 100000 in
theorem spec_l1Cur_ring.calls (g:Nat) (s0_0:List Int) (s0_1:Int) (s0_2:Int) (r1:Int) (r2:Bool) (r3:Int) (r4:Int) (w0 w:World) (hI:IsS95 w0 w g s0_0 s0_1 s0_2) (hB:Below w0.heap.size w0 w) (h:spec_l1Cur_ring.f s0_0 s0_1 s0_2=some (r1,r2,r3,r4)):
  Calls Try.prog 115 #[.pointer (some ⟨g,0,none⟩)] w fun e w'=>e= .returned (.agg #[.int .i64 r1,.bool r2])∧IsS95 w0 w' g s0_0 r3 r4∧Below w0.heap.size w0 w'∧KeepBut w w' g none:=by
 have hu28:=Try.underlying28
 have HI0:=Aside0.mk hI
 have HK:=Aside0.mk (KeepBut.refl w g none)
 have HL:=Aside0.mk hB.size
 clear hI
 have HW0:=Aside0.mk hB.size
 have HB:=Aside0.mk hB
 clear hB
 unfold spec_l1Cur_ring.f at h
 have H:=h
 clear h
 obtain⟨⟨t436,t437,t438⟩,A2,H⟩:=bd H;(try dsimp only at H)
 by_cases c3:t436=2
 rotate_left
 ·rw[if_neg c3]at H
  have c3b0: (t436==2)=false:=beq_eq_false_iff_ne.mpr c3
  have c3b1: (t436 !=2)=true:=bne_iff_ne.mpr c3
  simp only[Option.some.injEq,Prod.mk.injEq]at H
  obtain⟨rfl,rfl,rfl,rfl⟩:=H
  go_enter Try.func115,Try.ntmps115
  go_wp2_with (first|(refine bx 2 #[.int .i64 0,.bool false] 28 ?_;intro gb435 hg w26 hbox hb;replace HB:=ak (below_step (h1 HB.out (IsS95.ge HI0.out)) hb);have BK435:=ak hbox;have GW435:=ak ((by rw[hg];exact(keep_size (w:=w) (g:=g) (row:=none) (kn HK.out)):w.heap.size≤gb435));have GE435:=ak ((Nat.le_trans HW0.out (by rw[hg];exact(keep_size (w:=w) (g:=g) (row:=none) (kn HK.out)):w.heap.size≤gb435):w0.heap.size≤gb435));replace HK:=ak (KeepBut.trans (kn HK.out) (KeepBut.of_below hb g none) (.inl rfl));have NB0_435:=ak ((by rw[hg];exact Nat.ne_of_lt (IsS95.lt (show IsS95 w0 _ g s0_0 s0_1 s0_2 from(IsS95.now HI0.out))):g≠gb435));have NB435_0:=ak ((by rw[hg];exact Nat.ne_of_gt (IsS95.lt (show IsS95 w0 _ g s0_0 s0_1 s0_2 from(IsS95.now HI0.out))):gb435≠g));replace HI0:=ak (IsS95.below (g:=g) (IsS95.now HI0.out) hb);clear hb hbox hg)|(refine gs 5 Try.func112 #[.pointer (some ⟨g,0,none⟩)] ?_;(with_reducible refine(spec_l1Cur_size.calls g s0_0 s0_1 s0_2 t436 t437 t438 w0 _ ?side1 ?side2 A2.out).mono ?_);(case side1=>exact IsS95.now HI0.out);(case side2=>exact h2 HB.out (IsS95.ge HI0.out) GE435.out);rintro e w27 ⟨rfl,hi,hb,hk⟩;refine⟨_,rfl,?_⟩;replace BK435:=kk BK435 hk NB435_0;replace HK:=ak (KeepBut.trans (kn HK.out) hk (.inl rfl));replace HB:=ak hb;replace HI0:=ak hi;(try clear hb);(try clear hk);(try clear hi))|(refine bx 3 #[.int .i64 0,.bool false] 28 ?_;intro gb439 hg w28 hbox hb;replace HB:=ak (below_step (h2 HB.out (IsS95.ge HI0.out) GE435.out) hb);have BK439:=ak hbox;have GW439:=ak ((by rw[hg];exact(keep_size (w:=w) (g:=g) (row:=none) (kn HK.out)):w.heap.size≤gb439));have GE439:=ak ((Nat.le_trans HW0.out (by rw[hg];exact(keep_size (w:=w) (g:=g) (row:=none) (kn HK.out)):w.heap.size≤gb439):w0.heap.size≤gb439));replace HK:=ak (KeepBut.trans (kn HK.out) (KeepBut.of_below hb g none) (.inl rfl));have NB435_439:=nl BK435 hg;have NB439_435:=ng BK435 hg;replace BK435:=kb BK435 hb;have NB0_439:=ak ((by rw[hg];exact Nat.ne_of_lt (IsS95.lt (show IsS95 w0 _ g s0_0 t437 t438 from(IsS95.now HI0.out))):g≠gb439));have NB439_0:=ak ((by rw[hg];exact Nat.ne_of_gt (IsS95.lt (show IsS95 w0 _ g s0_0 t437 t438 from(IsS95.now HI0.out))):gb439≠g));replace HI0:=ak (IsS95.below (g:=g) (IsS95.now HI0.out) hb);clear hb hbox hg;have hnb29:=NB439_435.out;have hnc29:=NB435_439.out;have hnb30:=NB439_0.out;have hnc30:=NB0_439.out;have hcz31_0:=bc BK439 0 rfl;have hcz31_1:=bc BK439 1 rfl;have hfz31_0:=bf BK439 0;have hfz31_1:=bf BK439 1;have hnb32:=NB435_0.out;have hnc32:=NB0_435.out;have hcz33_0:=bc BK435 0 rfl;have hcz33_1:=bc BK435 1 rfl;have hfz33_0:=bf BK435 0;have hfz33_1:=bf BK435 1))
  refine bodyPost_ret (results_cell_row rfl _ _ gb435 28 #[.int .i64 t436,.bool true] (0,0) _ rfl (by(with_reducible repeat(first|apply blk_drewN|apply blk_drew|apply blk_alloc));refine blk_put (cs:=#[.int .i64 t436,.bool false]) ?_ 1 _ rfl;(with_reducible repeat(first|apply blk_drewN|apply blk_drew|apply blk_alloc));refine blk_put (cs:=#[.int .i64 0,.bool false]) ?_ 0 _ rfl;(with_reducible repeat(first|apply blk_drewN|apply blk_drew|apply blk_alloc));refine blk_far ?_ NB435_439.out _;(with_reducible repeat(first|apply blk_drewN|apply blk_drew|apply blk_alloc));refine blk_far ?_ NB435_439.out _;exact bm BK435.out) Try.underlying28 rfl (by kernel_rfl)) rfl ?_
  exact⟨fe,(IsS95.now HI0.out),h3 HB.out (IsS95.ge HI0.out) GE435.out GE439.out,(kn HK.out)⟩
 rw[if_pos c3]at H
 have c3b0: (t436==2)=true:=beq_iff_eq.mpr c3
 have c3b1: (t436 !=2)=false:=bne_eq_false_iff_eq.mpr c3
 clear c3
 obtain⟨⟨t440,t441,t442⟩,A4,H⟩:=bd H;(try dsimp only at H)
 by_cases c5:t440=true
 ·subst c5
  rw[if_pos rfl]at H
  simp only[Option.some.injEq,Prod.mk.injEq]at H
  obtain⟨rfl,rfl,rfl,rfl⟩:=H
  go_enter Try.func115,Try.ntmps115
  go_wp2_with (first|(refine bx 2 #[.int .i64 0,.bool false] 28 ?_;intro gb435 hg w6 hbox hb;replace HB:=ak (below_step (h1 HB.out (IsS95.ge HI0.out)) hb);have BK435:=ak hbox;have GW435:=ak ((by rw[hg];exact(keep_size (w:=w) (g:=g) (row:=none) (kn HK.out)):w.heap.size≤gb435));have GE435:=ak ((Nat.le_trans HW0.out (by rw[hg];exact(keep_size (w:=w) (g:=g) (row:=none) (kn HK.out)):w.heap.size≤gb435):w0.heap.size≤gb435));replace HK:=ak (KeepBut.trans (kn HK.out) (KeepBut.of_below hb g none) (.inl rfl));have NB0_435:=ak ((by rw[hg];exact Nat.ne_of_lt (IsS95.lt (show IsS95 w0 _ g s0_0 s0_1 s0_2 from(IsS95.now HI0.out))):g≠gb435));have NB435_0:=ak ((by rw[hg];exact Nat.ne_of_gt (IsS95.lt (show IsS95 w0 _ g s0_0 s0_1 s0_2 from(IsS95.now HI0.out))):gb435≠g));replace HI0:=ak (IsS95.below (g:=g) (IsS95.now HI0.out) hb);clear hb hbox hg)|(refine gs 5 Try.func112 #[.pointer (some ⟨g,0,none⟩)] ?_;(with_reducible refine(spec_l1Cur_size.calls g s0_0 s0_1 s0_2 t436 t437 t438 w0 _ ?side1 ?side2 A2.out).mono ?_);(case side1=>exact IsS95.now HI0.out);(case side2=>exact h2 HB.out (IsS95.ge HI0.out) GE435.out);rintro e w7 ⟨rfl,hi,hb,hk⟩;refine⟨_,rfl,?_⟩;replace BK435:=kk BK435 hk NB435_0;replace HK:=ak (KeepBut.trans (kn HK.out) hk (.inl rfl));replace HB:=ak hb;replace HI0:=ak hi;(try clear hb);(try clear hk);(try clear hi))|(refine bx 3 #[.int .i64 0,.bool false] 28 ?_;intro gb439 hg w8 hbox hb;replace HB:=ak (below_step (h2 HB.out (IsS95.ge HI0.out) GE435.out) hb);have BK439:=ak hbox;have GW439:=ak ((by rw[hg];exact(keep_size (w:=w) (g:=g) (row:=none) (kn HK.out)):w.heap.size≤gb439));have GE439:=ak ((Nat.le_trans HW0.out (by rw[hg];exact(keep_size (w:=w) (g:=g) (row:=none) (kn HK.out)):w.heap.size≤gb439):w0.heap.size≤gb439));replace HK:=ak (KeepBut.trans (kn HK.out) (KeepBut.of_below hb g none) (.inl rfl));have NB435_439:=nl BK435 hg;have NB439_435:=ng BK435 hg;replace BK435:=kb BK435 hb;have NB0_439:=ak ((by rw[hg];exact Nat.ne_of_lt (IsS95.lt (show IsS95 w0 _ g s0_0 t437 t438 from(IsS95.now HI0.out))):g≠gb439));have NB439_0:=ak ((by rw[hg];exact Nat.ne_of_gt (IsS95.lt (show IsS95 w0 _ g s0_0 t437 t438 from(IsS95.now HI0.out))):gb439≠g));replace HI0:=ak (IsS95.below (g:=g) (IsS95.now HI0.out) hb);clear hb hbox hg;have hnb9:=NB439_435.out;have hnc9:=NB435_439.out;have hnb10:=NB439_0.out;have hnc10:=NB0_439.out;have hcz11_0:=bc BK439 0 rfl;have hcz11_1:=bc BK439 1 rfl;have hfz11_0:=bf BK439 0;have hfz11_1:=bf BK439 1)|(go_at_call 81;(with_reducible refine(spec_l1Cur_one.calls g s0_0 t437 t438 4 true t441 t442 w0 _ ?side1 ?side2 A4.out).mono ?_);(case side1=>exact IsS95.now HI0.out);(case side2=>exact h3 HB.out (IsS95.ge HI0.out) GE435.out GE439.out);rintro e w12 ⟨rfl,hi,hb,hk⟩;replace BK435:=ak (KeepBut.blk hk (g':=gb435) (o:=.cells #[.int .i64 0,.bool false] 28 (0,0)) (by(with_reducible repeat(first|apply blk_drewN|apply blk_drew|apply blk_alloc));refine blk_far ?_ NB435_439.out _;(with_reducible repeat(first|apply blk_drewN|apply blk_drew|apply blk_alloc));refine blk_far ?_ NB435_439.out _;exact bm BK435.out) NB435_0.out (by simp));replace BK439:=ak (KeepBut.blk hk (g':=gb439) (o:=.cells #[.int .i64 t436,.bool true] 28 (0,0)) (by(with_reducible repeat(first|apply blk_drewN|apply blk_drew|apply blk_alloc));refine blk_put (cs:=#[.int .i64 t436,.bool false]) ?_ 1 _ rfl;(with_reducible repeat(first|apply blk_drewN|apply blk_drew|apply blk_alloc));refine blk_put (cs:=#[.int .i64 0,.bool false]) ?_ 0 _ rfl;exact bm BK439.out) NB439_0.out (by simp));replace HK:=ak (KeepBut.trans (kn HK.out) hk (.inl rfl));replace HB:=ak hb;replace HI0:=ak hi;(try clear hb);(try clear hk);(try clear hi);have hcz13_0:=bc BK439 0 rfl;have hcz13_1:=bc BK439 1 rfl;have hfz13_0:=bf BK439 0;have hfz13_1:=bf BK439 1;have hnb14:=NB435_0.out;have hnc14:=NB0_435.out;have hcz15_0:=bc BK435 0 rfl;have hcz15_1:=bc BK435 1 rfl;have hfz15_0:=bf BK435 0;have hfz15_1:=bf BK435 1))
  refine bodyPost_ret (results_cell_row rfl _ _ gb435 28 #[.int .i64 t436,.bool true] (0,0) _ rfl (by(with_reducible repeat(first|apply blk_drewN|apply blk_drew|apply blk_alloc));refine blk_put (cs:=#[.int .i64 t436,.bool false]) ?_ 1 _ rfl;(with_reducible repeat(first|apply blk_drewN|apply blk_drew|apply blk_alloc));refine blk_put (cs:=#[.int .i64 0,.bool false]) ?_ 0 _ rfl;exact bm BK435.out) Try.underlying28 rfl (by kernel_rfl)) rfl ?_
  exact⟨fe,(IsS95.now HI0.out),h3 HB.out (IsS95.ge HI0.out) GE435.out GE439.out,(kn HK.out)⟩
 replace c5:=Bool.eq_false_iff.mpr c5
 subst c5
 rw[if_neg (show ¬(false=true)by decide)]at H
 simp only[Option.some.injEq,Prod.mk.injEq]at H
 obtain⟨rfl,rfl,rfl,rfl⟩:=H
 go_enter Try.func115,Try.ntmps115
 go_wp2_with (first|(refine bx 2 #[.int .i64 0,.bool false] 28 ?_;intro gb435 hg w16 hbox hb;replace HB:=ak (below_step (h1 HB.out (IsS95.ge HI0.out)) hb);have BK435:=ak hbox;have GW435:=ak ((by rw[hg];exact(keep_size (w:=w) (g:=g) (row:=none) (kn HK.out)):w.heap.size≤gb435));have GE435:=ak ((Nat.le_trans HW0.out (by rw[hg];exact(keep_size (w:=w) (g:=g) (row:=none) (kn HK.out)):w.heap.size≤gb435):w0.heap.size≤gb435));replace HK:=ak (KeepBut.trans (kn HK.out) (KeepBut.of_below hb g none) (.inl rfl));have NB0_435:=ak ((by rw[hg];exact Nat.ne_of_lt (IsS95.lt (show IsS95 w0 _ g s0_0 s0_1 s0_2 from(IsS95.now HI0.out))):g≠gb435));have NB435_0:=ak ((by rw[hg];exact Nat.ne_of_gt (IsS95.lt (show IsS95 w0 _ g s0_0 s0_1 s0_2 from(IsS95.now HI0.out))):gb435≠g));replace HI0:=ak (IsS95.below (g:=g) (IsS95.now HI0.out) hb);clear hb hbox hg)|(refine gs 5 Try.func112 #[.pointer (some ⟨g,0,none⟩)] ?_;(with_reducible refine(spec_l1Cur_size.calls g s0_0 s0_1 s0_2 t436 t437 t438 w0 _ ?side1 ?side2 A2.out).mono ?_);(case side1=>exact IsS95.now HI0.out);(case side2=>exact h2 HB.out (IsS95.ge HI0.out) GE435.out);rintro e w17 ⟨rfl,hi,hb,hk⟩;refine⟨_,rfl,?_⟩;replace BK435:=kk BK435 hk NB435_0;replace HK:=ak (KeepBut.trans (kn HK.out) hk (.inl rfl));replace HB:=ak hb;replace HI0:=ak hi;(try clear hb);(try clear hk);(try clear hi))|(refine bx 3 #[.int .i64 0,.bool false] 28 ?_;intro gb439 hg w18 hbox hb;replace HB:=ak (below_step (h2 HB.out (IsS95.ge HI0.out) GE435.out) hb);have BK439:=ak hbox;have GW439:=ak ((by rw[hg];exact(keep_size (w:=w) (g:=g) (row:=none) (kn HK.out)):w.heap.size≤gb439));have GE439:=ak ((Nat.le_trans HW0.out (by rw[hg];exact(keep_size (w:=w) (g:=g) (row:=none) (kn HK.out)):w.heap.size≤gb439):w0.heap.size≤gb439));replace HK:=ak (KeepBut.trans (kn HK.out) (KeepBut.of_below hb g none) (.inl rfl));have NB435_439:=nl BK435 hg;have NB439_435:=ng BK435 hg;replace BK435:=kb BK435 hb;have NB0_439:=ak ((by rw[hg];exact Nat.ne_of_lt (IsS95.lt (show IsS95 w0 _ g s0_0 t437 t438 from(IsS95.now HI0.out))):g≠gb439));have NB439_0:=ak ((by rw[hg];exact Nat.ne_of_gt (IsS95.lt (show IsS95 w0 _ g s0_0 t437 t438 from(IsS95.now HI0.out))):gb439≠g));replace HI0:=ak (IsS95.below (g:=g) (IsS95.now HI0.out) hb);clear hb hbox hg;have hnb19:=NB439_435.out;have hnc19:=NB435_439.out;have hnb20:=NB439_0.out;have hnc20:=NB0_439.out;have hcz21_0:=bc BK439 0 rfl;have hcz21_1:=bc BK439 1 rfl;have hfz21_0:=bf BK439 0;have hfz21_1:=bf BK439 1)|(go_at_call 81;(with_reducible refine(spec_l1Cur_one.calls g s0_0 t437 t438 4 false t441 t442 w0 _ ?side1 ?side2 A4.out).mono ?_);(case side1=>exact IsS95.now HI0.out);(case side2=>exact h3 HB.out (IsS95.ge HI0.out) GE435.out GE439.out);rintro e w22 ⟨rfl,hi,hb,hk⟩;replace BK435:=ak (KeepBut.blk hk (g':=gb435) (o:=.cells #[.int .i64 0,.bool false] 28 (0,0)) (by(with_reducible repeat(first|apply blk_drewN|apply blk_drew|apply blk_alloc));refine blk_far ?_ NB435_439.out _;(with_reducible repeat(first|apply blk_drewN|apply blk_drew|apply blk_alloc));refine blk_far ?_ NB435_439.out _;exact bm BK435.out) NB435_0.out (by simp));replace BK439:=ak (KeepBut.blk hk (g':=gb439) (o:=.cells #[.int .i64 t436,.bool true] 28 (0,0)) (by(with_reducible repeat(first|apply blk_drewN|apply blk_drew|apply blk_alloc));refine blk_put (cs:=#[.int .i64 t436,.bool false]) ?_ 1 _ rfl;(with_reducible repeat(first|apply blk_drewN|apply blk_drew|apply blk_alloc));refine blk_put (cs:=#[.int .i64 0,.bool false]) ?_ 0 _ rfl;exact bm BK439.out) NB439_0.out (by simp));replace HK:=ak (KeepBut.trans (kn HK.out) hk (.inl rfl));replace HB:=ak hb;replace HI0:=ak hi;(try clear hb);(try clear hk);(try clear hi);have hcz23_0:=bc BK439 0 rfl;have hcz23_1:=bc BK439 1 rfl;have hfz23_0:=bf BK439 0;have hfz23_1:=bf BK439 1;have hnb24:=NB435_0.out;have hnc24:=NB0_435.out;have hcz25_0:=bc BK435 0 rfl;have hcz25_1:=bc BK435 1 rfl;have hfz25_0:=bf BK435 0;have hfz25_1:=bf BK435 1))
 refine bodyPost_ret (results_cell_row rfl _ _ gb435 28 #[.int .i64 3,.bool true] (0,0) _ rfl (by(with_reducible repeat(first|apply blk_drewN|apply blk_drew|apply blk_alloc));refine blk_put (cs:=#[.int .i64 3,.bool false]) ?_ 1 _ rfl;(with_reducible repeat(first|apply blk_drewN|apply blk_drew|apply blk_alloc));refine blk_put (cs:=#[.int .i64 0,.bool false]) ?_ 0 _ rfl;(with_reducible repeat(first|apply blk_drewN|apply blk_drew|apply blk_alloc));refine blk_far ?_ NB435_439.out _;exact bm BK435.out) Try.underlying28 rfl (by kernel_rfl)) rfl ?_
 exact⟨fe,(IsS95.now HI0.out),h3 HB.out (IsS95.ge HI0.out) GE435.out GE439.out,(kn HK.out)⟩
def spec_l1Cur_road.f (s0_0:List Int) (s0_1:Int) (s0_2:Int):Option (Int × Bool × Int × Int):=(spec_l1Cur_one.f s0_0 s0_1 s0_2 2).bind fun bt444=>(if bt444.1=true then((spec_l1Cur_line.f s0_0 bt444.2.1 bt444.2.2).bind fun bt447=>(some (bt447.1,bt447.2.1,bt447.2.2.1,bt447.2.2.2)))else((spec_l1Cur_ring.f s0_0 bt444.2.1 bt444.2.2).bind fun bt451=>(some (bt451.1,bt451.2.1,bt451.2.2.1,bt451.2.2.2))))
set_option maxHeartbeats 8000000 in
set_option maxRecDepth 100000 in
theorem spec_l1Cur_road.calls (g:Nat) (s0_0:List Int) (s0_1:Int) (s0_2:Int) (r1:Int) (r2:Bool) (r3:Int) (r4:Int) (w0 w:World) (hI:IsS95 w0 w g s0_0 s0_1 s0_2) (hB:Below w0.heap.size w0 w) (h:spec_l1Cur_road.f s0_0 s0_1 s0_2=some (r1,r2,r3,r4)):
  Calls Try.prog 107 #[.pointer (some ⟨g,0,none⟩)] w fun e w'=>e= .returned (.agg #[.int .i64 r1,.bool r2])∧IsS95 w0 w' g s0_0 r3 r4∧Below w0.heap.size w0 w'∧KeepBut w w' g none:=by
 have hu28:=Try.underlying28
 have HI0:=Aside0.mk hI
 have HK:=Aside0.mk (KeepBut.refl w g none)
 have HL:=Aside0.mk hB.size
 clear hI
 have HW0:=Aside0.mk hB.size
 have HB:=Aside0.mk hB
 clear hB
 unfold spec_l1Cur_road.f at h
 have H:=h
 clear h
 obtain⟨⟨t444,t445,t446⟩,A2,H⟩:=bd H;(try dsimp only at H)
 by_cases c3:t444=true
 ·subst c3
  rw[if_pos rfl]at H
  obtain⟨⟨t447,t448,t449,t450⟩,A4,H⟩:=bd H;(try dsimp only at H)
  simp only[Option.some.injEq,Prod.mk.injEq]at H
  obtain⟨rfl,rfl,rfl,rfl⟩:=H
  go_enter Try.func107,Try.ntmps107
  go_wp2_with (first|(refine bx 2 #[.int .i64 0,.bool false] 28 ?_;intro gb443 hg w5 hbox hb;replace HB:=ak (below_step (h1 HB.out (IsS95.ge HI0.out)) hb);have BK443:=ak hbox;have GW443:=ak ((by rw[hg];exact(keep_size (w:=w) (g:=g) (row:=none) (kn HK.out)):w.heap.size≤gb443));have GE443:=ak ((Nat.le_trans HW0.out (by rw[hg];exact(keep_size (w:=w) (g:=g) (row:=none) (kn HK.out)):w.heap.size≤gb443):w0.heap.size≤gb443));replace HK:=ak (KeepBut.trans (kn HK.out) (KeepBut.of_below hb g none) (.inl rfl));have NB0_443:=ak ((by rw[hg];exact Nat.ne_of_lt (IsS95.lt (show IsS95 w0 _ g s0_0 s0_1 s0_2 from(IsS95.now HI0.out))):g≠gb443));have NB443_0:=ak ((by rw[hg];exact Nat.ne_of_gt (IsS95.lt (show IsS95 w0 _ g s0_0 s0_1 s0_2 from(IsS95.now HI0.out))):gb443≠g));replace HI0:=ak (IsS95.below (g:=g) (IsS95.now HI0.out) hb);clear hb hbox hg)|(refine gs 4 Try.func81 #[.pointer (some ⟨g,0,none⟩),.int .i64 2] ?_;(with_reducible refine(spec_l1Cur_one.calls g s0_0 s0_1 s0_2 2 true t445 t446 w0 _ ?side1 ?side2 A2.out).mono ?_);(case side1=>exact IsS95.now HI0.out);(case side2=>exact h2 HB.out (IsS95.ge HI0.out) GE443.out);rintro e w6 ⟨rfl,hi,hb,hk⟩;refine⟨_,rfl,?_⟩;replace BK443:=kk BK443 hk NB443_0;replace HK:=ak (KeepBut.trans (kn HK.out) hk (.inl rfl));replace HB:=ak hb;replace HI0:=ak hi;(try clear hb);(try clear hk);(try clear hi))|(refine gs 6 Try.func91 #[.pointer (some ⟨g,0,none⟩)] ?_;(with_reducible refine(spec_l1Cur_line.calls g s0_0 t445 t446 t447 t448 t449 t450 w0 _ ?side1 ?side2 A4.out).mono ?_);(case side1=>exact IsS95.now HI0.out);(case side2=>exact h2 HB.out (IsS95.ge HI0.out) GE443.out);rintro e w7 ⟨rfl,hi,hb,hk⟩;refine⟨_,rfl,?_⟩;replace BK443:=kk BK443 hk NB443_0;replace HK:=ak (KeepBut.trans (kn HK.out) hk (.inl rfl));replace HB:=ak hb;replace HI0:=ak hi;(try clear hb);(try clear hk);(try clear hi);have hnb8:=NB443_0.out;have hnc8:=NB0_443.out;have hcz9_0:=bc BK443 0 rfl;have hcz9_1:=bc BK443 1 rfl;have hfz9_0:=bf BK443 0;have hfz9_1:=bf BK443 1))
  refine bodyPost_ret (results_cell_row rfl _ _ gb443 28 #[.int .i64 t447,.bool t448] (0,0) _ rfl (by(with_reducible repeat(first|apply blk_drewN|apply blk_drew|apply blk_alloc));refine blk_put (cs:=#[.int .i64 t447,.bool false]) ?_ 1 _ rfl;(with_reducible repeat(first|apply blk_drewN|apply blk_drew|apply blk_alloc));refine blk_put (cs:=#[.int .i64 0,.bool false]) ?_ 0 _ rfl;exact bm BK443.out) Try.underlying28 rfl (by kernel_rfl)) rfl ?_
  exact⟨fe,(IsS95.now HI0.out),h2 HB.out (IsS95.ge HI0.out) GE443.out,(kn HK.out)⟩
 replace c3:=Bool.eq_false_iff.mpr c3
 subst c3
 rw[if_neg (show ¬(false=true)by decide)]at H
 obtain⟨⟨t451,t452,t453,t454⟩,A10,H⟩:=bd H;(try dsimp only at H)
 simp only[Option.some.injEq,Prod.mk.injEq]at H
 obtain⟨rfl,rfl,rfl,rfl⟩:=H
 go_enter Try.func107,Try.ntmps107
 go_wp2_with (first|(refine bx 2 #[.int .i64 0,.bool false] 28 ?_;intro gb443 hg w11 hbox hb;replace HB:=ak (below_step (h1 HB.out (IsS95.ge HI0.out)) hb);have BK443:=ak hbox;have GW443:=ak ((by rw[hg];exact(keep_size (w:=w) (g:=g) (row:=none) (kn HK.out)):w.heap.size≤gb443));have GE443:=ak ((Nat.le_trans HW0.out (by rw[hg];exact(keep_size (w:=w) (g:=g) (row:=none) (kn HK.out)):w.heap.size≤gb443):w0.heap.size≤gb443));replace HK:=ak (KeepBut.trans (kn HK.out) (KeepBut.of_below hb g none) (.inl rfl));have NB0_443:=ak ((by rw[hg];exact Nat.ne_of_lt (IsS95.lt (show IsS95 w0 _ g s0_0 s0_1 s0_2 from(IsS95.now HI0.out))):g≠gb443));have NB443_0:=ak ((by rw[hg];exact Nat.ne_of_gt (IsS95.lt (show IsS95 w0 _ g s0_0 s0_1 s0_2 from(IsS95.now HI0.out))):gb443≠g));replace HI0:=ak (IsS95.below (g:=g) (IsS95.now HI0.out) hb);clear hb hbox hg)|(refine gs 4 Try.func81 #[.pointer (some ⟨g,0,none⟩),.int .i64 2] ?_;(with_reducible refine(spec_l1Cur_one.calls g s0_0 s0_1 s0_2 2 false t445 t446 w0 _ ?side1 ?side2 A2.out).mono ?_);(case side1=>exact IsS95.now HI0.out);(case side2=>exact h2 HB.out (IsS95.ge HI0.out) GE443.out);rintro e w12 ⟨rfl,hi,hb,hk⟩;refine⟨_,rfl,?_⟩;replace BK443:=kk BK443 hk NB443_0;replace HK:=ak (KeepBut.trans (kn HK.out) hk (.inl rfl));replace HB:=ak hb;replace HI0:=ak hi;(try clear hb);(try clear hk);(try clear hi))|(refine gs 8 Try.func115 #[.pointer (some ⟨g,0,none⟩)] ?_;(with_reducible refine(spec_l1Cur_ring.calls g s0_0 t445 t446 t451 t452 t453 t454 w0 _ ?side1 ?side2 A10.out).mono ?_);(case side1=>exact IsS95.now HI0.out);(case side2=>exact h2 HB.out (IsS95.ge HI0.out) GE443.out);rintro e w13 ⟨rfl,hi,hb,hk⟩;refine⟨_,rfl,?_⟩;replace BK443:=kk BK443 hk NB443_0;replace HK:=ak (KeepBut.trans (kn HK.out) hk (.inl rfl));replace HB:=ak hb;replace HI0:=ak hi;(try clear hb);(try clear hk);(try clear hi);have hnb14:=NB443_0.out;have hnc14:=NB0_443.out;have hcz15_0:=bc BK443 0 rfl;have hcz15_1:=bc BK443 1 rfl;have hfz15_0:=bf BK443 0;have hfz15_1:=bf BK443 1))
 refine bodyPost_ret (results_cell_row rfl _ _ gb443 28 #[.int .i64 t451,.bool t452] (0,0) _ rfl (by(with_reducible repeat(first|apply blk_drewN|apply blk_drew|apply blk_alloc));refine blk_put (cs:=#[.int .i64 t451,.bool false]) ?_ 1 _ rfl;(with_reducible repeat(first|apply blk_drewN|apply blk_drew|apply blk_alloc));refine blk_put (cs:=#[.int .i64 0,.bool false]) ?_ 0 _ rfl;exact bm BK443.out) Try.underlying28 rfl (by kernel_rfl)) rfl ?_
 exact⟨fe,(IsS95.now HI0.out),h2 HB.out (IsS95.ge HI0.out) GE443.out,(kn HK.out)⟩
def spec_l1Cur_ask7.j0:Nat→List Int→Int→Int→Int→Bool→Option (Int × Bool × (List (S63))× Int × Int × Int × Int)
 | 0,_,_,_,_,_=>none
 | k+1,x1000,x1001,x1002,x461000,x461001=>(spec_l1Least.f x461000 24).bind fun t468=>((spec_l1Most.f 1 t468).bind fun t469=>((spec_l1Cur_pick.f x1000 x1001 x1002 t469).bind fun bt470=>((spec_l1Cur_pick.f x1000 bt470.2.1 bt470.2.2 (wrap64 (t469-bt470.1))).bind fun bt473=>((spec_l1Cur_one.f x1000 bt473.2.1 bt473.2.2 16).bind fun bt476=>(if bt476.1=true then((spec_l1Cur_placeOn.f x1000 bt476.2.1 bt476.2.2 x461000 x461001).bind fun bt479=>((spec_l1Cur_carriers7.f k x1000 bt479.2.1 bt479.2.2 x461000 x461001).bind fun bt482=>(some (x461000,x461001,bt482.1,bt470.1,bt479.1,bt482.2.1,bt482.2.2))))else((spec_l1Cur_carriers7.f k x1000 bt476.2.1 bt476.2.2 x461000 x461001).bind fun bt487=>(some (x461000,x461001,bt487.1,bt470.1,wrap64 (bt470.1+bt473.1),bt487.2.1,bt487.2.2))))))))
def spec_l1Cur_ask7.f (k:Nat) (s0_0:List Int) (s0_1:Int) (s0_2:Int):Option (Int × Bool × (List (S63))× Int × Int × Int × Int):=(spec_l1Cur_line.f s0_0 s0_1 s0_2).bind fun bt456=>((spec_l1Cur_one.f s0_0 bt456.2.2.1 bt456.2.2.2 24).bind fun bt461=>(if bt461.1=true then((spec_l1Cur_road.f s0_0 bt461.2.1 bt461.2.2).bind fun bt464=>(spec_l1Cur_ask7.j0 k s0_0 bt464.2.2.1 bt464.2.2.2 bt464.1 bt464.2.1))else(spec_l1Cur_ask7.j0 k s0_0 bt461.2.1 bt461.2.2 bt456.1 bt456.2.1)))
theorem spec_l1Cur_ask7.mono_l:∀ k,(∀ y0 y1 y2 y3 y4,LeO (spec_l1Cur_ask7.j0 k y0 y1 y2 y3 y4) (spec_l1Cur_ask7.j0 (k+1) y0 y1 y2 y3 y4))
 | 0=>by
  refine ?_<;>(intros;intro r h;simp[spec_l1Cur_ask7.j0]at h)
 | k+1=>by
  have ih0:=spec_l1Cur_ask7.mono_l k
  refine ?_<;>intros<;>unfold spec_l1Cur_ask7.j0<;>(repeat' (with_reducible first|exact ih0 ..|exact spec_l1Cur_carriers7.mono ..|exact LeO.refl _|exact LeO.none _|refine LeO.ite ?_ ?_|refine LeO.bind ?_ (fun _=>?_)))
theorem spec_l1Cur_ask7.mono:∀ a0 a1 a2 k,LeO (spec_l1Cur_ask7.f k a0 a1 a2) (spec_l1Cur_ask7.f (k+1) a0 a1 a2):=by
 intro a0 a1 a2 k
 have ih0:=spec_l1Cur_ask7.mono_l k
 unfold spec_l1Cur_ask7.f
 repeat' (with_reducible first|exact ih0 ..|exact spec_l1Cur_carriers7.mono ..|exact LeO.refl _|exact LeO.none _|refine LeO.ite ?_ ?_|refine LeO.bind ?_ (fun _=>?_))
def spec_l1Cur_ask7.T9:Bool × List (List Nat × List Nat):=(true,[([],[]),([],[]),([],[]),([1,2],[1,2]),([],[]),([],[]),([0,3,0],[0]),([3,6,0,1,2,3,6],[3]),([4,7,0,1,2,3,4,6,7],[4]),([5,8,0,1,2,3,4,5,6,7,8],[5])])
def spec_l1Cur_ask7.B9:List Nat:=[0,0,0,6,0,0,15,79,223,511]
theorem spec_l1Cur_ask7.tab9:rtab .any (opsOf Try.f73 9)=spec_l1Cur_ask7.T9:=by kernel_rfl
theorem spec_l1Cur_ask7.bits9:waitsOk spec_l1Cur_ask7.T9.2 spec_l1Cur_ask7.B9=true:=by kernel_rfl
set_option maxHeartbeats 8000000 in
set_option maxRecDepth 100000 in
theorem spec_l1Cur_ask7.calls (k:Nat) (g:Nat) (s0_0:List Int) (s0_1:Int) (s0_2:Int) (r1:Int) (r2:Bool) (r3:List (S63)) (r4:Int) (r5:Int) (r6:Int) (r7:Int) (w0 w:World) (hI:IsS95 w0 w g s0_0 s0_1 s0_2) (hB:Below w0.heap.size w0 w) (h:spec_l1Cur_ask7.f k s0_0 s0_1 s0_2=some (r1,r2,r3,r4,r5,r6,r7)):
  Calls Try.prog 73 #[.pointer (some ⟨g,0,none⟩)] w fun e w'=>∃ v2_:Value,e= .returned (.tuple #[.agg #[.int .i64 r1,.bool r2],v2_,.int .i64 r4,.int .i64 r5])∧Kd.R k63 63 w' w.heap.size (fun _=>True) v2_ r3∧IsS95 w0 w' g s0_0 r6 r7∧Below w0.heap.size w0 w'∧KeepBut w w' g none:=by
 have hu28:=Try.underlying28
 have HI0:=Aside0.mk hI
 have HK:=Aside0.mk (KeepBut.refl w g none)
 have HL:=Aside0.mk hB.size
 clear hI
 have HW0:=Aside0.mk hB.size
 have HB:=Aside0.mk hB
 clear hB
 unfold spec_l1Cur_ask7.f at h
 have H:=h
 clear h
 obtain⟨⟨t456,t457,t458,t459⟩,A2,H⟩:=bd H;(try dsimp only at H)
 obtain⟨⟨t461,t462,t463⟩,A3,H⟩:=bd H;(try dsimp only at H)
 have HC4:=Aside0.mk H
 clear H
 go_enter Try.func73,Try.ntmps73
 go_upto_if 13 with(first|(refine bx 2 #[.int .i64 0,.bool false] 28 ?_;intro gb455 hg w5 hbox hb;replace HB:=ak (below_step (h1 HB.out (IsS95.ge HI0.out)) hb);have BK455:=ak hbox;have GW455:=ak ((by rw[hg];exact(keep_size (w:=w) (g:=g) (row:=none) (kn HK.out)):w.heap.size≤gb455));have GE455:=ak ((Nat.le_trans HW0.out (by rw[hg];exact(keep_size (w:=w) (g:=g) (row:=none) (kn HK.out)):w.heap.size≤gb455):w0.heap.size≤gb455));replace HK:=ak (KeepBut.trans (kn HK.out) (KeepBut.of_below hb g none) (.inl rfl));have NB0_455:=ak ((by rw[hg];exact Nat.ne_of_lt (IsS95.lt (show IsS95 w0 _ g s0_0 s0_1 s0_2 from(IsS95.now HI0.out))):g≠gb455));have NB455_0:=ak ((by rw[hg];exact Nat.ne_of_gt (IsS95.lt (show IsS95 w0 _ g s0_0 s0_1 s0_2 from(IsS95.now HI0.out))):gb455≠g));replace HI0:=ak (IsS95.below (g:=g) (IsS95.now HI0.out) hb);clear hb hbox hg)|(refine gs 11 Try.func91 #[.pointer (some ⟨g,0,none⟩)] ?_;(with_reducible refine(spec_l1Cur_line.calls g s0_0 s0_1 s0_2 t456 t457 t458 t459 w0 _ ?side1 ?side2 A2.out).mono ?_);(case side1=>exact IsS95.now HI0.out);(case side2=>exact h2 HB.out (IsS95.ge HI0.out) GE455.out);rintro e w6 ⟨rfl,hi,hb,hk⟩;refine⟨_,rfl,?_⟩;replace BK455:=kk BK455 hk NB455_0;replace HK:=ak (KeepBut.trans (kn HK.out) hk (.inl rfl));replace HB:=ak hb;replace HI0:=ak hi;(try clear hb);(try clear hk);(try clear hi))|(refine bx 6 #[.int .i64 0,.bool false] 28 ?_;intro gb460 hg w7 hbox hb;replace HB:=ak (below_step (h2 HB.out (IsS95.ge HI0.out) GE455.out) hb);have BK460:=ak hbox;have GW460:=ak ((by rw[hg];exact(keep_size (w:=w) (g:=g) (row:=none) (kn HK.out)):w.heap.size≤gb460));have GE460:=ak ((Nat.le_trans HW0.out (by rw[hg];exact(keep_size (w:=w) (g:=g) (row:=none) (kn HK.out)):w.heap.size≤gb460):w0.heap.size≤gb460));replace HK:=ak (KeepBut.trans (kn HK.out) (KeepBut.of_below hb g none) (.inl rfl));have NB455_460:=nl BK455 hg;have NB460_455:=ng BK455 hg;replace BK455:=kb BK455 hb;have NB0_460:=ak ((by rw[hg];exact Nat.ne_of_lt (IsS95.lt (show IsS95 w0 _ g s0_0 t458 t459 from(IsS95.now HI0.out))):g≠gb460));have NB460_0:=ak ((by rw[hg];exact Nat.ne_of_gt (IsS95.lt (show IsS95 w0 _ g s0_0 t458 t459 from(IsS95.now HI0.out))):gb460≠g));replace HI0:=ak (IsS95.below (g:=g) (IsS95.now HI0.out) hb);clear hb hbox hg;have hnb8:=NB460_455.out;have hnc8:=NB455_460.out;have hnb9:=NB460_0.out;have hnc9:=NB0_460.out;have hcz10_0:=bc BK460 0 rfl;have hcz10_1:=bc BK460 1 rfl;have hfz10_0:=bf BK460 0;have hfz10_1:=bf BK460 1)|(refine gs 13 Try.func81 #[.pointer (some ⟨g,0,none⟩),.int .i64 24] ?_;(with_reducible refine(spec_l1Cur_one.calls g s0_0 t458 t459 24 t461 t462 t463 w0 _ ?side1 ?side2 A3.out).mono ?_);(case side1=>exact IsS95.now HI0.out);(case side2=>exact h3 HB.out (IsS95.ge HI0.out) GE455.out GE460.out);rintro e w11 ⟨rfl,hi,hb,hk⟩;refine⟨_,rfl,?_⟩;replace BK455:=ak (KeepBut.blk hk (g':=gb455) (o:=.cells #[.int .i64 0,.bool false] 28 (0,0)) (by(with_reducible repeat(first|apply blk_drewN|apply blk_drew|apply blk_alloc));refine blk_far ?_ NB455_460.out _;(with_reducible repeat(first|apply blk_drewN|apply blk_drew|apply blk_alloc));refine blk_far ?_ NB455_460.out _;exact bm BK455.out) NB455_0.out (by simp));replace BK460:=ak (KeepBut.blk hk (g':=gb460) (o:=.cells #[.int .i64 t456,.bool t457] 28 (0,0)) (by(with_reducible repeat(first|apply blk_drewN|apply blk_drew|apply blk_alloc));refine blk_put (cs:=#[.int .i64 t456,.bool false]) ?_ 1 _ rfl;(with_reducible repeat(first|apply blk_drewN|apply blk_drew|apply blk_alloc));refine blk_put (cs:=#[.int .i64 0,.bool false]) ?_ 0 _ rfl;exact bm BK460.out) NB460_0.out (by simp));replace HK:=ak (KeepBut.trans (kn HK.out) hk (.inl rfl));replace HB:=ak hb;replace HI0:=ak hi;(try clear hb);(try clear hk);(try clear hi)))
 (try simp only[ap])
 go_cut [] (fun wc=>∃ (kq:Nat) (x1001_3:Int) (x1002_3:Int) (x461000_3:Int) (x461001_3:Bool),Aside0 (spec_l1Cur_ask7.j0 kq s0_0 x1001_3 x1002_3 x461000_3 x461001_3=some (r1,r2,r3,r4,r5,r6,r7))∧Aside0 (kq≤k)∧Aside0 (wc.heap[gb455]? =some (.cells #[.int .i64 0,.bool false] 28 (0,0)))∧Aside0 (wc.heap[gb460]? =some (.cells #[.int .i64 x461000_3,.bool x461001_3] 28 (0,0)))∧Aside0 (IsS95 w0 wc g s0_0 x1001_3 x1002_3)∧Aside0 (KeepBut w wc g none)∧Aside0 (Below w0.heap.size w0 wc))
 case first=>
  have H:=HC4.out
  clear HC4
  by_cases c12:t461=true
  rotate_left
  ·replace c12:=Bool.eq_false_iff.mpr c12
   subst c12
   rw[if_neg (show ¬(false=true)by decide)]at H
   have H':=Aside0.mk H
   clear H
   go_wp2
   go_meet
   case rel=>exact⟨_,(t462),(t463),(t456),(t457),H',⟨by first|exact Nat.le_refl _|omega⟩,⟨bm BK455.out⟩,⟨bm BK460.out⟩,⟨(IsS95.now HI0.out)⟩,⟨(kn HK.out)⟩,⟨h3 HB.out (IsS95.ge HI0.out) GE455.out GE460.out⟩⟩
  subst c12
  rw[if_pos rfl]at H
  obtain⟨⟨t464,t465,t466,t467⟩,A13,H⟩:=bd H;(try dsimp only at H)
  have H':=Aside0.mk H
  clear H
  go_wp2_with (first|(refine gs 15 Try.func107 #[.pointer (some ⟨g,0,none⟩)] ?_;(with_reducible refine(spec_l1Cur_road.calls g s0_0 t462 t463 t464 t465 t466 t467 w0 _ ?side1 ?side2 A13.out).mono ?_);(case side1=>exact IsS95.now HI0.out);(case side2=>exact h3 HB.out (IsS95.ge HI0.out) GE455.out GE460.out);rintro e w14 ⟨rfl,hi,hb,hk⟩;refine⟨_,rfl,?_⟩;replace BK455:=kk BK455 hk NB455_0;replace BK460:=kk BK460 hk NB460_0;replace HK:=ak (KeepBut.trans (kn HK.out) hk (.inl rfl));replace HB:=ak hb;replace HI0:=ak hi;(try clear hb);(try clear hk);(try clear hi);have hnb15:=NB460_455.out;have hnc15:=NB455_460.out;have hnb16:=NB460_0.out;have hnc16:=NB0_460.out;have hcz17_0:=bc BK460 0 rfl;have hcz17_1:=bc BK460 1 rfl;have hfz17_0:=bf BK460 0;have hfz17_1:=bf BK460 1))
  go_meet
  case rel=>exact⟨_,(t466),(t467),(t464),(t465),H',⟨by first|exact Nat.le_refl _|omega⟩,⟨by(with_reducible repeat(first|apply blk_drewN|apply blk_drew|apply blk_alloc));refine blk_far ?_ NB455_460.out _;(with_reducible repeat(first|apply blk_drewN|apply blk_drew|apply blk_alloc));refine blk_far ?_ NB455_460.out _;exact bm BK455.out⟩,⟨by(with_reducible repeat(first|apply blk_drewN|apply blk_drew|apply blk_alloc));refine blk_put (cs:=#[.int .i64 t464,.bool t457]) ?_ 1 _ rfl;(with_reducible repeat(first|apply blk_drewN|apply blk_drew|apply blk_alloc));refine blk_put (cs:=#[.int .i64 t456,.bool t457]) ?_ 0 _ rfl;exact bm BK460.out⟩,⟨(IsS95.now HI0.out)⟩,⟨(kn HK.out)⟩,⟨h3 HB.out (IsS95.ge HI0.out) GE455.out GE460.out⟩⟩
 clear HC4
 try clear c1
 try clear p2
 try clear c7
 try clear c8
 try clear c9
 try clear c10
 try clear c12
 try clear c15
 try clear c16
 try clear hcz10_0
 try clear hcz10_1
 try clear hcz17_0
 try clear hcz17_1
 try clear hfz10_0
 try clear hfz10_1
 try clear hfz17_0
 try clear hfz17_1
 obtain⟨kq,x1001_3,x1002_3,x461000_3,x461001_3,HA,HJ3,BK455,BK460,HI0,HK,HB⟩:=hcut
 obtain _|kj3:=kq;·cases HA.out
 obtain⟨H⟩:=HA
 simp only[spec_l1Cur_ask7.j0]at H
 obtain⟨t468,A18,H⟩:=bd H;(try dsimp only at H)
 obtain⟨t469,A19,H⟩:=bd H;(try dsimp only at H)
 obtain⟨⟨t470,t471,t472⟩,A20,H⟩:=bd H;(try dsimp only at H)
 obtain⟨⟨t473,t474,t475⟩,A21,H⟩:=bd H;(try dsimp only at H)
 obtain⟨⟨t476,t477,t478⟩,A22,H⟩:=bd H;(try dsimp only at H)
 by_cases c23:t476=true
 rotate_left
 ·replace c23:=Bool.eq_false_iff.mpr c23
  subst c23
  rw[if_neg (show ¬(false=true)by decide)]at H
  obtain⟨⟨t487,t490,t491⟩,A38,H⟩:=bd H;(try dsimp only at H)
  simp only[Option.some.injEq,Prod.mk.injEq]at H
  obtain⟨rfl,rfl,rfl,rfl,rfl,rfl,rfl⟩:=H
  have hnb39:=NB460_455.out
  have hnc39:=NB455_460.out
  have hnb40:=NB460_0.out
  have hnc40:=NB0_460.out
  have hcz41_0:=bc BK460 0 rfl
  have hcz41_1:=bc BK460 1 rfl
  have hfz41_0:=bf BK460 0
  have hfz41_1:=bf BK460 1
  try go_wp2_with (first|(refine gs 18 Try.func108 #[.int .i64 x461000_3,.int .i64 24] ?_;(with_reducible refine(spec_l1Least.calls x461000_3 24 t468 _ A18.out).mono ?_);rintro e w' ⟨rfl,⟨nd,rfl⟩⟩;refine⟨_,rfl,?_⟩;(try(rw[drewN_self wc];generalize hq_:World.drewN wc _=wc;have n0_:Aside0 (wc.heap[gb455]? =some (.cells #[.int .i64 0,.bool false] 28 (0,0))):=⟨by rw[←hq_];exact(bm BK455.out)⟩;have n1_:Aside0 (wc.heap[gb460]? =some (.cells #[.int .i64 x461000_3,.bool x461001_3] 28 (0,0))):=⟨by rw[←hq_];exact(bm BK460.out)⟩;have n2_:Aside0 (IsS95 w0 wc g s0_0 x1001_3 x1002_3):=⟨by rw[←hq_];exact(IsS95.now HI0.out)⟩;have n3_:Aside0 (KeepBut w wc g none):=⟨by rw[←hq_];exact(kn HK.out)⟩;have n4_:Aside0 (Below w0.heap.size w0 wc):=⟨by rw[←hq_];exact(h3 HB.out (IsS95.ge HI0.out) GE455.out GE460.out)⟩;clear BK455 BK460 HI0 HK HB hq_;have BK455:=n0_;have BK460:=n1_;have HI0:=n2_;have HK:=n3_;have HB:=n4_;clear n0_ n1_ n2_ n3_ n4_)))|(refine gs 19 Try.func101 #[.int .i64 1,.int .i64 t468] ?_;(with_reducible refine(spec_l1Most.calls 1 t468 t469 _ A19.out).mono ?_);rintro e w' ⟨rfl,⟨nd,rfl⟩⟩;refine⟨_,rfl,?_⟩;(try(rw[drewN_self wc];generalize hq_:World.drewN wc _=wc;have n0_:Aside0 (wc.heap[gb455]? =some (.cells #[.int .i64 0,.bool false] 28 (0,0))):=⟨by rw[←hq_];exact(bm BK455.out)⟩;have n1_:Aside0 (wc.heap[gb460]? =some (.cells #[.int .i64 x461000_3,.bool x461001_3] 28 (0,0))):=⟨by rw[←hq_];exact(bm BK460.out)⟩;have n2_:Aside0 (IsS95 w0 wc g s0_0 x1001_3 x1002_3):=⟨by rw[←hq_];exact(IsS95.now HI0.out)⟩;have n3_:Aside0 (KeepBut w wc g none):=⟨by rw[←hq_];exact(kn HK.out)⟩;have n4_:Aside0 (Below w0.heap.size w0 wc):=⟨by rw[←hq_];exact(h3 HB.out (IsS95.ge HI0.out) GE455.out GE460.out)⟩;clear BK455 BK460 HI0 HK HB hq_;have BK455:=n0_;have BK460:=n1_;have HI0:=n2_;have HK:=n3_;have HB:=n4_;clear n0_ n1_ n2_ n3_ n4_)))|(refine gs 22 Try.func79 #[.pointer (some ⟨g,0,none⟩),.int .i64 t469] ?_;(with_reducible refine(spec_l1Cur_pick.calls g s0_0 x1001_3 x1002_3 t469 t470 t471 t472 w0 _ ?side1 ?side2 A20.out).mono ?_);(case side1=>exact IsS95.now HI0.out);(case side2=>exact h3 HB.out (IsS95.ge HI0.out) GE455.out GE460.out);rintro e w42 ⟨rfl,hi,hb,hk⟩;refine⟨_,rfl,?_⟩;replace BK455:=kk BK455 hk NB455_0;replace BK460:=kk BK460 hk NB460_0;replace HK:=ak (KeepBut.trans (kn HK.out) hk (.inl rfl));replace HB:=ak hb;replace HI0:=ak hi;(try clear hb);(try clear hk);(try clear hi))|(refine gs 28 Try.func79 #[.pointer (some ⟨g,0,none⟩),.int .i64 (wrap64 (t469-t470))] ?_;(with_reducible refine(spec_l1Cur_pick.calls g s0_0 t471 t472 (wrap64 (t469-t470)) t473 t474 t475 w0 _ ?side1 ?side2 A21.out).mono ?_);(case side1=>exact IsS95.now HI0.out);(case side2=>exact h3 HB.out (IsS95.ge HI0.out) GE455.out GE460.out);rintro e w43 ⟨rfl,hi,hb,hk⟩;refine⟨_,rfl,?_⟩;replace BK455:=kk BK455 hk NB455_0;replace BK460:=kk BK460 hk NB460_0;replace HK:=ak (KeepBut.trans (kn HK.out) hk (.inl rfl));replace HB:=ak hb;replace HI0:=ak hi;(try clear hb);(try clear hk);(try clear hi))|(refine gs 31 Try.func81 #[.pointer (some ⟨g,0,none⟩),.int .i64 16] ?_;(with_reducible refine(spec_l1Cur_one.calls g s0_0 t474 t475 16 false t477 t478 w0 _ ?side1 ?side2 A22.out).mono ?_);(case side1=>exact IsS95.now HI0.out);(case side2=>exact h3 HB.out (IsS95.ge HI0.out) GE455.out GE460.out);rintro e w44 ⟨rfl,hi,hb,hk⟩;refine⟨_,rfl,?_⟩;replace BK455:=kk BK455 hk NB455_0;replace BK460:=kk BK460 hk NB460_0;replace HK:=ak (KeepBut.trans (kn HK.out) hk (.inl rfl));replace HB:=ak hb;replace HI0:=ak hi;(try clear hb);(try clear hk);(try clear hi)))
  replace BK455:=ak (blk_drew BK455.out)
  replace BK460:=ak (blk_drew BK460.out)
  replace HI0:=ak (IsS95.drew HI0.out)
  replace HK:=ak (keep_drew HK.out)
  replace HB:=ak (below_drew1 HB.out)
  refine start_ (n:=10) (S:=fun w'=>w'.cell? ⟨gb460,0,none⟩=some (.int .i64 x461000_3)∧w'.cell? ⟨gb460,1,none⟩=some (.bool x461001_3)) (ds:=[]) (lb 10 0) (by kernel_rfl) rfl rfl ⟨bc BK460 0 rfl,bc BK460 1 rfl⟩ (fun hHeld=>?_);refine with_tabW spec_l1Cur_ask7.tab9 spec_l1Cur_ask7.bits9 (fun HT_ HW_=>?_)
  generalize w44.drew=w45 at BK455 BK460 HI0 HK HB hHeld⊢
  refine pq 1 (N:=some 36) (lb 10 2) HT_ ?_
  refine pq 4 (N:=some 39) (lb 10 18) HT_ ?_
  refine pq 5 (N:=some 40) (lb 10 50) HT_ ?_
  refine tq 0 (N:=some 35) (lb 10 51) HT_ HW_ hHeld ?_
  refine tq 2 (N:=some 37) (lb 10 55) HT_ HW_ hHeld ?_
  refine one_ (i:=3) (N:=some 38) (lb 10 63) rfl rfl (one_of HT_.out (by kernel_rfl)) (by decide) (fun K hK=>?_)
  refine goes_ Try.func92 (by kernel_rfl) rfl #[.pointer (some ⟨g,0,none⟩),.agg #[.int .i64 x461000_3,.bool x461001_3]] (by rfl) rfl rfl gl ?_
  with_reducible refine(spec_l1Cur_carriers7.calls kj3 g s0_0 t477 t478 x461000_3 x461001_3 t487 t490 t491 w0 _ ?side1 ?side2 A38.out).mono ?_
  (case side1=>exact IsS95.now HI0.out)
  (case side2=>exact h3 HB.out (IsS95.ge HI0.out) GE455.out GE460.out)
  rintro e w46 ⟨v488,rfl,ho0,hi,hb,hk⟩
  refine⟨_,rfl,?_⟩
  replace BK455:=kk BK455 hk NB455_0
  replace BK460:=kk BK460 hk NB460_0
  have HO489:=ak (R_lower ho0 (keep_size (w:=w) (g:=g) (row:=none) (kn HK.out)))
  replace HK:=ak (KeepBut.trans (kn HK.out) hk (.inl rfl))
  replace HB:=ak hb
  replace HI0:=ak hi
  (try clear hb)
  (try clear hb2)
  (try clear hk)
  (try clear hi)
  (try clear ho0)
  refine hK.out _ _ ⟨bc BK460 0 rfl,bc BK460 1 rfl⟩ (fun hHeld=>?_)
  clear hK K
  refine norm_ (a':=?_) ?_ ?_
  rotate_left
  ·show Act.put _ (some 38) _=_
   simp only[ap]
   rfl
  refine one_ (i:=6) (N:=none) (lb 10 127) rfl rfl (one_of HT_.out (by kernel_rfl)) (by decide) (fun K hK=>?_)
  have hs47:w46.cell? ⟨gb455,0,none⟩=some (.int .i64 0):=bc BK455 0 rfl
  have hfs47:=blk_frozen BK455.out 0
  have hns47_1:=NB460_455.out
  have hms47_1:=NB455_460.out
  have hs48:w46.cell? ⟨gb455,1,none⟩=some (.bool false):=bc BK455 1 rfl
  have hfs48:=blk_frozen BK455.out 1
  have hns48_1:=NB460_455.out
  have hms48_1:=NB455_460.out
  refine skip_ (w1:=?_) (by rfl) rfl ?_ ?_
  rotate_left
  ·go_simp
   rfl
  refine hK.out _ _ ⟨((cell_far (p:=⟨gb455,_,none⟩) NB460_455.out _).trans (((cell_far (p:=⟨gb455,_,none⟩) NB460_455.out _).trans (hHeld.1)))),((cell_far (p:=⟨gb455,_,none⟩) NB460_455.out _).trans (((cell_far (p:=⟨gb455,_,none⟩) NB460_455.out _).trans (hHeld.2))))⟩ (fun hHeld=>?_)
  clear hK K
  refine pq 7 (N:=some 3) (lb 10 255) HT_ ?_
  refine pq 8 (N:=some 4) (lb 10 511) HT_ ?_
  refine pq 9 (N:=some 5) (lb 10 1023) HT_ ?_
  refine done_ (done_of HT_.out (by kernel_rfl)) ?_
  try go_wp2
  refine bodyPost_ret (results_list (rs:=[.cell 2 28,.tmp 3,.tmp 4,.tmp 5]) rfl (by simp) (.cell gb455 28 #[.int .i64 x461000_3,.bool x461001_3] (0,0) _ rfl (by(with_reducible repeat(first|apply blk_drewN|apply blk_drew|apply blk_alloc));refine blk_put (cs:=#[.int .i64 x461000_3,.bool false]) ?_ 1 _ rfl;(with_reducible repeat(first|apply blk_drewN|apply blk_drew|apply blk_alloc));refine blk_put (cs:=#[.int .i64 0,.bool false]) ?_ 0 _ rfl;exact bm BK455.out) Try.underlying28 rfl (by kernel_rfl) (.tmp (.tmp (.tmp .nil))))) rfl ?_
  exact⟨_,fe,by(with_reducible repeat(first|apply R_alloc|apply R_drewN|apply R_drew));exact R_mono (R_far (p:=⟨gb455,1,none⟩) (R_far (p:=⟨gb455,0,none⟩) (R_types HO489.out BK455.out (by decide)) (fun _ hk=>hk.2) (.int .i64 x461000_3)) (fun _ hk=>hk.2) (.bool x461001_3)) (fun _ hk=>trivial),(IsS95.now HI0.out),h3 HB.out (IsS95.ge HI0.out) GE455.out GE460.out,(kn HK.out)⟩
 subst c23
 rw[if_pos rfl]at H
 obtain⟨⟨t479,t480,t481⟩,A24,H⟩:=bd H;(try dsimp only at H)
 obtain⟨⟨t482,t485,t486⟩,A25,H⟩:=bd H;(try dsimp only at H)
 simp only[Option.some.injEq,Prod.mk.injEq]at H
 obtain⟨rfl,rfl,rfl,rfl,rfl,rfl,rfl⟩:=H
 have hnb26:=NB460_455.out
 have hnc26:=NB455_460.out
 have hnb27:=NB460_0.out
 have hnc27:=NB0_460.out
 have hcz28_0:=bc BK460 0 rfl
 have hcz28_1:=bc BK460 1 rfl
 have hfz28_0:=bf BK460 0
 have hfz28_1:=bf BK460 1
 try go_wp2_with (first|(refine gs 18 Try.func108 #[.int .i64 x461000_3,.int .i64 24] ?_;(with_reducible refine(spec_l1Least.calls x461000_3 24 t468 _ A18.out).mono ?_);rintro e w' ⟨rfl,⟨nd,rfl⟩⟩;refine⟨_,rfl,?_⟩;(try(rw[drewN_self wc];generalize hq_:World.drewN wc _=wc;have n0_:Aside0 (wc.heap[gb455]? =some (.cells #[.int .i64 0,.bool false] 28 (0,0))):=⟨by rw[←hq_];exact(bm BK455.out)⟩;have n1_:Aside0 (wc.heap[gb460]? =some (.cells #[.int .i64 x461000_3,.bool x461001_3] 28 (0,0))):=⟨by rw[←hq_];exact(bm BK460.out)⟩;have n2_:Aside0 (IsS95 w0 wc g s0_0 x1001_3 x1002_3):=⟨by rw[←hq_];exact(IsS95.now HI0.out)⟩;have n3_:Aside0 (KeepBut w wc g none):=⟨by rw[←hq_];exact(kn HK.out)⟩;have n4_:Aside0 (Below w0.heap.size w0 wc):=⟨by rw[←hq_];exact(h3 HB.out (IsS95.ge HI0.out) GE455.out GE460.out)⟩;clear BK455 BK460 HI0 HK HB hq_;have BK455:=n0_;have BK460:=n1_;have HI0:=n2_;have HK:=n3_;have HB:=n4_;clear n0_ n1_ n2_ n3_ n4_)))|(refine gs 19 Try.func101 #[.int .i64 1,.int .i64 t468] ?_;(with_reducible refine(spec_l1Most.calls 1 t468 t469 _ A19.out).mono ?_);rintro e w' ⟨rfl,⟨nd,rfl⟩⟩;refine⟨_,rfl,?_⟩;(try(rw[drewN_self wc];generalize hq_:World.drewN wc _=wc;have n0_:Aside0 (wc.heap[gb455]? =some (.cells #[.int .i64 0,.bool false] 28 (0,0))):=⟨by rw[←hq_];exact(bm BK455.out)⟩;have n1_:Aside0 (wc.heap[gb460]? =some (.cells #[.int .i64 x461000_3,.bool x461001_3] 28 (0,0))):=⟨by rw[←hq_];exact(bm BK460.out)⟩;have n2_:Aside0 (IsS95 w0 wc g s0_0 x1001_3 x1002_3):=⟨by rw[←hq_];exact(IsS95.now HI0.out)⟩;have n3_:Aside0 (KeepBut w wc g none):=⟨by rw[←hq_];exact(kn HK.out)⟩;have n4_:Aside0 (Below w0.heap.size w0 wc):=⟨by rw[←hq_];exact(h3 HB.out (IsS95.ge HI0.out) GE455.out GE460.out)⟩;clear BK455 BK460 HI0 HK HB hq_;have BK455:=n0_;have BK460:=n1_;have HI0:=n2_;have HK:=n3_;have HB:=n4_;clear n0_ n1_ n2_ n3_ n4_)))|(refine gs 22 Try.func79 #[.pointer (some ⟨g,0,none⟩),.int .i64 t469] ?_;(with_reducible refine(spec_l1Cur_pick.calls g s0_0 x1001_3 x1002_3 t469 t470 t471 t472 w0 _ ?side1 ?side2 A20.out).mono ?_);(case side1=>exact IsS95.now HI0.out);(case side2=>exact h3 HB.out (IsS95.ge HI0.out) GE455.out GE460.out);rintro e w29 ⟨rfl,hi,hb,hk⟩;refine⟨_,rfl,?_⟩;replace BK455:=kk BK455 hk NB455_0;replace BK460:=kk BK460 hk NB460_0;replace HK:=ak (KeepBut.trans (kn HK.out) hk (.inl rfl));replace HB:=ak hb;replace HI0:=ak hi;(try clear hb);(try clear hk);(try clear hi))|(refine gs 28 Try.func79 #[.pointer (some ⟨g,0,none⟩),.int .i64 (wrap64 (t469-t470))] ?_;(with_reducible refine(spec_l1Cur_pick.calls g s0_0 t471 t472 (wrap64 (t469-t470)) t473 t474 t475 w0 _ ?side1 ?side2 A21.out).mono ?_);(case side1=>exact IsS95.now HI0.out);(case side2=>exact h3 HB.out (IsS95.ge HI0.out) GE455.out GE460.out);rintro e w30 ⟨rfl,hi,hb,hk⟩;refine⟨_,rfl,?_⟩;replace BK455:=kk BK455 hk NB455_0;replace BK460:=kk BK460 hk NB460_0;replace HK:=ak (KeepBut.trans (kn HK.out) hk (.inl rfl));replace HB:=ak hb;replace HI0:=ak hi;(try clear hb);(try clear hk);(try clear hi))|(refine gs 31 Try.func81 #[.pointer (some ⟨g,0,none⟩),.int .i64 16] ?_;(with_reducible refine(spec_l1Cur_one.calls g s0_0 t474 t475 16 true t477 t478 w0 _ ?side1 ?side2 A22.out).mono ?_);(case side1=>exact IsS95.now HI0.out);(case side2=>exact h3 HB.out (IsS95.ge HI0.out) GE455.out GE460.out);rintro e w31 ⟨rfl,hi,hb,hk⟩;refine⟨_,rfl,?_⟩;replace BK455:=kk BK455 hk NB455_0;replace BK460:=kk BK460 hk NB460_0;replace HK:=ak (KeepBut.trans (kn HK.out) hk (.inl rfl));replace HB:=ak hb;replace HI0:=ak hi;(try clear hb);(try clear hk);(try clear hi);have hcz32_0:=bc BK460 0 rfl;have hcz32_1:=bc BK460 1 rfl;have hfz32_0:=bf BK460 0;have hfz32_1:=bf BK460 1)|(refine gs 34 Try.func93 #[.pointer (some ⟨g,0,none⟩),.agg #[.int .i64 x461000_3,.bool x461001_3]] ?_;(with_reducible refine(spec_l1Cur_placeOn.calls g s0_0 t477 t478 x461000_3 x461001_3 t479 t480 t481 w0 _ ?side1 ?side2 A24.out).mono ?_);(case side1=>exact IsS95.now HI0.out);(case side2=>exact h3 HB.out (IsS95.ge HI0.out) GE455.out GE460.out);rintro e w33 ⟨rfl,hi,hb,hk⟩;refine⟨_,rfl,?_⟩;replace BK455:=kk BK455 hk NB455_0;replace BK460:=kk BK460 hk NB460_0;replace HK:=ak (KeepBut.trans (kn HK.out) hk (.inl rfl));replace HB:=ak hb;replace HI0:=ak hi;(try clear hb);(try clear hk);(try clear hi)))
 replace BK455:=ak (blk_drew BK455.out)
 replace BK460:=ak (blk_drew BK460.out)
 replace HI0:=ak (IsS95.drew HI0.out)
 replace HK:=ak (keep_drew HK.out)
 replace HB:=ak (below_drew1 HB.out)
 refine start_ (n:=10) (S:=fun w'=>w'.cell? ⟨gb460,0,none⟩=some (.int .i64 x461000_3)∧w'.cell? ⟨gb460,1,none⟩=some (.bool x461001_3)) (ds:=[]) (lb 10 0) (by kernel_rfl) rfl rfl ⟨bc BK460 0 rfl,bc BK460 1 rfl⟩ (fun hHeld=>?_);refine with_tabW spec_l1Cur_ask7.tab9 spec_l1Cur_ask7.bits9 (fun HT_ HW_=>?_)
 generalize w33.drew=w34 at BK455 BK460 HI0 HK HB hHeld⊢
 refine pq 1 (N:=some 36) (lb 10 2) HT_ ?_
 refine pq 4 (N:=some 39) (lb 10 18) HT_ ?_
 refine pq 5 (N:=some 40) (lb 10 50) HT_ ?_
 refine tq 0 (N:=some 35) (lb 10 51) HT_ HW_ hHeld ?_
 refine tq 2 (N:=some 37) (lb 10 55) HT_ HW_ hHeld ?_
 refine one_ (i:=3) (N:=some 38) (lb 10 63) rfl rfl (one_of HT_.out (by kernel_rfl)) (by decide) (fun K hK=>?_)
 refine goes_ Try.func92 (by kernel_rfl) rfl #[.pointer (some ⟨g,0,none⟩),.agg #[.int .i64 x461000_3,.bool x461001_3]] (by rfl) rfl rfl gl ?_
 with_reducible refine(spec_l1Cur_carriers7.calls kj3 g s0_0 t480 t481 x461000_3 x461001_3 t482 t485 t486 w0 _ ?side1 ?side2 A25.out).mono ?_
 (case side1=>exact IsS95.now HI0.out)
 (case side2=>exact h3 HB.out (IsS95.ge HI0.out) GE455.out GE460.out)
 rintro e w35 ⟨v483,rfl,ho0,hi,hb,hk⟩
 refine⟨_,rfl,?_⟩
 replace BK455:=kk BK455 hk NB455_0
 replace BK460:=kk BK460 hk NB460_0
 have HO484:=ak (R_lower ho0 (keep_size (w:=w) (g:=g) (row:=none) (kn HK.out)))
 replace HK:=ak (KeepBut.trans (kn HK.out) hk (.inl rfl))
 replace HB:=ak hb
 replace HI0:=ak hi
 (try clear hb)
 (try clear hb2)
 (try clear hk)
 (try clear hi)
 (try clear ho0)
 refine hK.out _ _ ⟨bc BK460 0 rfl,bc BK460 1 rfl⟩ (fun hHeld=>?_)
 clear hK K
 refine norm_ (a':=?_) ?_ ?_
 rotate_left
 ·show Act.put _ (some 38) _=_
  simp only[ap]
  rfl
 refine one_ (i:=6) (N:=none) (lb 10 127) rfl rfl (one_of HT_.out (by kernel_rfl)) (by decide) (fun K hK=>?_)
 have hs36:w35.cell? ⟨gb455,0,none⟩=some (.int .i64 0):=bc BK455 0 rfl
 have hfs36:=blk_frozen BK455.out 0
 have hns36_1:=NB460_455.out
 have hms36_1:=NB455_460.out
 have hs37:w35.cell? ⟨gb455,1,none⟩=some (.bool false):=bc BK455 1 rfl
 have hfs37:=blk_frozen BK455.out 1
 have hns37_1:=NB460_455.out
 have hms37_1:=NB455_460.out
 refine skip_ (w1:=?_) (by rfl) rfl ?_ ?_
 rotate_left
 ·go_simp
  rfl
 refine hK.out _ _ ⟨((cell_far (p:=⟨gb455,_,none⟩) NB460_455.out _).trans (((cell_far (p:=⟨gb455,_,none⟩) NB460_455.out _).trans (hHeld.1)))),((cell_far (p:=⟨gb455,_,none⟩) NB460_455.out _).trans (((cell_far (p:=⟨gb455,_,none⟩) NB460_455.out _).trans (hHeld.2))))⟩ (fun hHeld=>?_)
 clear hK K
 refine pq 7 (N:=some 3) (lb 10 255) HT_ ?_
 refine pq 8 (N:=some 4) (lb 10 511) HT_ ?_
 refine pq 9 (N:=some 5) (lb 10 1023) HT_ ?_
 refine done_ (done_of HT_.out (by kernel_rfl)) ?_
 try go_wp2
 refine bodyPost_ret (results_list (rs:=[.cell 2 28,.tmp 3,.tmp 4,.tmp 5]) rfl (by simp) (.cell gb455 28 #[.int .i64 x461000_3,.bool x461001_3] (0,0) _ rfl (by(with_reducible repeat(first|apply blk_drewN|apply blk_drew|apply blk_alloc));refine blk_put (cs:=#[.int .i64 x461000_3,.bool false]) ?_ 1 _ rfl;(with_reducible repeat(first|apply blk_drewN|apply blk_drew|apply blk_alloc));refine blk_put (cs:=#[.int .i64 0,.bool false]) ?_ 0 _ rfl;exact bm BK455.out) Try.underlying28 rfl (by kernel_rfl) (.tmp (.tmp (.tmp .nil))))) rfl ?_
 exact⟨_,fe,by(with_reducible repeat(first|apply R_alloc|apply R_drewN|apply R_drew));exact R_mono (R_far (p:=⟨gb455,1,none⟩) (R_far (p:=⟨gb455,0,none⟩) (R_types HO484.out BK455.out (by decide)) (fun _ hk=>hk.2) (.int .i64 x461000_3)) (fun _ hk=>hk.2) (.bool x461001_3)) (fun _ hk=>trivial),(IsS95.now HI0.out),h3 HB.out (IsS95.ge HI0.out) GE455.out GE460.out,(kn HK.out)⟩
end
end Go.Proofs.Ythagkpoinjpmfaa.QFnRelays
