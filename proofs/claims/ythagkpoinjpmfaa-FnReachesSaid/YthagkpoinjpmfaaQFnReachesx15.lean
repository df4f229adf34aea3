/- Functions that the law FnReaches comes to, and their walks: no condition but those named. -/
import Derived.Test.YthagkpoinjpmfaaQFnReachesx0
import Derived.Test.YthagkpoinjpmfaaQFnReachesx1
import Derived.Test.YthagkpoinjpmfaaQFnReachesx3
import Derived.Test.YthagkpoinjpmfaaQFnReachesx4
import Derived.Test.YthagkpoinjpmfaaQFnReachesx6
import Derived.Test.YthagkpoinjpmfaaQFnReachesx9
import Derived.Test.YthagkpoinjpmfaaQFnReachesx11
import Derived.Test.YthagkpoinjpmfaaQFnReachesx12
import Derived.Test.YthagkpoinjpmfaaQFnReachesx14
namespace Go.Proofs.Ythagkpoinjpmfaa.QFnReaches
open Go.RowKit Go.Proofs.YthagkpoinjpmfaaW.PrintWords Go.Proofs.YthagkpoinjpmfaaW.PrintLast Go.Proofs.YthagkpoinjpmfaaW.PrintMore Go.Proofs.Ythagkpoinjpmfaa.Short
attribute [local go_sem] max2_int min2_int max_two min_two max_three min_three max_four min_four
set_option linter.unusedVariables false
set_option linter.unusedSimpArgs false
section
open Kd
def spec_LeastPrice.f (k:Nat) (a0_0:Int) (a0_1:Bool) (l1:List (S63)) (a2:Int) (a3:Int):Option (Int × Bool):=(spec_l7Asks.f k a0_0 a0_1 l1 a2 a3).bind fun t575=>(if t575=true then((spec_l7Best.f k a0_0 a0_1 l1 a2 a3 false).bind fun t576=>((spec_l7Told.f t576).bind fun bt577=>(some (bt577.1,bt577.2))))else(some (0,false)))
theorem spec_LeastPrice.mono:∀ a0 a1 a2 a3 a4 k,LeO (spec_LeastPrice.f k a0 a1 a2 a3 a4) (spec_LeastPrice.f (k+1) a0 a1 a2 a3 a4):=by
 intro a0 a1 a2 a3 a4 k
 unfold spec_LeastPrice.f
 repeat' (with_reducible first|exact spec_l7Asks.mono ..|exact spec_l7Best.mono ..|exact LeO.refl _|exact LeO.none _|refine LeO.ite ?_ ?_|refine LeO.bind ?_ (fun _=>?_))
set_option maxHeartbeats 8000000 in
set_option maxRecDepth 100000 in
theorem spec_LeastPrice.calls (k:Nat) (a0_0:Int) (a0_1:Bool) (A1:Option Addr) (c1:Nat) (l1:List (S63)) (a2:Int) (a3:Int) (r1:Int) (r2:Bool) (w:World) (hr1:Kd.C k63 w A1 l1.length l1) (hc1:l1.length≤c1) (h:spec_LeastPrice.f k a0_0 a0_1 l1 a2 a3=some (r1,r2)):
  Calls Try.prog 34 #[.agg #[.int .i64 a0_0,.bool a0_1],.slice A1 l1.length c1,.int .i64 a2,.int .i64 a3] w fun e w'=>e= .returned (.tuple #[.int .i64 r1,.bool r2])∧Below w.heap.size w w':=by
 have hu28:=Try.underlying28
 have HR1:=Aside0.mk hr1
 have HC1:=Aside0.mk hc1
 clear hr1 hc1
 have HB:=Aside0.mk (Below.refl w.heap.size w)
 unfold spec_LeastPrice.f at h
 have H:=h
 clear h
 obtain⟨t575,A5,H⟩:=bd H;(try dsimp only at H)
 by_cases c6:t575=true
 rotate_left
 ·replace c6:=Bool.eq_false_iff.mpr c6
  subst c6
  rw[if_neg (show ¬(false=true)by decide)]at H
  simp only[Option.some.injEq,Prod.mk.injEq]at H
  obtain⟨rfl,rfl⟩:=H
  go_enter Try.func34,Try.ntmps34
  go_wp2_with (first|(refine bx 4 #[.int .i64 a0_0,.bool a0_1] 28 ?_;intro gb574 hg w14 hbox hb;have BK574:=ak hbox;have GW574:=gw HB hg;have GE574:=gw HB hg;replace HB:=bs HB hb;clear hb hbox hg;have hcz15_0:=bc BK574 0 rfl;have hcz15_1:=bc BK574 1 rfl;have hfz15_0:=bf BK574 0;have hfz15_1:=bf BK574 1)|(refine gs 14 Try.func55 #[.agg #[.int .i64 a0_0,.bool a0_1],.slice A1 l1.length c1,.int .i64 a2,.int .i64 a3] ?_;(with_reducible refine(spec_l7Asks.calls k a0_0 a0_1 _ _ l1 a2 a3 false _ ?side1 ?side2 A5.out).mono ?_);(case side1=>exact cm (C_below HR1.out HB.out));(case side2=>exact HC1.out);rintro e w16 ⟨rfl,hb⟩;refine⟨_,rfl,?_⟩;replace BK574:=kb BK574 hb;replace HB:=ak (below_step (h1 HB.out GE574.out) hb);(try clear hb);(try clear hk);(try clear hi)))
  go_ret2
  exact⟨fe,h1 HB.out GE574.out⟩
 subst c6
 rw[if_pos rfl]at H
 obtain⟨t576,A7,H⟩:=bd H;(try dsimp only at H)
 obtain⟨⟨t577,t578⟩,A8,H⟩:=bd H;(try dsimp only at H)
 simp only[Option.some.injEq,Prod.mk.injEq]at H
 obtain⟨rfl,rfl⟩:=H
 go_enter Try.func34,Try.ntmps34
 go_wp2_with (first|(refine bx 4 #[.int .i64 a0_0,.bool a0_1] 28 ?_;intro gb574 hg w9 hbox hb;have BK574:=ak hbox;have GW574:=gw HB hg;have GE574:=gw HB hg;replace HB:=bs HB hb;clear hb hbox hg;have hcz10_0:=bc BK574 0 rfl;have hcz10_1:=bc BK574 1 rfl;have hfz10_0:=bf BK574 0;have hfz10_1:=bf BK574 1)|(refine gs 14 Try.func55 #[.agg #[.int .i64 a0_0,.bool a0_1],.slice A1 l1.length c1,.int .i64 a2,.int .i64 a3] ?_;(with_reducible refine(spec_l7Asks.calls k a0_0 a0_1 _ _ l1 a2 a3 true _ ?side1 ?side2 A5.out).mono ?_);(case side1=>exact cm (C_below HR1.out HB.out));(case side2=>exact HC1.out);rintro e w11 ⟨rfl,hb⟩;refine⟨_,rfl,?_⟩;replace BK574:=kb BK574 hb;replace HB:=ak (below_step (h1 HB.out GE574.out) hb);(try clear hb);(try clear hk);(try clear hi);have hcz12_0:=bc BK574 0 rfl;have hcz12_1:=bc BK574 1 rfl;have hfz12_0:=bf BK574 0;have hfz12_1:=bf BK574 1)|(refine gs 20 Try.func76 #[.agg #[.int .i64 a0_0,.bool a0_1],.slice A1 l1.length c1,.int .i64 a2,.int .i64 a3,.bool false] ?_;(with_reducible refine(spec_l7Best.calls k a0_0 a0_1 _ _ l1 a2 a3 false t576 _ ?side1 ?side2 A7.out).mono ?_);(case side1=>exact cm (C_below HR1.out HB.out));(case side2=>exact HC1.out);rintro e w13 ⟨rfl,hb⟩;refine⟨_,rfl,?_⟩;replace BK574:=kb BK574 hb;replace HB:=ak (below_step (h1 HB.out GE574.out) hb);(try clear hb);(try clear hk);(try clear hi))|(refine gs 21 Try.func57 #[.int .i64 t576] ?_;(with_reducible refine(spec_l7Told.calls t576 t577 t578 _ A8.out).mono ?_);rintro e w' ⟨rfl,⟨nd,rfl⟩⟩;refine⟨_,rfl,?_⟩))
 go_ret2
 exact⟨fe,h1 HB.out GE574.out⟩
def impl_FirstArrival.f (k:Nat) (a0_0:Int) (a0_1:Bool) (l1:List (S63)) (a2:Int) (a3:Int):Option (Int × Bool):=(mkLeg1.f a0_0 a0_1).bind fun t580=>((impl_least.f k a0_0 a0_1 l1 a2 a3 t580).bind fun bt581=>(some (bt581.1,bt581.2)))
theorem impl_FirstArrival.mono:∀ a0 a1 a2 a3 a4 k,LeO (impl_FirstArrival.f k a0 a1 a2 a3 a4) (impl_FirstArrival.f (k+1) a0 a1 a2 a3 a4):=by
 intro a0 a1 a2 a3 a4 k
 unfold impl_FirstArrival.f
 repeat' (with_reducible first|exact impl_least.mono ..|exact LeO.refl _|exact LeO.none _|refine LeO.ite ?_ ?_|refine LeO.bind ?_ (fun _=>?_))
set_option maxHeartbeats 8000000 in
set_option maxRecDepth 100000 in
theorem impl_FirstArrival.calls (k:Nat) (a0_0:Int) (a0_1:Bool) (A1:Option Addr) (c1:Nat) (l1:List (S63)) (a2:Int) (a3:Int) (r1:Int) (r2:Bool) (w:World) (hr1:Kd.C k63 w A1 l1.length l1) (hc1:l1.length≤c1) (h:impl_FirstArrival.f k a0_0 a0_1 l1 a2 a3=some (r1,r2)):
  Calls Try.prog 35 #[.agg #[.int .i64 a0_0,.bool a0_1],.slice A1 l1.length c1,.int .i64 a2,.int .i64 a3] w fun e w'=>e= .returned (.tuple #[.int .i64 r1,.bool r2])∧Below w.heap.size w w':=by
 have hu28:=Try.underlying28
 have HR1:=Aside0.mk hr1
 have HC1:=Aside0.mk hc1
 clear hr1 hc1
 have HB:=Aside0.mk (Below.refl w.heap.size w)
 unfold impl_FirstArrival.f at h
 have H:=h
 clear h
 obtain⟨t580,A5,H⟩:=bd H;(try dsimp only at H)
 obtain rfl:legCode 1 a0_0 a0_1=t580:=Option.some.inj A5.out
 obtain⟨⟨t581,t582⟩,A6,H⟩:=bd H;(try dsimp only at H)
 simp only[Option.some.injEq,Prod.mk.injEq]at H
 obtain⟨rfl,rfl⟩:=H
 go_enter Try.func35,Try.ntmps35
 go_wp2_with (first|(refine bx 4 #[.int .i64 a0_0,.bool a0_1] 28 ?_;intro gb579 hg w7 hbox hb;have BK579:=ak hbox;have GW579:=gw HB hg;have GE579:=gw HB hg;replace HB:=bs HB hb;clear hb hbox hg;have hcz8_0:=bc BK579 0 rfl;have hcz8_1:=bc BK579 1 rfl;have hfz8_0:=bf BK579 0;have hfz8_1:=bf BK579 1)|((with_reducible refine gate_callee (f:=74) rfl ?_);refine goesL_ (some 16) rfl rfl Try.func74 (by kernel_rfl) rfl #[.agg #[.int .i64 a0_0,.bool a0_1],.slice A1 l1.length c1,.int .i64 a2,.int .i64 a3,.func (.func 70) #[.agg #[.int .i64 a0_0,.bool a0_1]] #[]] rfl gl ?_;(with_reducible refine(impl_least.calls k a0_0 a0_1 _ _ l1 a2 a3 (legCode 1 a0_0 a0_1) _ t581 t582 _ ?side1 ?side2 ?sideL A6.out).mono ?_);(case sideL=>exact Or.inr ⟨(legCode_1 _ _).2.2,by rw[(legCode_1 _ _).1,(legCode_1 _ _).2.1]⟩);(case side1=>exact cm (C_below HR1.out HB.out));(case side2=>exact HC1.out);rintro e w10 ⟨rfl,hb⟩;refine⟨_,rfl,?_⟩;replace BK579:=kb BK579 hb;replace HB:=ak (below_step (h1 HB.out GE579.out) hb);(try clear hb);(try clear hk);(try clear hi)))
 go_ret2
 exact⟨fe,h1 HB.out GE579.out⟩
def spec_FirstArrival.f (k:Nat) (a0_0:Int) (a0_1:Bool) (l1:List (S63)) (a2:Int) (a3:Int):Option (Int × Bool):=(spec_l7Asks.f k a0_0 a0_1 l1 a2 a3).bind fun t584=>(if t584=true then((spec_l7Best.f k a0_0 a0_1 l1 a2 a3 true).bind fun t585=>((spec_l7Told.f t585).bind fun bt586=>(some (bt586.1,bt586.2))))else(some (0,false)))
theorem spec_FirstArrival.mono:∀ a0 a1 a2 a3 a4 k,LeO (spec_FirstArrival.f k a0 a1 a2 a3 a4) (spec_FirstArrival.f (k+1) a0 a1 a2 a3 a4):=by
 intro a0 a1 a2 a3 a4 k
 unfold spec_FirstArrival.f
 repeat' (with_reducible first|exact spec_l7Asks.mono ..|exact spec_l7Best.mono ..|exact LeO.refl _|exact LeO.none _|refine LeO.ite ?_ ?_|refine LeO.bind ?_ (fun _=>?_))
set_option maxHeartbeats 8000000 in
set_option maxRecDepth 100000 in
theorem spec_FirstArrival.calls (k:Nat) (a0_0:Int) (a0_1:Bool) (A1:Option Addr) (c1:Nat) (l1:List (S63)) (a2:Int) (a3:Int) (r1:Int) (r2:Bool) (w:World) (hr1:Kd.C k63 w A1 l1.length l1) (hc1:l1.length≤c1) (h:spec_FirstArrival.f k a0_0 a0_1 l1 a2 a3=some (r1,r2)):
  Calls Try.prog 36 #[.agg #[.int .i64 a0_0,.bool a0_1],.slice A1 l1.length c1,.int .i64 a2,.int .i64 a3] w fun e w'=>e= .returned (.tuple #[.int .i64 r1,.bool r2])∧Below w.heap.size w w':=by
 have hu28:=Try.underlying28
 have HR1:=Aside0.mk hr1
 have HC1:=Aside0.mk hc1
 clear hr1 hc1
 have HB:=Aside0.mk (Below.refl w.heap.size w)
 unfold spec_FirstArrival.f at h
 have H:=h
 clear h
 obtain⟨t584,A5,H⟩:=bd H;(try dsimp only at H)
 by_cases c6:t584=true
 rotate_left
 ·replace c6:=Bool.eq_false_iff.mpr c6
  subst c6
  rw[if_neg (show ¬(false=true)by decide)]at H
  simp only[Option.some.injEq,Prod.mk.injEq]at H
  obtain⟨rfl,rfl⟩:=H
  go_enter Try.func36,Try.ntmps36
  go_wp2_with (first|(refine bx 4 #[.int .i64 a0_0,.bool a0_1] 28 ?_;intro gb583 hg w14 hbox hb;have BK583:=ak hbox;have GW583:=gw HB hg;have GE583:=gw HB hg;replace HB:=bs HB hb;clear hb hbox hg;have hcz15_0:=bc BK583 0 rfl;have hcz15_1:=bc BK583 1 rfl;have hfz15_0:=bf BK583 0;have hfz15_1:=bf BK583 1)|(refine gs 14 Try.func55 #[.agg #[.int .i64 a0_0,.bool a0_1],.slice A1 l1.length c1,.int .i64 a2,.int .i64 a3] ?_;(with_reducible refine(spec_l7Asks.calls k a0_0 a0_1 _ _ l1 a2 a3 false _ ?side1 ?side2 A5.out).mono ?_);(case side1=>exact cm (C_below HR1.out HB.out));(case side2=>exact HC1.out);rintro e w16 ⟨rfl,hb⟩;refine⟨_,rfl,?_⟩;replace BK583:=kb BK583 hb;replace HB:=ak (below_step (h1 HB.out GE583.out) hb);(try clear hb);(try clear hk);(try clear hi)))
  go_ret2
  exact⟨fe,h1 HB.out GE583.out⟩
 subst c6
 rw[if_pos rfl]at H
 obtain⟨t585,A7,H⟩:=bd H;(try dsimp only at H)
 obtain⟨⟨t586,t587⟩,A8,H⟩:=bd H;(try dsimp only at H)
 simp only[Option.some.injEq,Prod.mk.injEq]at H
 obtain⟨rfl,rfl⟩:=H
 go_enter Try.func36,Try.ntmps36
 go_wp2_with (first|(refine bx 4 #[.int .i64 a0_0,.bool a0_1] 28 ?_;intro gb583 hg w9 hbox hb;have BK583:=ak hbox;have GW583:=gw HB hg;have GE583:=gw HB hg;replace HB:=bs HB hb;clear hb hbox hg;have hcz10_0:=bc BK583 0 rfl;have hcz10_1:=bc BK583 1 rfl;have hfz10_0:=bf BK583 0;have hfz10_1:=bf BK583 1)|(refine gs 14 Try.func55 #[.agg #[.int .i64 a0_0,.bool a0_1],.slice A1 l1.length c1,.int .i64 a2,.int .i64 a3] ?_;(with_reducible refine(spec_l7Asks.calls k a0_0 a0_1 _ _ l1 a2 a3 true _ ?side1 ?side2 A5.out).mono ?_);(case side1=>exact cm (C_below HR1.out HB.out));(case side2=>exact HC1.out);rintro e w11 ⟨rfl,hb⟩;refine⟨_,rfl,?_⟩;replace BK583:=kb BK583 hb;replace HB:=ak (below_step (h1 HB.out GE583.out) hb);(try clear hb);(try clear hk);(try clear hi);have hcz12_0:=bc BK583 0 rfl;have hcz12_1:=bc BK583 1 rfl;have hfz12_0:=bf BK583 0;have hfz12_1:=bf BK583 1)|(refine gs 20 Try.func76 #[.agg #[.int .i64 a0_0,.bool a0_1],.slice A1 l1.length c1,.int .i64 a2,.int .i64 a3,.bool true] ?_;(with_reducible refine(spec_l7Best.calls k a0_0 a0_1 _ _ l1 a2 a3 true t585 _ ?side1 ?side2 A7.out).mono ?_);(case side1=>exact cm (C_below HR1.out HB.out));(case side2=>exact HC1.out);rintro e w13 ⟨rfl,hb⟩;refine⟨_,rfl,?_⟩;replace BK583:=kb BK583 hb;replace HB:=ak (below_step (h1 HB.out GE583.out) hb);(try clear hb);(try clear hk);(try clear hi))|(refine gs 21 Try.func57 #[.int .i64 t585] ?_;(with_reducible refine(spec_l7Told.calls t585 t586 t587 _ A8.out).mono ?_);rintro e w' ⟨rfl,⟨nd,rfl⟩⟩;refine⟨_,rfl,?_⟩))
 go_ret2
 exact⟨fe,h1 HB.out GE583.out⟩
def spec_DrawGreatestReach.f (k:Nat) (l0:List Int):Option (Int × Bool × (List (S63))× Int):=(spec_l1Cur_ask7.f k l0 0 0).bind fun bt590=>(some (bt590.1,bt590.2.1,bt590.2.2.1,bt590.2.2.2.1))
theorem spec_DrawGreatestReach.mono:∀ a0 k,LeO (spec_DrawGreatestReach.f k a0) (spec_DrawGreatestReach.f (k+1) a0):=by
 intro a0 k
 unfold spec_DrawGreatestReach.f
 repeat' (with_reducible first|exact spec_l1Cur_ask7.mono ..|exact LeO.refl _|exact LeO.none _|refine LeO.ite ?_ ?_|refine LeO.bind ?_ (fun _=>?_))
set_option maxHeartbeats 8000000 in
set_option maxRecDepth 100000 in
theorem spec_DrawGreatestReach.calls (k:Nat) (A0:Option Addr) (c0:Nat) (l0:List Int) (r1:Int) (r2:Bool) (r3:List (S63)) (r4:Int) (w:World) (hr0:Kd.C (Kd.int .u8) w A0 l0.length l0) (hc0:l0.length≤c0) (h:spec_DrawGreatestReach.f k l0=some (r1,r2,r3,r4)):
  Calls Try.prog 37 #[.slice A0 l0.length c0] w fun e w'=>∃ v2_:Value,e= .returned (.tuple #[.agg #[.int .i64 r1,.bool r2],v2_,.int .i64 r4])∧Kd.R k63 63 w' w.heap.size (fun _=>True) v2_ r3∧Below w.heap.size w w':=by
 have hu28:=Try.underlying28
 have hu95:=Try.underlying95
 have HR0:=Aside0.mk hr0
 have HC0:=Aside0.mk hc0
 clear hr0 hc0
 have HB:=Aside0.mk (Below.refl w.heap.size w)
 unfold spec_DrawGreatestReach.f at h
 have H:=h
 clear h
 obtain⟨⟨t590,t591,t592,t595,t596,t597,t598⟩,A2,H⟩:=bd H;(try dsimp only at H)
 simp only[Option.some.injEq,Prod.mk.injEq]at H
 obtain⟨rfl,rfl,rfl,rfl⟩:=H
 go_enter Try.func37,Try.ntmps37
 go_wp2_with (first|(refine bx 2 #[.int .i64 0,.bool false] 28 ?_;intro gb588 hg w3 hbox hb;have BK588:=ak hbox;have GW588:=gw HB hg;have GE588:=gw HB hg;replace HB:=bs HB hb;clear hb hbox hg)|(refine bx 12 #[.slice A0 l0.length c0,.int .i64 0,.int .u64 0] 95 ?_;intro gb589 hg w4 hbox hb;have NB588_589:=nl BK588 hg;have NB589_588:=ng BK588 hg;replace BK588:=kb BK588 hb;have HI589:=ak ((⟨_,_,hbox,(by rw[hg];exact(below_size (h1 HB.out GE588.out)):w.heap.size≤gb589),HR0.out⟩:IsS95 w w4 gb589 l0 0 0));replace HB:=ak (below_step (h1 HB.out GE588.out) hb);clear hb hbox hg)|(refine gs 15 Try.func73 #[.pointer (some ⟨gb589,0,none⟩)] ?_;(with_reducible refine(spec_l1Cur_ask7.calls k gb589 l0 0 0 t590 t591 t592 t595 t596 t597 t598 w _ ?side1 ?side2 A2.out).mono ?_);(case side1=>exact IsS95.now HI589.out);(case side2=>exact h2 HB.out (IsS95.ge HI589.out) GE588.out);rintro e w5 ⟨v593,rfl,ho0,hi,hb,hk⟩;refine⟨_,rfl,?_⟩;replace BK588:=kk BK588 hk NB588_589;have HO594:=ak (R_lower ho0 (below_size (h2 HB.out (IsS95.ge HI589.out) GE588.out)));replace HB:=ak hb;replace HI589:=ak hi;(try clear hb);(try clear hk);(try clear hi);(try clear ho0))|(refine bx 6 #[.int .i64 0,.bool false] 28 ?_;intro gb599 hg w6 hbox hb;replace HO594:=rb HO594 hb;have BK599:=ak hbox;have GW599:=ak ((by rw[hg];exact(below_size (h2 HB.out (IsS95.ge HI589.out) GE588.out)):w.heap.size≤gb599));have GE599:=ak ((by rw[hg];exact(below_size (h2 HB.out (IsS95.ge HI589.out) GE588.out)):w.heap.size≤gb599));replace HB:=ak (below_step (h2 HB.out (IsS95.ge HI589.out) GE588.out) hb);have NB588_599:=nl BK588 hg;have NB599_588:=ng BK588 hg;replace BK588:=kb BK588 hb;have NB589_599:=ak ((by rw[hg];exact Nat.ne_of_lt (IsS95.lt (show IsS95 w _ gb589 l0 t597 t598 from by exact IsS95.now HI589.out)):gb589≠gb599));have NB599_589:=ak ((by rw[hg];exact Nat.ne_of_gt (IsS95.lt (show IsS95 w _ gb589 l0 t597 t598 from by exact IsS95.now HI589.out)):gb599≠gb589));replace HI589:=ak (IsS95.below (by exact IsS95.now HI589.out) hb);clear hb hbox hg;have hnb7:=NB599_588.out;have hnc7:=NB588_599.out;have hnb8:=NB599_589.out;have hnc8:=NB589_599.out;have hcz9_0:=bc BK599 0 rfl;have hcz9_1:=bc BK599 1 rfl;have hfz9_0:=bf BK599 0;have hfz9_1:=bf BK599 1;have hnb10:=NB588_589.out;have hnc10:=NB589_588.out;have hcz11_0:=bc BK588 0 rfl;have hcz11_1:=bc BK588 1 rfl;have hfz11_0:=bf BK588 0;have hfz11_1:=bf BK588 1))
 refine bodyPost_ret (results_ctt rfl _ _ gb588 28 #[.int .i64 t590,.bool t591] (0,0) _ rfl (by(with_reducible repeat(first|apply blk_drewN|apply blk_drew|apply blk_alloc));refine blk_put (cs:=#[.int .i64 t590,.bool false]) ?_ 1 _ rfl;(with_reducible repeat(first|apply blk_drewN|apply blk_drew|apply blk_alloc));refine blk_put (cs:=#[.int .i64 0,.bool false]) ?_ 0 _ rfl;(with_reducible repeat(first|apply blk_drewN|apply blk_drew|apply blk_alloc));refine blk_far ?_ NB588_599.out _;(with_reducible repeat(first|apply blk_drewN|apply blk_drew|apply blk_alloc));refine blk_far ?_ NB588_599.out _;exact bm BK588.out) Try.underlying28 rfl (by kernel_rfl)) rfl ?_
 exact⟨_,fe,by(with_reducible repeat(first|apply R_alloc|apply R_drewN|apply R_drew));exact R_mono (R_far (p:=⟨gb588,1,none⟩) (R_far (p:=⟨gb588,0,none⟩) (R_far (p:=⟨gb599,1,none⟩) (R_far (p:=⟨gb599,0,none⟩) (R_types (R_types HO594.out BK599.out (by decide)) BK588.out (by decide)) (fun _ hk=>hk.1.2) (.int .i64 t590)) (fun _ hk=>hk.1.2) (.bool t591)) (fun _ hk=>hk.2) (.int .i64 t590)) (fun _ hk=>hk.2) (.bool t591)) (fun _ hk=>trivial),h3 HB.out (IsS95.ge HI589.out) GE588.out GE599.out⟩
def laws_vCut.f (l0:List Int) (a1:Int):Option (List Int):=if a1>(l0.length:Int)then((some (([]:List Int):List Int)).bind fun y600=>(if 0≤(l0.length:Int)then(if(l0.length:Int)≤(l0.length:Int)then(if y600.length+(l0.drop ((l0.length:Int):Int).toNat).length<140737488355328 then((some (y600++(l0.drop ((l0.length:Int):Int).toNat):List Int)).bind fun y604=>(if y604.length<140737488355328 then(some (y604++[((l0.length:Int)) % 256]))else(none)))else(none))else(none))else(none)))else((some (([]:List Int):List Int)).bind fun y610=>(if 0≤a1 then(if a1≤(l0.length:Int)then(if y610.length+(l0.drop (a1:Int).toNat).length<140737488355328 then((some (y610++(l0.drop (a1:Int).toNat):List Int)).bind fun y614=>(if y614.length<140737488355328 then(some (y614++[(a1) % 256]))else(none)))else(none))else(none))else(none)))
set_option maxHeartbeats 8000000 in
set_option maxRecDepth 100000 in
theorem laws_vCut.calls (A0:Option Addr) (c0:Nat) (l0:List Int) (a1:Int) (r:List Int) (w:World) (hr0:Kd.C (Kd.int .u8) w A0 l0.length l0) (hc0:l0.length≤c0) (h:laws_vCut.f l0 a1=some r):
  Calls Try.prog 38 #[.slice A0 l0.length c0,.int .i64 a1] w fun e w'=>∃ v0_:Value,e= .returned (v0_)∧Kd.R (Kd.int .u8) 5 w' w.heap.size (fun _=>True) v0_ r∧Below w.heap.size w w':=by
 have HR0:=Aside0.mk hr0
 have HC0:=Aside0.mk hc0
 clear hr0 hc0
 have HB:=Aside0.mk (Below.refl w.heap.size w)
 unfold laws_vCut.f at h
 have H:=h
 clear h
 by_cases c3:a1>(l0.length:Int)
 rotate_left
 ·rw[if_neg c3]at H
  have c3b0:decide ((l0.length:Int)<a1)=false:=decide_eq_false c3
  clear c3
  obtain⟨y610,hy610⟩:∃ y_:List Int,y_=(([]:List Int)):=⟨_,rfl⟩
  replace H: (if 0≤a1 then(if a1≤(l0.length:Int)then(if y610.length+(l0.drop (a1:Int).toNat).length<140737488355328 then((some (y610++(l0.drop (a1:Int).toNat):List Int)).bind fun y614=>(if y614.length<140737488355328 then(some (y614++[(a1) % 256]))else(none)))else(none))else(none))else(none))=some r:=by subst hy610;first|(with_reducible exact H)|exact H
  have Ny610:=Aside0.mk hy610
  clear hy610
  obtain⟨c13,H⟩:=gi H
  have c13b0:=eq_true c13
  have c13b1:decide (0≤a1)=true:=decide_eq_true c13
  clear c13
  obtain⟨c14,H⟩:=gi H
  have c14b0:=eq_true c14
  have c14b1:decide (a1≤(l0.length:Int))=true:=decide_eq_true c14
  clear c14
  obtain⟨c15,H⟩:=gi H
  have LMc15:=Aside0.mk c15
  clear c15
  obtain⟨y614,hy614⟩:∃ y_:List Int,y_=(y610++(l0.drop (a1:Int).toNat)):=⟨_,rfl⟩
  replace H: (if y614.length<140737488355328 then(some (y614++[(a1) % 256]))else(none))=some r:=by subst hy614;first|(with_reducible exact H)|exact H
  have Ny614:=Aside0.mk hy614
  clear hy614
  obtain⟨c16,H⟩:=gi H
  have LMc16:=Aside0.mk c16
  clear c16
  generalize hy617: (y614++[(a1) % 256]:List Int)=y617 at H
  have Ny617:=ak hy617.symm
  clear hy617
  obtain rfl:=Option.some.inj H
  go_enter Try.func38,Try.ntmps38
  go_wp2_with (first|((with_reducible refine gate_dst (N:=11) rfl ?_);refine R_lit (Kd.int .u8) _ 5 ?hg (N:=11) ?hd (xs:=([]:List Int)) (inner:=[]) (ok:=fun _=>True) (okp:=fun _=>True) ?hr ?hp (fun _ hk=>hk) trivial (Below.refl _ _) (Nat.le_refl _) (by simp) ?_;(case hd=>rfl);(case hg=>rfl);(case hr=>first|(go_simp;done)|(go_simp;rfl));(case hp=>exact(Reps.none _ _));intro v611 w17 ho18 hb hg_ hnew_;clear hg_ hnew_;(first|rw[←Ny610.out]at ho18|(simp only[Int.reduceToNat]at ho18;rw[←Ny610.out]at ho18));have HO612:=ak (R_lower ho18 (below_size (hm HB.out)));replace HB:=bs HB hb;clear hb ho18;obtain⟨i019,hi019,_,hsz19,_⟩:=info_parts info5;obtain⟨A19,hcut19,hA19,hC19⟩:=print_drop_of (P:=Try.prog) (Value.int .u8) 0 46 5 .i64 Try.underlying46 hi019 hsz19 A0 c0 l0 a1 (od) (od) HC0.out;have HR613:=Aside0.mk (C_of_reads (h1:=fun _=>rfl) (hA19 _ (Kd.reads_of_C HR0.out)));have HC613:=Aside0.mk hC19;clear hA19 hC19 hi019 hsz19)|((with_reducible refine gate_builtin (b:=.append) (xs:=#[.tmp 11,.tmp 14]) rfl ?_);at_builtin;refine R_append_rows (Kd.int .u8) (w0:=w) w.heap.size rfl (.tmp 11) (.tmp 14) 46 5 (.int .u8 0) 1 rfl Try.underlying46 info5 rfl (by decide) (by omega) v611 y610 (l0.drop (a1:Int).toNat) _ _ _ (fun _=>True) (fun _=>False) rfl rfl ?aO ?aR (fun _ _ h=>h) (fun _ h=>h.elim) ?aF ?aB ?aS ?aL ?_;(case aR=>first|(rw[←show(l0.drop (a1:Int).toNat).length=(l0.length-a1.toNat)from List.length_drop];exact cm (C_below HR613.out HB.out))|(exact cm (C_below HR613.out HB.out)));(case aB=>exact(hm HB.out));(case aF=>exact(fun _ _=>trivial));(case aO=>exact(rm HO612.out));(case aS=>exact(below_size (hm HB.out)));(case aL=>have:=LMc15.out;have hlx_:=(show(l0.drop (a1:Int).toNat).length=(l0.length-a1.toNat)from List.length_drop);omega);intro v615 w20 ho hb hg hat;rw[←Ny614.out]at ho;replace HB:=ak hb;have HO616:=ak ho;clear HO612;clear ho hb hg hat)|((with_reducible refine gate_builtin (b:=.append) (xs:=#[.tmp 15,.tmp 18]) rfl ?_);at_builtin;refine R_append (Kd.int .u8) (w0:=w) w.heap.size rfl (.tmp 15) (.tmp 18) 46 5 (.int .u8 0) 1 rfl Try.underlying46 info5 rfl (by decide) (by omega) v615 y614 ((a1) % 256) [.int .u8 ((a1) % 256)] (fun _=>True) (fun _=>False) rfl rfl ?aP (fun _ hk=>hk.elim) ?aF ?aO ?aB ?aS ?aL ?_;(case aP=>exact rfl);(case aB=>exact(hm HB.out));(case aF=>exact(fun _ _=>trivial));(case aO=>exact(rm HO616.out));(case aS=>exact(below_size (hm HB.out)));(case aL=>have:=LMc16.out;omega);intro v618 w21 ho hb hg hat;rw[←Ny617.out]at ho;replace HB:=ak hb;have HO619:=ak ho;clear HO616;clear ho hb hg hat))
  go_ret
  exact⟨_,fe,rm HO619.out,hm HB.out⟩
 rw[if_pos c3]at H
 have c3b0:decide ((l0.length:Int)<a1)=true:=decide_eq_true c3
 clear c3
 obtain⟨y600,hy600⟩:∃ y_:List Int,y_=(([]:List Int)):=⟨_,rfl⟩
 replace H: (if 0≤(l0.length:Int)then(if(l0.length:Int)≤(l0.length:Int)then(if y600.length+(l0.drop ((l0.length:Int):Int).toNat).length<140737488355328 then((some (y600++(l0.drop ((l0.length:Int):Int).toNat):List Int)).bind fun y604=>(if y604.length<140737488355328 then(some (y604++[((l0.length:Int)) % 256]))else(none)))else(none))else(none))else(none))=some r:=by subst hy600;first|(with_reducible exact H)|exact H
 have Ny600:=Aside0.mk hy600
 clear hy600
 obtain⟨c4,H⟩:=gi H
 have c4b0:=eq_true c4
 have c4b1:decide (0≤(l0.length:Int))=true:=decide_eq_true c4
 clear c4
 obtain⟨c5,H⟩:=gi H
 have c5b0:=eq_true c5
 have c5b1:decide ((l0.length:Int)≤(l0.length:Int))=true:=decide_eq_true c5
 clear c5
 obtain⟨c6,H⟩:=gi H
 have LMc6:=Aside0.mk c6
 clear c6
 obtain⟨y604,hy604⟩:∃ y_:List Int,y_=(y600++(l0.drop ((l0.length:Int):Int).toNat)):=⟨_,rfl⟩
 replace H: (if y604.length<140737488355328 then(some (y604++[((l0.length:Int)) % 256]))else(none))=some r:=by subst hy604;first|(with_reducible exact H)|exact H
 have Ny604:=Aside0.mk hy604
 clear hy604
 obtain⟨c7,H⟩:=gi H
 have LMc7:=Aside0.mk c7
 clear c7
 generalize hy607: (y604++[((l0.length:Int)) % 256]:List Int)=y607 at H
 have Ny607:=ak hy607.symm
 clear hy607
 obtain rfl:=Option.some.inj H
 go_enter Try.func38,Try.ntmps38
 go_wp2_with (first|((with_reducible refine gate_dst (N:=11) rfl ?_);refine R_lit (Kd.int .u8) _ 5 ?hg (N:=11) ?hd (xs:=([]:List Int)) (inner:=[]) (ok:=fun _=>True) (okp:=fun _=>True) ?hr ?hp (fun _ hk=>hk) trivial (Below.refl _ _) (Nat.le_refl _) (by simp) ?_;(case hd=>rfl);(case hg=>rfl);(case hr=>first|(go_simp;done)|(go_simp;rfl));(case hp=>exact(Reps.none _ _));intro v601 w8 ho9 hb hg_ hnew_;clear hg_ hnew_;(first|rw[←Ny600.out]at ho9|(simp only[Int.reduceToNat]at ho9;rw[←Ny600.out]at ho9));have HO602:=ak (R_lower ho9 (below_size (hm HB.out)));replace HB:=bs HB hb;clear hb ho9;obtain⟨i010,hi010,_,hsz10,_⟩:=info_parts info5;obtain⟨A10,hcut10,hA10,hC10⟩:=print_drop_of (P:=Try.prog) (Value.int .u8) 0 46 5 .i64 Try.underlying46 hi010 hsz10 A0 c0 l0 (l0.length:Int) (od) (od) HC0.out;have HR603:=Aside0.mk (C_of_reads (h1:=fun _=>rfl) (hA10 _ (Kd.reads_of_C HR0.out)));have HC603:=Aside0.mk hC10;clear hA10 hC10 hi010 hsz10)|((with_reducible refine gate_builtin (b:=.append) (xs:=#[.tmp 11,.tmp 14]) rfl ?_);at_builtin;refine R_append_rows (Kd.int .u8) (w0:=w) w.heap.size rfl (.tmp 11) (.tmp 14) 46 5 (.int .u8 0) 1 rfl Try.underlying46 info5 rfl (by decide) (by omega) v601 y600 (l0.drop ((l0.length:Int):Int).toNat) _ _ _ (fun _=>True) (fun _=>False) rfl rfl ?aO ?aR (fun _ _ h=>h) (fun _ h=>h.elim) ?aF ?aB ?aS ?aL ?_;(case aR=>first|(rw[←show(l0.drop ((l0.length:Int):Int).toNat).length=(l0.length-(l0.length:Int).toNat)from List.length_drop];exact cm (C_below HR603.out HB.out))|(exact cm (C_below HR603.out HB.out))|(refine Eq.mp (congrArg (fun m_=>ReadsRow _ _ _ _ m_ _) (show(l0.drop ((l0.length:Int):Int).toNat).length=0 from by simp)) ?_;(exact cm (C_below HR603.out HB.out))));(case aB=>exact(hm HB.out));(case aF=>exact(fun _ _=>trivial));(case aO=>exact(rm HO602.out));(case aS=>exact(below_size (hm HB.out)));(case aL=>have:=LMc6.out;have hlx_:=(show(l0.drop ((l0.length:Int):Int).toNat).length=(l0.length-(l0.length:Int).toNat)from List.length_drop);omega);intro v605 w11 ho hb hg hat;rw[←Ny604.out]at ho;replace HB:=ak hb;have HO606:=ak ho;clear HO602;clear ho hb hg hat)|((with_reducible refine gate_builtin (b:=.append) (xs:=#[.tmp 15,.tmp 18]) rfl ?_);at_builtin;refine R_append (Kd.int .u8) (w0:=w) w.heap.size rfl (.tmp 15) (.tmp 18) 46 5 (.int .u8 0) 1 rfl Try.underlying46 info5 rfl (by decide) (by omega) v605 y604 (((l0.length:Int)) % 256) [.int .u8 (((l0.length:Int)) % 256)] (fun _=>True) (fun _=>False) rfl rfl ?aP (fun _ hk=>hk.elim) ?aF ?aO ?aB ?aS ?aL ?_;(case aP=>exact rfl);(case aB=>exact(hm HB.out));(case aF=>exact(fun _ _=>trivial));(case aO=>exact(rm HO606.out));(case aS=>exact(below_size (hm HB.out)));(case aL=>have:=LMc7.out;omega);intro v608 w12 ho hb hg hat;rw[←Ny607.out]at ho;replace HB:=ak hb;have HO609:=ak ho;clear HO606;clear ho hb hg hat))
 go_ret
 exact⟨_,fe,rm HO609.out,hm HB.out⟩
def impl_GreatestReach.f (k:Nat) (a0_0:Int) (a0_1:Bool) (l1:List (S63)) (a2:Int):Option (Int × Bool):=(impl_isCarried.f k a0_0 a0_1 l1 (([a2]:List Int))).bind fun t624=>(if t624=true then((impl_Road_reachOrder.f k a0_0 a0_1 l1 a2 a0_0).bind fun bt625=>(some (bt625.2,true)))else(some (0,false)))
theorem impl_GreatestReach.mono:∀ a0 a1 a2 a3 k,LeO (impl_GreatestReach.f k a0 a1 a2 a3) (impl_GreatestReach.f (k+1) a0 a1 a2 a3):=by
 intro a0 a1 a2 a3 k
 unfold impl_GreatestReach.f
 repeat' (with_reducible first|exact impl_Road_reachOrder.mono ..|exact impl_isCarried.mono ..|exact LeO.refl _|exact LeO.none _|refine LeO.ite ?_ ?_|refine LeO.bind ?_ (fun _=>?_))
set_option maxHeartbeats 8000000 in
set_option maxRecDepth 100000 in
theorem impl_GreatestReach.calls (k:Nat) (a0_0:Int) (a0_1:Bool) (A1:Option Addr) (c1:Nat) (l1:List (S63)) (a2:Int) (r1:Int) (r2:Bool) (w:World) (hr1:Kd.C k63 w A1 l1.length l1) (hc1:l1.length≤c1) (h:impl_GreatestReach.f k a0_0 a0_1 l1 a2=some (r1,r2)):
  Calls Try.prog 39 #[.agg #[.int .i64 a0_0,.bool a0_1],.slice A1 l1.length c1,.int .i64 a2] w fun e w'=>e= .returned (.tuple #[.int .i64 r1,.bool r2])∧Below w.heap.size w w':=by
 have hu28:=Try.underlying28
 have HR1:=Aside0.mk hr1
 have HC1:=Aside0.mk hc1
 clear hr1 hc1
 have HB:=Aside0.mk (Below.refl w.heap.size w)
 unfold impl_GreatestReach.f at h
 have H:=h
 clear h
 generalize hy621: ([a2]:List Int)=y621 at H
 have Ny621:=ak hy621.symm
 clear hy621
 obtain⟨t624,A4,H⟩:=bd H;(try dsimp only at H)
 by_cases c5:t624=true
 rotate_left
 ·replace c5:=Bool.eq_false_iff.mpr c5
  subst c5
  rw[if_neg (show ¬(false=true)by decide)]at H
  simp only[Option.some.injEq,Prod.mk.injEq]at H
  obtain⟨rfl,rfl⟩:=H
  go_enter Try.func39,Try.ntmps39
  go_wp2_with (first|(refine bx 3 #[.int .i64 a0_0,.bool a0_1] 28 ?_;intro gb620 hg w15 hbox hb;have BK620:=ak hbox;have GW620:=gw HB hg;have GE620:=gw HB hg;replace HB:=bs HB hb;clear hb hbox hg;have hcz16_0:=bc BK620 0 rfl;have hcz16_1:=bc BK620 1 rfl;have hfz16_0:=bf BK620 0;have hfz16_1:=bf BK620 1)|((with_reducible refine gate_dst (N:=13) rfl ?_);refine R_lit (Kd.int .i64) _ 3 ?hg (N:=13) ?hd (xs:=([a2]:List Int)) (inner:=[.int .i64 a2]) (ok:=fun _=>True) (okp:=fun _=>True) ?hr ?hp (fun _ hk=>hk) trivial (Below.refl _ _) (Nat.le_refl _) (by simp) ?_;(case hd=>rfl);(case hg=>rfl);(case hr=>first|(go_simp;done)|(go_simp;rfl));(case hp=>exact(Reps.one (show Kd.M (Kd.int .i64) _ _ _ a2 [.int .i64 a2]from rfl) (Reps.none _ _)));intro v622 w17 ho18 hb hg_ hnew_;clear hg_ hnew_;(first|rw[←Ny621.out]at ho18|(simp only[Int.reduceToNat]at ho18;rw[←Ny621.out]at ho18));have HO623:=ak (R_lower ho18 (below_size (h1 HB.out GE620.out)));replace BK620:=kb BK620 hb;replace HB:=ak (below_step (h1 HB.out GE620.out) hb);clear hb ho18;obtain⟨Ao19,co19,eo19⟩:=R_slice HO623.out;subst eo19)|(refine gs 14 Try.func63 #[.agg #[.int .i64 a0_0,.bool a0_1],.slice A1 l1.length c1,.slice Ao19 y621.length co19] ?_;(with_reducible refine(impl_isCarried.calls k a0_0 a0_1 _ _ l1 _ _ y621 false _ ?side1 ?side2 ?side3 ?side4 A4.out).mono ?_);(case side1=>exact cm (C_below HR1.out HB.out));(case side2=>exact HC1.out);(case side3=>exact cm (R_reads' HO623.out).2.2);(case side4=>exact(R_reads' HO623.out).2.1);rintro e w20 ⟨rfl,hb⟩;refine⟨_,rfl,?_⟩;replace HO623:=rb HO623 hb;replace BK620:=kb BK620 hb;replace HB:=ak (below_step (h1 HB.out GE620.out) hb);(try clear hb);(try clear hk);(try clear hi)))
  go_ret2
  exact⟨fe,h1 HB.out GE620.out⟩
 subst c5
 rw[if_pos rfl]at H
 obtain⟨⟨t625,t628⟩,A6,H⟩:=bd H;(try dsimp only at H)
 simp only[Option.some.injEq,Prod.mk.injEq]at H
 obtain⟨rfl,rfl⟩:=H
 go_enter Try.func39,Try.ntmps39
 go_wp2_with (first|(refine bx 3 #[.int .i64 a0_0,.bool a0_1] 28 ?_;intro gb620 hg w7 hbox hb;have BK620:=ak hbox;have GW620:=gw HB hg;have GE620:=gw HB hg;replace HB:=bs HB hb;clear hb hbox hg;have hcz8_0:=bc BK620 0 rfl;have hcz8_1:=bc BK620 1 rfl;have hfz8_0:=bf BK620 0;have hfz8_1:=bf BK620 1)|((with_reducible refine gate_dst (N:=13) rfl ?_);refine R_lit (Kd.int .i64) _ 3 ?hg (N:=13) ?hd (xs:=([a2]:List Int)) (inner:=[.int .i64 a2]) (ok:=fun _=>True) (okp:=fun _=>True) ?hr ?hp (fun _ hk=>hk) trivial (Below.refl _ _) (Nat.le_refl _) (by simp) ?_;(case hd=>rfl);(case hg=>rfl);(case hr=>first|(go_simp;done)|(go_simp;rfl));(case hp=>exact(Reps.one (show Kd.M (Kd.int .i64) _ _ _ a2 [.int .i64 a2]from rfl) (Reps.none _ _)));intro v622 w9 ho10 hb hg_ hnew_;clear hg_ hnew_;(first|rw[←Ny621.out]at ho10|(simp only[Int.reduceToNat]at ho10;rw[←Ny621.out]at ho10));have HO623:=ak (R_lower ho10 (below_size (h1 HB.out GE620.out)));replace BK620:=kb BK620 hb;replace HB:=ak (below_step (h1 HB.out GE620.out) hb);clear hb ho10;obtain⟨Ao11,co11,eo11⟩:=R_slice HO623.out;subst eo11)|(refine gs 14 Try.func63 #[.agg #[.int .i64 a0_0,.bool a0_1],.slice A1 l1.length c1,.slice Ao11 y621.length co11] ?_;(with_reducible refine(impl_isCarried.calls k a0_0 a0_1 _ _ l1 _ _ y621 true _ ?side1 ?side2 ?side3 ?side4 A4.out).mono ?_);(case side1=>exact cm (C_below HR1.out HB.out));(case side2=>exact HC1.out);(case side3=>exact cm (R_reads' HO623.out).2.2);(case side4=>exact(R_reads' HO623.out).2.1);rintro e w12 ⟨rfl,hb⟩;refine⟨_,rfl,?_⟩;replace HO623:=rb HO623 hb;replace BK620:=kb BK620 hb;replace HB:=ak (below_step (h1 HB.out GE620.out) hb);(try clear hb);(try clear hk);(try clear hi);have hcz13_0:=bc BK620 0 rfl;have hcz13_1:=bc BK620 1 rfl;have hfz13_0:=bf BK620 0;have hfz13_1:=bf BK620 1)|(refine gs 22 Try.func68 #[.agg #[.int .i64 a0_0,.bool a0_1],.slice A1 l1.length c1,.int .i64 a2,.int .i64 a0_0] ?_;(with_reducible refine(impl_Road_reachOrder.calls k a0_0 a0_1 _ _ l1 a2 a0_0 t625 t628 _ ?side1 ?side2 A6.out).mono ?_);(case side1=>exact cm (C_below HR1.out HB.out));(case side2=>exact HC1.out);rintro e w14 ⟨v626,rfl,ho0,-,hb⟩;refine⟨_,rfl,?_⟩;have HO627:=ak (R_lower (R_new' ho0 (R_lt (rm HO623.out))) (below_size (h1 HB.out GE620.out)));replace HO623:=ak (R_elder' (rm HO623.out) (R_base ho0) hb);replace BK620:=kb BK620 hb;replace HB:=ak (below_step (h1 HB.out GE620.out) hb);(try clear hb);(try clear hk);(try clear hi);(try clear ho0)))
 go_ret2
 exact⟨fe,h1 HB.out GE620.out⟩
def spec_GreatestReach.f (k:Nat) (a0_0:Int) (a0_1:Bool) (l1:List (S63)) (a2:Int):Option (Int × Bool):=(spec_l7Carriers.f k a0_0 a0_1 l1).bind fun t630=>(if t630=true then((spec_l2Place.f a0_0 a0_1 a2).bind fun t631=>(if t631=true then((spec_l7Table.f k a0_0 a0_1 l1 a2).bind fun t632=>(if 0≤(wrap64 ((t632.length:Int)-1))then(if(wrap64 ((t632.length:Int)-1))<(t632.length:Int)then(some (rd t632 (wrap64 ((t632.length:Int)-1)),true))else(none))else(none)))else(some (0,false))))else(some (0,false)))
theorem spec_GreatestReach.mono:∀ a0 a1 a2 a3 k,LeO (spec_GreatestReach.f k a0 a1 a2 a3) (spec_GreatestReach.f (k+1) a0 a1 a2 a3):=by
 intro a0 a1 a2 a3 k
 unfold spec_GreatestReach.f
 repeat' (with_reducible first|exact spec_l7Carriers.mono ..|exact spec_l7Table.mono ..|exact LeO.refl _|exact LeO.none _|refine LeO.ite ?_ ?_|refine LeO.bind ?_ (fun _=>?_))
set_option maxHeartbeats 8000000 in
set_option maxRecDepth 100000 in
theorem spec_GreatestReach.calls (k:Nat) (a0_0:Int) (a0_1:Bool) (A1:Option Addr) (c1:Nat) (l1:List (S63)) (a2:Int) (r1:Int) (r2:Bool) (w:World) (hr1:Kd.C k63 w A1 l1.length l1) (hc1:l1.length≤c1) (h:spec_GreatestReach.f k a0_0 a0_1 l1 a2=some (r1,r2)):
  Calls Try.prog 40 #[.agg #[.int .i64 a0_0,.bool a0_1],.slice A1 l1.length c1,.int .i64 a2] w fun e w'=>e= .returned (.tuple #[.int .i64 r1,.bool r2])∧Below w.heap.size w w':=by
 have hu28:=Try.underlying28
 have HR1:=Aside0.mk hr1
 have HC1:=Aside0.mk hc1
 clear hr1 hc1
 have HB:=Aside0.mk (Below.refl w.heap.size w)
 unfold spec_GreatestReach.f at h
 have H:=h
 clear h
 obtain⟨t630,A4,H⟩:=bd H;(try dsimp only at H)
 by_cases c5:t630=true
 rotate_left
 ·replace c5:=Bool.eq_false_iff.mpr c5
  subst c5
  rw[if_neg (show ¬(false=true)by decide)]at H
  simp only[Option.some.injEq,Prod.mk.injEq]at H
  obtain⟨rfl,rfl⟩:=H
  go_enter Try.func40,Try.ntmps40
  go_wp2_with (first|(refine bx 3 #[.int .i64 a0_0,.bool a0_1] 28 ?_;intro gb629 hg w25 hbox hb;have BK629:=ak hbox;have GW629:=gw HB hg;have GE629:=gw HB hg;replace HB:=bs HB hb;clear hb hbox hg;have hcz26_0:=bc BK629 0 rfl;have hcz26_1:=bc BK629 1 rfl;have hfz26_0:=bf BK629 0;have hfz26_1:=bf BK629 1)|(refine gs 11 Try.func77 #[.agg #[.int .i64 a0_0,.bool a0_1],.slice A1 l1.length c1] ?_;(with_reducible refine(spec_l7Carriers.calls k a0_0 a0_1 _ _ l1 false _ ?side1 ?side2 A4.out).mono ?_);(case side1=>exact cm (C_below HR1.out HB.out));(case side2=>exact HC1.out);rintro e w27 ⟨rfl,hb⟩;refine⟨_,rfl,?_⟩;replace BK629:=kb BK629 hb;replace HB:=ak (below_step (h1 HB.out GE629.out) hb);(try clear hb);(try clear hk);(try clear hi)))
  go_ret2
  exact⟨fe,h1 HB.out GE629.out⟩
 subst c5
 rw[if_pos rfl]at H
 obtain⟨t631,A6,H⟩:=bd H;(try dsimp only at H)
 by_cases c7:t631=true
 rotate_left
 ·replace c7:=Bool.eq_false_iff.mpr c7
  subst c7
  rw[if_neg (show ¬(false=true)by decide)]at H
  simp only[Option.some.injEq,Prod.mk.injEq]at H
  obtain⟨rfl,rfl⟩:=H
  go_enter Try.func40,Try.ntmps40
  go_wp2_with (first|(refine bx 3 #[.int .i64 a0_0,.bool a0_1] 28 ?_;intro gb629 hg w20 hbox hb;have BK629:=ak hbox;have GW629:=gw HB hg;have GE629:=gw HB hg;replace HB:=bs HB hb;clear hb hbox hg;have hcz21_0:=bc BK629 0 rfl;have hcz21_1:=bc BK629 1 rfl;have hfz21_0:=bf BK629 0;have hfz21_1:=bf BK629 1)|(refine gs 11 Try.func77 #[.agg #[.int .i64 a0_0,.bool a0_1],.slice A1 l1.length c1] ?_;(with_reducible refine(spec_l7Carriers.calls k a0_0 a0_1 _ _ l1 true _ ?side1 ?side2 A4.out).mono ?_);(case side1=>exact cm (C_below HR1.out HB.out));(case side2=>exact HC1.out);rintro e w22 ⟨rfl,hb⟩;refine⟨_,rfl,?_⟩;replace BK629:=kb BK629 hb;replace HB:=ak (below_step (h1 HB.out GE629.out) hb);(try clear hb);(try clear hk);(try clear hi);have hcz23_0:=bc BK629 0 rfl;have hcz23_1:=bc BK629 1 rfl;have hfz23_0:=bf BK629 0;have hfz23_1:=bf BK629 1)|(go_at_call 78;(with_reducible refine(spec_l2Place.calls a0_0 a0_1 a2 false _ A6.out).mono ?_);rintro e w24 ⟨rfl,hb⟩;replace BK629:=kb BK629 hb;replace HB:=ak (below_step (h1 HB.out GE629.out) hb);(try clear hb);(try clear hk);(try clear hi)))
  go_ret2
  exact⟨fe,h1 HB.out GE629.out⟩
 subst c7
 rw[if_pos rfl]at H
 obtain⟨t632,A8,H⟩:=bd H;(try dsimp only at H)
 generalize hji9: (wrap64 ((t632.length:Int)-1))=ji9 at H
 (try rw[hji9]at A4)
 (try rw[hji9]at A6)
 (try rw[hji9]at A8)
 have hji9w: (IntKind.i64.wrap ((t632.length:Int)-1))=ji9:=(i64_w _).trans hji9
 obtain⟨c10,H⟩:=gi H
 have c10b0:decide (0≤(ji9))=true:=decide_eq_true c10
 clear c10
 obtain⟨c11,H⟩:=gi H
 have c11b0:decide ((ji9)<(t632.length:Int))=true:=decide_eq_true c11
 clear c11
 simp only[Option.some.injEq,Prod.mk.injEq]at H
 obtain⟨rfl,rfl⟩:=H
 go_enter Try.func40,Try.ntmps40
 go_wp2_with (first|(refine bx 3 #[.int .i64 a0_0,.bool a0_1] 28 ?_;intro gb629 hg w12 hbox hb;have BK629:=ak hbox;have GW629:=gw HB hg;have GE629:=gw HB hg;replace HB:=bs HB hb;clear hb hbox hg;have hcz13_0:=bc BK629 0 rfl;have hcz13_1:=bc BK629 1 rfl;have hfz13_0:=bf BK629 0;have hfz13_1:=bf BK629 1)|(refine gs 11 Try.func77 #[.agg #[.int .i64 a0_0,.bool a0_1],.slice A1 l1.length c1] ?_;(with_reducible refine(spec_l7Carriers.calls k a0_0 a0_1 _ _ l1 true _ ?side1 ?side2 A4.out).mono ?_);(case side1=>exact cm (C_below HR1.out HB.out));(case side2=>exact HC1.out);rintro e w14 ⟨rfl,hb⟩;refine⟨_,rfl,?_⟩;replace BK629:=kb BK629 hb;replace HB:=ak (below_step (h1 HB.out GE629.out) hb);(try clear hb);(try clear hk);(try clear hi);have hcz15_0:=bc BK629 0 rfl;have hcz15_1:=bc BK629 1 rfl;have hfz15_0:=bf BK629 0;have hfz15_1:=bf BK629 1)|(go_at_call 78;(with_reducible refine(spec_l2Place.calls a0_0 a0_1 a2 true _ A6.out).mono ?_);rintro e w16 ⟨rfl,hb⟩;replace BK629:=kb BK629 hb;replace HB:=ak (below_step (h1 HB.out GE629.out) hb);(try clear hb);(try clear hk);(try clear hi);have hcz17_0:=bc BK629 0 rfl;have hcz17_1:=bc BK629 1 rfl;have hfz17_0:=bf BK629 0;have hfz17_1:=bf BK629 1)|(refine gs 22 Try.func56 #[.agg #[.int .i64 a0_0,.bool a0_1],.slice A1 l1.length c1,.int .i64 a2] ?_;(with_reducible refine(spec_l7Table.calls k a0_0 a0_1 _ _ l1 a2 t632 _ ?side1 ?side2 A8.out).mono ?_);(case side1=>exact cm (C_below HR1.out HB.out));(case side2=>exact HC1.out);rintro e w18 ⟨v633,rfl,ho0,hb⟩;refine⟨_,rfl,?_⟩;have HO634:=ak (R_lower ho0 (below_size (h1 HB.out GE629.out)));replace BK629:=kb BK629 hb;replace HB:=ak (below_step (h1 HB.out GE629.out) hb);(try clear hb);(try clear hk);(try clear hi);(try clear ho0);obtain⟨Ao19,co19,eo19⟩:=R_slice HO634.out;subst eo19;have p635:0≤((ji9):Int):=od;have q635: (ji9)<(t632.length:Int):=od;obtain⟨ad635,e635,hx635_0⟩:=Kd.at_int (R_reads' HO634.out).2.2 (ji9) p635 q635;cases e635;replace p635:=eq_true p635;replace q635:=eq_true q635))
 go_ret2
 exact⟨by first|rfl|(simp[errW_none,errW_some]<;>rfl)|(simp only[←hji9];first|rfl|(simp[errW_none,errW_some]<;>rfl))|(simp[*,errW_none,errW_some]<;>rfl),h1 HB.out GE629.out⟩
end
end Go.Proofs.Ythagkpoinjpmfaa.QFnReaches
