/- Functions that the law FnReaches comes to, and their walks: no condition but those named. -/
import Derived.Test.YthagkpoinjpmfaaQFnReachesx0
namespace Go.Proofs.Ythagkpoinjpmfaa.QFnReaches
open Go.RowKit Go.Proofs.YthagkpoinjpmfaaW.PrintWords Go.Proofs.YthagkpoinjpmfaaW.PrintLast Go.Proofs.YthagkpoinjpmfaaW.PrintMore Go.Proofs.Ythagkpoinjpmfaa.Short
attribute [local go_sem] max2_int min2_int max_two min_two max_three min_three max_four min_four
set_option linter.unusedVariables false
set_option linter.unusedSimpArgs false
section
open Kd
def spec_l1In.f (a0:Int) (a1:Int) (a2:Int):Option (Bool):=if a0≥a1 then(some (decide (a0≤a2)))else(some false)
set_option maxHeartbeats 8000000 in
set_option maxRecDepth 100000 in
theorem spec_l1In.calls (a0:Int) (a1:Int) (a2:Int) (r:Bool) (w:World) (h:spec_l1In.f a0 a1 a2=some r):
  Calls Try.prog 100 #[.int .i64 a0,.int .i64 a1,.int .i64 a2] w fun e w'=>e= .returned (.bool r)∧Drawn0 w w':=by
 unfold spec_l1In.f at h
 have H:=h
 clear h
 by_cases c4:a0≥a1
 ·rw[if_pos c4]at H
  have c4b0:decide (a1≤a0)=true:=decide_eq_true c4
  clear c4
  obtain rfl:=Option.some.inj H
  go_enter Try.func100,Try.ntmps100
  go_wp2
  go_ret
  exact⟨by first|rfl|(simp;done)|(simp[*];done),by repeat(first|exact Drawn0.refl _|apply Drawn0.step)⟩
 rw[if_neg c4]at H
 have c4b0:decide (a1≤a0)=false:=decide_eq_false c4
 clear c4
 obtain rfl:=Option.some.inj H
 go_enter Try.func100,Try.ntmps100
 go_wp2
 go_ret
 exact⟨by first|rfl|(simp;done)|(simp[*];done),by repeat(first|exact Drawn0.refl _|apply Drawn0.step)⟩
def spec_l2Road.f (a0_0:Int) (a0_1:Bool):Option (Bool):=(spec_l1In.f a0_0 2 24).bind fun t102=>(if t102=true then(if a0_1=true then(some (decide (a0_0>2)))else(some true))else(some false))
set_option maxHeartbeats 8000000 in
set_option maxRecDepth 100000 in
theorem spec_l2Road.calls (a0_0:Int) (a0_1:Bool) (r:Bool) (w:World) (h:spec_l2Road.f a0_0 a0_1=some r):
  Calls Try.prog 99 #[.agg #[.int .i64 a0_0,.bool a0_1]] w fun e w'=>e= .returned (.bool r)∧Below w.heap.size w w':=by
 have hu28:=Try.underlying28
 have HB:=Aside0.mk (Below.refl w.heap.size w)
 unfold spec_l2Road.f at h
 have H:=h
 clear h
 obtain⟨t102,A2,H⟩:=bd H;(try dsimp only at H)
 by_cases c3:t102=true
 rotate_left
 ·replace c3:=Bool.eq_false_iff.mpr c3
  subst c3
  rw[if_neg (show ¬(false=true)by decide)]at H
  obtain rfl:=Option.some.inj H
  go_enter Try.func99,Try.ntmps99
  go_wp2_with (first|(refine bx 1 #[.int .i64 a0_0,.bool a0_1] 28 ?_;intro gb101 hg w9 hbox hb;have BK101:=ak hbox;have GW101:=gw HB hg;have GE101:=gw HB hg;replace HB:=bs HB hb;clear hb hbox hg;have hcz10_0:=bc BK101 0 rfl;have hcz10_1:=bc BK101 1 rfl;have hfz10_0:=bf BK101 0;have hfz10_1:=bf BK101 1)|(refine gs 5 Try.func100 #[.int .i64 a0_0,.int .i64 2,.int .i64 24] ?_;(with_reducible refine(spec_l1In.calls a0_0 2 24 false _ A2.out).mono ?_);rintro e w' ⟨rfl,⟨nd,rfl⟩⟩;refine⟨_,rfl,?_⟩))
  go_ret
  exact⟨fe,h1 HB.out GE101.out⟩
 subst c3
 rw[if_pos rfl]at H
 by_cases c4:a0_1=true
 ·subst c4
  rw[if_pos rfl]at H
  obtain rfl:=Option.some.inj H
  go_enter Try.func99,Try.ntmps99
  go_wp2_with (first|(refine bx 1 #[.int .i64 a0_0,.bool true] 28 ?_;intro gb101 hg w5 hbox hb;have BK101:=ak hbox;have GW101:=gw HB hg;have GE101:=gw HB hg;replace HB:=bs HB hb;clear hb hbox hg;have hcz6_0:=bc BK101 0 rfl;have hcz6_1:=bc BK101 1 rfl;have hfz6_0:=bf BK101 0;have hfz6_1:=bf BK101 1)|(refine gs 5 Try.func100 #[.int .i64 a0_0,.int .i64 2,.int .i64 24] ?_;(with_reducible refine(spec_l1In.calls a0_0 2 24 true _ A2.out).mono ?_);rintro e w' ⟨rfl,⟨nd,rfl⟩⟩;refine⟨_,rfl,?_⟩))
  go_ret
  exact⟨fe,h1 HB.out GE101.out⟩
 replace c4:=Bool.eq_false_iff.mpr c4
 subst c4
 rw[if_neg (show ¬(false=true)by decide)]at H
 obtain rfl:=Option.some.inj H
 go_enter Try.func99,Try.ntmps99
 go_wp2_with (first|(refine bx 1 #[.int .i64 a0_0,.bool false] 28 ?_;intro gb101 hg w7 hbox hb;have BK101:=ak hbox;have GW101:=gw HB hg;have GE101:=gw HB hg;replace HB:=bs HB hb;clear hb hbox hg;have hcz8_0:=bc BK101 0 rfl;have hcz8_1:=bc BK101 1 rfl;have hfz8_0:=bf BK101 0;have hfz8_1:=bf BK101 1)|(refine gs 5 Try.func100 #[.int .i64 a0_0,.int .i64 2,.int .i64 24] ?_;(with_reducible refine(spec_l1In.calls a0_0 2 24 true _ A2.out).mono ?_);rintro e w' ⟨rfl,⟨nd,rfl⟩⟩;refine⟨_,rfl,?_⟩))
 go_ret
 exact⟨fe,h1 HB.out GE101.out⟩
def spec_l3Line.f (a0_0:Int) (a0_1:Bool) (a1:Int):Option (Bool):=(spec_l2Road.f a0_0 a0_1).bind fun t104=>(if t104=true then(if a0_1=true then(some false)else((spec_l1In.f a1 0 (wrap64 (a0_0-1))).bind fun t105=>(some t105)))else(some false))
set_option maxHeartbeats 8000000 in
set_option maxRecDepth 100000 in
theorem spec_l3Line.calls (a0_0:Int) (a0_1:Bool) (a1:Int) (r:Bool) (w:World) (h:spec_l3Line.f a0_0 a0_1 a1=some r):
  Calls Try.prog 113 #[.agg #[.int .i64 a0_0,.bool a0_1],.int .i64 a1] w fun e w'=>e= .returned (.bool r)∧Below w.heap.size w w':=by
 have hu28:=Try.underlying28
 have HB:=Aside0.mk (Below.refl w.heap.size w)
 unfold spec_l3Line.f at h
 have H:=h
 clear h
 obtain⟨t104,A3,H⟩:=bd H;(try dsimp only at H)
 by_cases c4:t104=true
 rotate_left
 ·replace c4:=Bool.eq_false_iff.mpr c4
  subst c4
  rw[if_neg (show ¬(false=true)by decide)]at H
  obtain rfl:=Option.some.inj H
  go_enter Try.func113,Try.ntmps113
  go_wp2_with (first|(refine bx 2 #[.int .i64 a0_0,.bool a0_1] 28 ?_;intro gb103 hg w15 hbox hb;have BK103:=ak hbox;have GW103:=gw HB hg;have GE103:=gw HB hg;replace HB:=bs HB hb;clear hb hbox hg;have hcz16_0:=bc BK103 0 rfl;have hcz16_1:=bc BK103 1 rfl;have hfz16_0:=bf BK103 0;have hfz16_1:=bf BK103 1)|(refine gs 6 Try.func99 #[.agg #[.int .i64 a0_0,.bool a0_1]] ?_;(with_reducible refine(spec_l2Road.calls a0_0 a0_1 false _ A3.out).mono ?_);rintro e w17 ⟨rfl,hb⟩;refine⟨_,rfl,?_⟩;replace BK103:=kb BK103 hb;replace HB:=ak (below_step (h1 HB.out GE103.out) hb);(try clear hb);(try clear hk);(try clear hi)))
  go_ret
  exact⟨fe,h1 HB.out GE103.out⟩
 subst c4
 rw[if_pos rfl]at H
 by_cases c5:a0_1=true
 ·subst c5
  rw[if_pos rfl]at H
  obtain rfl:=Option.some.inj H
  go_enter Try.func113,Try.ntmps113
  go_wp2_with (first|(refine bx 2 #[.int .i64 a0_0,.bool true] 28 ?_;intro gb103 hg w6 hbox hb;have BK103:=ak hbox;have GW103:=gw HB hg;have GE103:=gw HB hg;replace HB:=bs HB hb;clear hb hbox hg;have hcz7_0:=bc BK103 0 rfl;have hcz7_1:=bc BK103 1 rfl;have hfz7_0:=bf BK103 0;have hfz7_1:=bf BK103 1)|(refine gs 6 Try.func99 #[.agg #[.int .i64 a0_0,.bool true]] ?_;(with_reducible refine(spec_l2Road.calls a0_0 true true _ A3.out).mono ?_);rintro e w8 ⟨rfl,hb⟩;refine⟨_,rfl,?_⟩;replace BK103:=kb BK103 hb;replace HB:=ak (below_step (h1 HB.out GE103.out) hb);(try clear hb);(try clear hk);(try clear hi);have hcz9_0:=bc BK103 0 rfl;have hcz9_1:=bc BK103 1 rfl;have hfz9_0:=bf BK103 0;have hfz9_1:=bf BK103 1))
  go_ret
  exact⟨fe,h1 HB.out GE103.out⟩
 replace c5:=Bool.eq_false_iff.mpr c5
 subst c5
 rw[if_neg (show ¬(false=true)by decide)]at H
 obtain⟨t105,A10,H⟩:=bd H;(try dsimp only at H)
 obtain rfl:=Option.some.inj H
 go_enter Try.func113,Try.ntmps113
 go_wp2_with (first|(refine bx 2 #[.int .i64 a0_0,.bool false] 28 ?_;intro gb103 hg w11 hbox hb;have BK103:=ak hbox;have GW103:=gw HB hg;have GE103:=gw HB hg;replace HB:=bs HB hb;clear hb hbox hg;have hcz12_0:=bc BK103 0 rfl;have hcz12_1:=bc BK103 1 rfl;have hfz12_0:=bf BK103 0;have hfz12_1:=bf BK103 1)|(refine gs 6 Try.func99 #[.agg #[.int .i64 a0_0,.bool false]] ?_;(with_reducible refine(spec_l2Road.calls a0_0 false true _ A3.out).mono ?_);rintro e w13 ⟨rfl,hb⟩;refine⟨_,rfl,?_⟩;replace BK103:=kb BK103 hb;replace HB:=ak (below_step (h1 HB.out GE103.out) hb);(try clear hb);(try clear hk);(try clear hi);have hcz14_0:=bc BK103 0 rfl;have hcz14_1:=bc BK103 1 rfl;have hfz14_0:=bf BK103 0;have hfz14_1:=bf BK103 1)|(go_at_call 100;(try simp only[Go.IntWalk.i64_left]);(with_reducible refine(spec_l1In.calls a1 0 (wrap64 (a0_0-1)) t105 _ A10.out).mono ?_);rintro e w' ⟨rfl,⟨nd,rfl⟩⟩))
 go_ret
 exact⟨fe,h1 HB.out GE103.out⟩
def spec_l7Carrier.f (a0_0:Int) (a0_1:Bool) (a1_0:Int) (a1_1:Int) (a1_2:Int):Option (Bool):=(spec_l3Line.f a0_0 a0_1 a1_0).bind fun t108=>(if t108=true then((spec_l1In.f a1_1 0 48).bind fun t109=>(if t109=true then((spec_l1In.f a1_2 0 20).bind fun t110=>(some t110))else(some false)))else(some false))
set_option maxHeartbeats 8000000 in
set_option maxRecDepth 100000 in
theorem spec_l7Carrier.calls (a0_0:Int) (a0_1:Bool) (a1_0:Int) (a1_1:Int) (a1_2:Int) (r:Bool) (w:World) (h:spec_l7Carrier.f a0_0 a0_1 a1_0 a1_1 a1_2=some r):
  Calls Try.prog 97 #[.agg #[.int .i64 a0_0,.bool a0_1],.agg #[.int .i64 a1_0,.int .i64 a1_1,.int .i64 a1_2]] w fun e w'=>e= .returned (.bool r)∧Below w.heap.size w w':=by
 have hu28:=Try.underlying28
 have hu63:=Try.underlying63
 have HB:=Aside0.mk (Below.refl w.heap.size w)
 unfold spec_l7Carrier.f at h
 have H:=h
 clear h
 obtain⟨t108,A3,H⟩:=bd H;(try dsimp only at H)
 by_cases c4:t108=true
 rotate_left
 ·replace c4:=Bool.eq_false_iff.mpr c4
  subst c4
  rw[if_neg (show ¬(false=true)by decide)]at H
  obtain rfl:=Option.some.inj H
  go_enter Try.func97,Try.ntmps97
  go_wp2_with (first|(refine bx 2 #[.int .i64 a0_0,.bool a0_1] 28 ?_;intro gb106 hg w22 hbox hb;have BK106:=ak hbox;have GW106:=gw HB hg;have GE106:=gw HB hg;replace HB:=bs HB hb;clear hb hbox hg)|(refine bx 3 #[.int .i64 a1_0,.int .i64 a1_1,.int .i64 a1_2] 63 ?_;intro gb107 hg w23 hbox hb;have BK107:=ak hbox;have GW107:=ak ((by rw[hg];exact(below_size (h1 HB.out GE106.out)):w.heap.size≤gb107));have GE107:=ak ((by rw[hg];exact(below_size (h1 HB.out GE106.out)):w.heap.size≤gb107));replace HB:=ak (below_step (h1 HB.out GE106.out) hb);have NB106_107:=nl BK106 hg;have NB107_106:=ng BK106 hg;replace BK106:=kb BK106 hb;clear hb hbox hg;have hnb24:=NB106_107.out;have hnc24:=NB107_106.out;have hcz25_0:=bc BK106 0 rfl;have hcz25_1:=bc BK106 1 rfl;have hfz25_0:=bf BK106 0;have hfz25_1:=bf BK106 1;have hcz26_0:=bc BK107 0 rfl;have hcz26_1:=bc BK107 1 rfl;have hcz26_2:=bc BK107 2 rfl;have hfz26_0:=bf BK107 0;have hfz26_1:=bf BK107 1;have hfz26_2:=bf BK107 2)|(refine gs 8 Try.func113 #[.agg #[.int .i64 a0_0,.bool a0_1],.int .i64 a1_0] ?_;(with_reducible refine(spec_l3Line.calls a0_0 a0_1 a1_0 false _ A3.out).mono ?_);rintro e w27 ⟨rfl,hb⟩;refine⟨_,rfl,?_⟩;replace BK106:=kb BK106 hb;replace BK107:=kb BK107 hb;replace HB:=ak (below_step (h2 HB.out GE106.out GE107.out) hb);(try clear hb);(try clear hk);(try clear hi)))
  go_ret
  exact⟨fe,h2 HB.out GE106.out GE107.out⟩
 subst c4
 rw[if_pos rfl]at H
 obtain⟨t109,A5,H⟩:=bd H;(try dsimp only at H)
 by_cases c6:t109=true
 rotate_left
 ·replace c6:=Bool.eq_false_iff.mpr c6
  subst c6
  rw[if_neg (show ¬(false=true)by decide)]at H
  obtain rfl:=Option.some.inj H
  go_enter Try.func97,Try.ntmps97
  go_wp2_with (first|(refine bx 2 #[.int .i64 a0_0,.bool a0_1] 28 ?_;intro gb106 hg w15 hbox hb;have BK106:=ak hbox;have GW106:=gw HB hg;have GE106:=gw HB hg;replace HB:=bs HB hb;clear hb hbox hg)|(refine bx 3 #[.int .i64 a1_0,.int .i64 a1_1,.int .i64 a1_2] 63 ?_;intro gb107 hg w16 hbox hb;have BK107:=ak hbox;have GW107:=ak ((by rw[hg];exact(below_size (h1 HB.out GE106.out)):w.heap.size≤gb107));have GE107:=ak ((by rw[hg];exact(below_size (h1 HB.out GE106.out)):w.heap.size≤gb107));replace HB:=ak (below_step (h1 HB.out GE106.out) hb);have NB106_107:=nl BK106 hg;have NB107_106:=ng BK106 hg;replace BK106:=kb BK106 hb;clear hb hbox hg;have hnb17:=NB106_107.out;have hnc17:=NB107_106.out;have hcz18_0:=bc BK106 0 rfl;have hcz18_1:=bc BK106 1 rfl;have hfz18_0:=bf BK106 0;have hfz18_1:=bf BK106 1;have hcz19_0:=bc BK107 0 rfl;have hcz19_1:=bc BK107 1 rfl;have hcz19_2:=bc BK107 2 rfl;have hfz19_0:=bf BK107 0;have hfz19_1:=bf BK107 1;have hfz19_2:=bf BK107 2)|(refine gs 8 Try.func113 #[.agg #[.int .i64 a0_0,.bool a0_1],.int .i64 a1_0] ?_;(with_reducible refine(spec_l3Line.calls a0_0 a0_1 a1_0 true _ A3.out).mono ?_);rintro e w20 ⟨rfl,hb⟩;refine⟨_,rfl,?_⟩;replace BK106:=kb BK106 hb;replace BK107:=kb BK107 hb;replace HB:=ak (below_step (h2 HB.out GE106.out GE107.out) hb);(try clear hb);(try clear hk);(try clear hi);have hcz21_0:=bc BK107 0 rfl;have hcz21_1:=bc BK107 1 rfl;have hcz21_2:=bc BK107 2 rfl;have hfz21_0:=bf BK107 0;have hfz21_1:=bf BK107 1;have hfz21_2:=bf BK107 2)|(go_at_call 100;(with_reducible refine(spec_l1In.calls a1_1 0 48 false _ A5.out).mono ?_);rintro e w' ⟨rfl,⟨nd,rfl⟩⟩))
  go_ret
  exact⟨fe,h2 HB.out GE106.out GE107.out⟩
 subst c6
 rw[if_pos rfl]at H
 obtain⟨t110,A7,H⟩:=bd H;(try dsimp only at H)
 obtain rfl:=Option.some.inj H
 go_enter Try.func97,Try.ntmps97
 go_wp2_with (first|(refine bx 2 #[.int .i64 a0_0,.bool a0_1] 28 ?_;intro gb106 hg w8 hbox hb;have BK106:=ak hbox;have GW106:=gw HB hg;have GE106:=gw HB hg;replace HB:=bs HB hb;clear hb hbox hg)|(refine bx 3 #[.int .i64 a1_0,.int .i64 a1_1,.int .i64 a1_2] 63 ?_;intro gb107 hg w9 hbox hb;have BK107:=ak hbox;have GW107:=ak ((by rw[hg];exact(below_size (h1 HB.out GE106.out)):w.heap.size≤gb107));have GE107:=ak ((by rw[hg];exact(below_size (h1 HB.out GE106.out)):w.heap.size≤gb107));replace HB:=ak (below_step (h1 HB.out GE106.out) hb);have NB106_107:=nl BK106 hg;have NB107_106:=ng BK106 hg;replace BK106:=kb BK106 hb;clear hb hbox hg;have hnb10:=NB106_107.out;have hnc10:=NB107_106.out;have hcz11_0:=bc BK106 0 rfl;have hcz11_1:=bc BK106 1 rfl;have hfz11_0:=bf BK106 0;have hfz11_1:=bf BK106 1;have hcz12_0:=bc BK107 0 rfl;have hcz12_1:=bc BK107 1 rfl;have hcz12_2:=bc BK107 2 rfl;have hfz12_0:=bf BK107 0;have hfz12_1:=bf BK107 1;have hfz12_2:=bf BK107 2)|(refine gs 8 Try.func113 #[.agg #[.int .i64 a0_0,.bool a0_1],.int .i64 a1_0] ?_;(with_reducible refine(spec_l3Line.calls a0_0 a0_1 a1_0 true _ A3.out).mono ?_);rintro e w13 ⟨rfl,hb⟩;refine⟨_,rfl,?_⟩;replace BK106:=kb BK106 hb;replace BK107:=kb BK107 hb;replace HB:=ak (below_step (h2 HB.out GE106.out GE107.out) hb);(try clear hb);(try clear hk);(try clear hi);have hcz14_0:=bc BK107 0 rfl;have hcz14_1:=bc BK107 1 rfl;have hcz14_2:=bc BK107 2 rfl;have hfz14_0:=bf BK107 0;have hfz14_1:=bf BK107 1;have hfz14_2:=bf BK107 2)|(go_at_call 100;(with_reducible refine(spec_l1In.calls a1_1 0 48 true _ A5.out).mono ?_);rintro e w' ⟨rfl,⟨nd,rfl⟩⟩)|(go_at_call 100;(with_reducible refine(spec_l1In.calls a1_2 0 20 t110 _ A7.out).mono ?_);rintro e w' ⟨rfl,⟨nd,rfl⟩⟩))
 go_ret
 exact⟨fe,h2 HB.out GE106.out GE107.out⟩
def spec_l7Carriers.l0:Nat→List (S63)→Int→Int→Bool→Option (Bool)
 | 0,_,_,_,_=>none
 | k+1,x1,x5,x112000,x112001=>if x5<(x1.length:Int)then(if 0≤x5 then((spec_l7Carrier.f x112000 x112001 ((rd_T63 x1 x5).f0) ((rd_T63 x1 x5).f1) ((rd_T63 x1 x5).f2)).bind fun t113=>(if t113=true then(spec_l7Carriers.l0 k x1 (wrap64 (x5+1)) x112000 x112001)else(some false)))else(none))else((spec_l2Road.f x112000 x112001).bind fun t114=>(if t114=true then(if x112001=true then(some false)else(some (decide ((x1.length:Int)≤6))))else(some false)))
def spec_l7Carriers.f (k:Nat) (a0_0:Int) (a0_1:Bool) (l1:List (S63)):Option (Bool):=spec_l7Carriers.l0 k l1 0 a0_0 a0_1
theorem spec_l7Carriers.mono_l:∀ k,(∀ y0 y1 y2 y3,LeO (spec_l7Carriers.l0 k y0 y1 y2 y3) (spec_l7Carriers.l0 (k+1) y0 y1 y2 y3))
 | 0=>by
  refine ?_<;>(intros;intro r h;simp[spec_l7Carriers.l0]at h)
 | k+1=>by
  have ih0:=spec_l7Carriers.mono_l k
  refine ?_<;>intros<;>unfold spec_l7Carriers.l0<;>(repeat' (with_reducible first|exact ih0 ..|exact LeO.refl _|exact LeO.none _|refine LeO.ite ?_ ?_|refine LeO.bind ?_ (fun _=>?_)))
theorem spec_l7Carriers.mono:∀ a0 a1 a2 k,LeO (spec_l7Carriers.f k a0 a1 a2) (spec_l7Carriers.f (k+1) a0 a1 a2):=by
 intro a0 a1 a2 k
 have ih0:=spec_l7Carriers.mono_l k
 unfold spec_l7Carriers.f
 repeat' (with_reducible first|exact ih0 ..|exact LeO.refl _|exact LeO.none _|refine LeO.ite ?_ ?_|refine LeO.bind ?_ (fun _=>?_))
set_option maxHeartbeats 8000000 in
set_option maxRecDepth 100000 in
theorem spec_l7Carriers.calls (k:Nat) (a0_0:Int) (a0_1:Bool) (A1:Option Addr) (c1:Nat) (l1:List (S63)) (r:Bool) (w:World) (hr1:Kd.C k63 w A1 l1.length l1) (hc1:l1.length≤c1) (h:spec_l7Carriers.f k a0_0 a0_1 l1=some r):
  Calls Try.prog 77 #[.agg #[.int .i64 a0_0,.bool a0_1],.slice A1 l1.length c1] w fun e w'=>e= .returned (.bool r)∧Below w.heap.size w w':=by
 have hu28:=Try.underlying28
 have hu63:=Try.underlying63
 have HR1:=Aside0.mk hr1
 have HC1:=Aside0.mk hc1
 clear hr1 hc1
 have HB:=Aside0.mk (Below.refl w.heap.size w)
 unfold spec_l7Carriers.f at h
 have H:=h
 clear h
 have H':=Aside0.mk H
 clear H
 go_enter Try.func77,Try.ntmps77
 go_wp2_with (first|((with_reducible refine gate_dst (N:=2) rfl ?_);(try(refine gate_guard (by rfl) ?_;dsimp only));refine box_event ?hg (N:=2) ?hd (cs:=#[.int .i64 a0_0,.bool a0_1]) (t:=28) ?hr ?_;(case hd=>rfl);(case hg=>rfl);(case hr=>first|(go_simp;done)|(go_simp;rfl));intro gb111 hg w3 hbox hb;have BK111:=ak hbox;have GW111:=gw HB hg;have GE111:=gw HB hg;replace HB:=bs HB hb;clear hb hbox hg))
 go_loopg [5] k (fun kq v5 w'=>∃ (x5_1:Int),v5= .int .i64 x5_1∧Aside0 (spec_l7Carriers.l0 kq l1 x5_1 a0_0 a0_1=some r)∧Aside0 (kq≤k)∧Aside0 (w'.heap[gb111]? =some (.cells #[.int .i64 a0_0,.bool a0_1] 28 (0,0)))∧Aside0 (Below w.heap.size w w'))
 case atStart=>exact⟨(0),fd,H',⟨Nat.le_refl _⟩,⟨bm BK111.out⟩,⟨h1 HB.out GE111.out⟩⟩
 clear H'
 try clear c1
 try clear p2
 obtain⟨x5_1,rfl,HA,HK1,BK111,HB⟩:=hrel
 obtain _|k1:=gk;·cases HA.out
 obtain⟨H⟩:=HA
 simp only[spec_l7Carriers.l0]at H
 by_cases c4:x5_1<(l1.length:Int)
 rotate_left
 ·rw[if_neg c4]at H
  have c4b0:decide (x5_1<(l1.length:Int))=false:=decide_eq_false c4
  clear c4
  obtain⟨t114,A12,H⟩:=bd H;(try dsimp only at H)
  by_cases c13:t114=true
  rotate_left
  ·replace c13:=Bool.eq_false_iff.mpr c13
   subst c13
   rw[if_neg (show ¬(false=true)by decide)]at H
   obtain rfl:=Option.some.inj H
   have hcz21_0:=bc BK111 0 rfl
   have hcz21_1:=bc BK111 1 rfl
   have hfz21_0:=bf BK111 0
   have hfz21_1:=bf BK111 1
   go_wp2_with (first|(refine gs 20 Try.func99 #[.agg #[.int .i64 a0_0,.bool a0_1]] ?_;(with_reducible refine(spec_l2Road.calls a0_0 a0_1 false _ A12.out).mono ?_);rintro e w22 ⟨rfl,hb⟩;refine⟨_,rfl,?_⟩;replace BK111:=kb BK111 hb;replace HB:=ak (below_step (h1 HB.out GE111.out) hb);(try clear hb);(try clear hk);(try clear hi)))
   go_ret
   exact⟨fe,h1 HB.out GE111.out⟩
  subst c13
  rw[if_pos rfl]at H
  by_cases c14:a0_1=true
  ·subst c14
   rw[if_pos rfl]at H
   obtain rfl:=Option.some.inj H
   have hcz15_0:=bc BK111 0 rfl
   have hcz15_1:=bc BK111 1 rfl
   have hfz15_0:=bf BK111 0
   have hfz15_1:=bf BK111 1
   go_wp2_with (first|(refine gs 20 Try.func99 #[.agg #[.int .i64 a0_0,.bool true]] ?_;(with_reducible refine(spec_l2Road.calls a0_0 true true _ A12.out).mono ?_);rintro e w16 ⟨rfl,hb⟩;refine⟨_,rfl,?_⟩;replace BK111:=kb BK111 hb;replace HB:=ak (below_step (h1 HB.out GE111.out) hb);(try clear hb);(try clear hk);(try clear hi);have hcz17_0:=bc BK111 0 rfl;have hcz17_1:=bc BK111 1 rfl;have hfz17_0:=bf BK111 0;have hfz17_1:=bf BK111 1))
   go_ret
   exact⟨fe,h1 HB.out GE111.out⟩
  replace c14:=Bool.eq_false_iff.mpr c14
  subst c14
  rw[if_neg (show ¬(false=true)by decide)]at H
  obtain rfl:=Option.some.inj H
  have hcz18_0:=bc BK111 0 rfl
  have hcz18_1:=bc BK111 1 rfl
  have hfz18_0:=bf BK111 0
  have hfz18_1:=bf BK111 1
  go_wp2_with (first|(refine gs 20 Try.func99 #[.agg #[.int .i64 a0_0,.bool false]] ?_;(with_reducible refine(spec_l2Road.calls a0_0 false true _ A12.out).mono ?_);rintro e w19 ⟨rfl,hb⟩;refine⟨_,rfl,?_⟩;replace BK111:=kb BK111 hb;replace HB:=ak (below_step (h1 HB.out GE111.out) hb);(try clear hb);(try clear hk);(try clear hi);have hcz20_0:=bc BK111 0 rfl;have hcz20_1:=bc BK111 1 rfl;have hfz20_0:=bf BK111 0;have hfz20_1:=bf BK111 1))
  go_ret
  exact⟨fe,h1 HB.out GE111.out⟩
 rw[if_pos c4]at H
 have c4b0:decide (x5_1<(l1.length:Int))=true:=decide_eq_true c4
 clear c4
 obtain⟨c5,H⟩:=gi H
 have c5b0:decide (0≤x5_1)=true:=decide_eq_true c5
 clear c5
 obtain⟨t113,A6,H⟩:=bd H;(try dsimp only at H)
 by_cases c7:t113=true
 rotate_left
 ·replace c7:=Bool.eq_false_iff.mpr c7
  subst c7
  rw[if_neg (show ¬(false=true)by decide)]at H
  obtain rfl:=Option.some.inj H
  try go_wp2
  replace BK111:=ak (blk_drew BK111.out)
  replace HB:=ak (below_drew1 HB.out)
  have p112:0≤(x5_1:Int):=od
  have q112:x5_1<(l1.length:Int):=od
  obtain⟨ad112,e112,hx112_0,hx112_1,hx112_2⟩:=at_T63 HR1.out x5_1 p112 q112
  have hw112_2:=hx112_2
  have hw112_1:=hx112_1
  have hw112_0:=hx112_0
  cases e112
  replace hx112_0:=hc HB hx112_0
  replace hx112_1:=hc HB hx112_1
  replace hx112_2:=hc HB hx112_2
  replace p112:=eq_true p112
  replace q112:=eq_true q112
  refine start_ (n:=7) (S:=fun w'=>w'.cell? ⟨gb111,0,none⟩=some (.int .i64 a0_0)∧w'.cell? ⟨gb111,1,none⟩=some (.bool a0_1)∧w'.cell? (ad112.add ((x5_1).toNat*3))=some (.int .i64 ((rd_T63 l1 x5_1).f0))∧w'.cell? ⟨(ad112.add ((x5_1).toNat*3)).block,(ad112.add ((x5_1).toNat*3)).off+1,none⟩=some (.int .i64 ((rd_T63 l1 x5_1).f1))∧w'.cell? ⟨(ad112.add ((x5_1).toNat*3)).block,(ad112.add ((x5_1).toNat*3)).off+2,none⟩=some (.int .i64 ((rd_T63 l1 x5_1).f2))) (ds:=[]) (lb 7 0) (by kernel_rfl) rfl rfl ⟨bc BK111 0 rfl,bc BK111 1 rfl,((HB.out.cell (World.block_lt_of_cell? w _ hw112_0)).trans hw112_0),((HB.out.cell (World.block_lt_of_cell? w _ hw112_1)).trans hw112_1),((HB.out.cell (World.block_lt_of_cell? w _ hw112_2)).trans hw112_2)⟩ (fun hHeld=>?_)
  generalize wr.drew=w10 at BK111 HB hx112_0 hx112_1 hx112_2 hHeld⊢
  refine pure_ (i:=1) (N:=some 13) (v:=?_) (a':=?_) (lb 7 2) rfl rfl (by kernel_rfl) (fun _ _ _ h=>h) (Or.inl ⟨by rfl,?_⟩) ?_ ?_
  rotate_left
  ·intro w'
   go_simp
   with_reducible rfl
  rotate_left
  ·simp only[ap]
   rfl
  refine pure_ (i:=2) (N:=some 14) (v:=?_) (a':=?_) (lb 7 6) rfl rfl (by kernel_rfl) (fun _ _ _ h=>h) (Or.inl ⟨by rfl,?_⟩) ?_ ?_
  rotate_left
  ·intro w'
   go_simp
   with_reducible rfl
  rotate_left
  ·simp only[ap]
   rfl
  refine pure_ (i:=3) (N:=some 15) (v:=?_) (a':=?_) (lb 7 14) rfl rfl (by kernel_rfl) (fun _ _ _ h=>h) (Or.inl ⟨by rfl,?_⟩) ?_ ?_
  rotate_left
  ·intro w'
   go_simp
   with_reducible rfl
  rotate_left
  ·simp only[ap]
   rfl
  refine take_ (i:=0) (N:=some 12) (v:=?_) (a':=?_) (lb 7 15) rfl rfl (by kernel_rfl) (fun _ _ _ h=>h) (Or.inl ⟨by rfl,?_⟩) hHeld ?_ ?_
  rotate_left
  ·rintro w' ⟨s0,s1,s2,s3,s4⟩
   go_simp
   with_reducible rfl
  rotate_left
  ·simp only[ap]
   rfl
  refine take_ (i:=4) (N:=some 16) (v:=?_) (a':=?_) (lb 7 31) rfl rfl (by kernel_rfl) (fun _ _ _ h=>h) (Or.inl ⟨by rfl,?_⟩) hHeld ?_ ?_
  rotate_left
  ·rintro w' ⟨s0,s1,s2,s3,s4⟩
   go_simp
   with_reducible rfl
  rotate_left
  ·simp only[ap]
   rfl
  refine one_ (i:=5) (N:=some 17) (lb 7 63) rfl rfl (by kernel_rfl) (by decide) (fun K hK=>?_)
  refine goes_ Try.func97 (by kernel_rfl) rfl #[.agg #[.int .i64 a0_0,.bool a0_1],.agg #[.int .i64 ((rd_T63 l1 x5_1).f0),.int .i64 ((rd_T63 l1 x5_1).f1),.int .i64 ((rd_T63 l1 x5_1).f2)]] (by rfl) rfl rfl gl ?_
  with_reducible refine(spec_l7Carrier.calls a0_0 a0_1 ((rd_T63 l1 x5_1).f0) ((rd_T63 l1 x5_1).f1) ((rd_T63 l1 x5_1).f2) false _ A6.out).mono ?_
  rintro e w11 ⟨rfl,hb⟩
  refine⟨_,rfl,?_⟩
  replace BK111:=kb BK111 hb
  replace HB:=ak (below_step (h1 HB.out GE111.out) hb)
  (try clear hb)
  (try clear hb2)
  (try clear hk)
  (try clear hi)
  refine hK.out _ _ ⟨bc BK111 0 rfl,bc BK111 1 rfl,((HB.out.cell (World.block_lt_of_cell? w _ hw112_0)).trans hw112_0),((HB.out.cell (World.block_lt_of_cell? w _ hw112_1)).trans hw112_1),((HB.out.cell (World.block_lt_of_cell? w _ hw112_2)).trans hw112_2)⟩ (fun hHeld=>?_)
  clear hK K
  refine norm_ (a':=?_) ?_ ?_
  rotate_left
  ·show Act.put _ (some 17) _=_
   simp only[ap]
   rfl
  refine pure_ (i:=6) (N:=some 18) (v:=?_) (a':=?_) (lb 7 127) rfl rfl (by kernel_rfl) (fun _ _ _ h=>h) (Or.inl ⟨by rfl,?_⟩) ?_ ?_
  rotate_left
  ·intro w'
   go_simp
   with_reducible rfl
  rotate_left
  ·simp only[ap]
   rfl
  refine done_ (by kernel_rfl) ?_
  try go_wp2
  go_ret
  exact⟨fe,h1 HB.out GE111.out⟩
 subst c7
 rw[if_pos rfl]at H
 have H':=Aside0.mk H
 clear H
 try go_wp2
 replace BK111:=ak (blk_drew BK111.out)
 replace HB:=ak (below_drew1 HB.out)
 have p112:0≤(x5_1:Int):=od
 have q112:x5_1<(l1.length:Int):=od
 obtain⟨ad112,e112,hx112_0,hx112_1,hx112_2⟩:=at_T63 HR1.out x5_1 p112 q112
 have hw112_2:=hx112_2
 have hw112_1:=hx112_1
 have hw112_0:=hx112_0
 cases e112
 replace hx112_0:=hc HB hx112_0
 replace hx112_1:=hc HB hx112_1
 replace hx112_2:=hc HB hx112_2
 replace p112:=eq_true p112
 replace q112:=eq_true q112
 refine start_ (n:=7) (S:=fun w'=>w'.cell? ⟨gb111,0,none⟩=some (.int .i64 a0_0)∧w'.cell? ⟨gb111,1,none⟩=some (.bool a0_1)∧w'.cell? (ad112.add ((x5_1).toNat*3))=some (.int .i64 ((rd_T63 l1 x5_1).f0))∧w'.cell? ⟨(ad112.add ((x5_1).toNat*3)).block,(ad112.add ((x5_1).toNat*3)).off+1,none⟩=some (.int .i64 ((rd_T63 l1 x5_1).f1))∧w'.cell? ⟨(ad112.add ((x5_1).toNat*3)).block,(ad112.add ((x5_1).toNat*3)).off+2,none⟩=some (.int .i64 ((rd_T63 l1 x5_1).f2))) (ds:=[]) (lb 7 0) (by kernel_rfl) rfl rfl ⟨bc BK111 0 rfl,bc BK111 1 rfl,((HB.out.cell (World.block_lt_of_cell? w _ hw112_0)).trans hw112_0),((HB.out.cell (World.block_lt_of_cell? w _ hw112_1)).trans hw112_1),((HB.out.cell (World.block_lt_of_cell? w _ hw112_2)).trans hw112_2)⟩ (fun hHeld=>?_)
 generalize wr.drew=w8 at BK111 HB hx112_0 hx112_1 hx112_2 hHeld⊢
 refine pure_ (i:=1) (N:=some 13) (v:=?_) (a':=?_) (lb 7 2) rfl rfl (by kernel_rfl) (fun _ _ _ h=>h) (Or.inl ⟨by rfl,?_⟩) ?_ ?_
 rotate_left
 ·intro w'
  go_simp
  with_reducible rfl
 rotate_left
 ·simp only[ap]
  rfl
 refine pure_ (i:=2) (N:=some 14) (v:=?_) (a':=?_) (lb 7 6) rfl rfl (by kernel_rfl) (fun _ _ _ h=>h) (Or.inl ⟨by rfl,?_⟩) ?_ ?_
 rotate_left
 ·intro w'
  go_simp
  with_reducible rfl
 rotate_left
 ·simp only[ap]
  rfl
 refine pure_ (i:=3) (N:=some 15) (v:=?_) (a':=?_) (lb 7 14) rfl rfl (by kernel_rfl) (fun _ _ _ h=>h) (Or.inl ⟨by rfl,?_⟩) ?_ ?_
 rotate_left
 ·intro w'
  go_simp
  with_reducible rfl
 rotate_left
 ·simp only[ap]
  rfl
 refine take_ (i:=0) (N:=some 12) (v:=?_) (a':=?_) (lb 7 15) rfl rfl (by kernel_rfl) (fun _ _ _ h=>h) (Or.inl ⟨by rfl,?_⟩) hHeld ?_ ?_
 rotate_left
 ·rintro w' ⟨s0,s1,s2,s3,s4⟩
  go_simp
  with_reducible rfl
 rotate_left
 ·simp only[ap]
  rfl
 refine take_ (i:=4) (N:=some 16) (v:=?_) (a':=?_) (lb 7 31) rfl rfl (by kernel_rfl) (fun _ _ _ h=>h) (Or.inl ⟨by rfl,?_⟩) hHeld ?_ ?_
 rotate_left
 ·rintro w' ⟨s0,s1,s2,s3,s4⟩
  go_simp
  with_reducible rfl
 rotate_left
 ·simp only[ap]
  rfl
 refine one_ (i:=5) (N:=some 17) (lb 7 63) rfl rfl (by kernel_rfl) (by decide) (fun K hK=>?_)
 refine goes_ Try.func97 (by kernel_rfl) rfl #[.agg #[.int .i64 a0_0,.bool a0_1],.agg #[.int .i64 ((rd_T63 l1 x5_1).f0),.int .i64 ((rd_T63 l1 x5_1).f1),.int .i64 ((rd_T63 l1 x5_1).f2)]] (by rfl) rfl rfl gl ?_
 with_reducible refine(spec_l7Carrier.calls a0_0 a0_1 ((rd_T63 l1 x5_1).f0) ((rd_T63 l1 x5_1).f1) ((rd_T63 l1 x5_1).f2) true _ A6.out).mono ?_
 rintro e w9 ⟨rfl,hb⟩
 refine⟨_,rfl,?_⟩
 replace BK111:=kb BK111 hb
 replace HB:=ak (below_step (h1 HB.out GE111.out) hb)
 (try clear hb)
 (try clear hb2)
 (try clear hk)
 (try clear hi)
 refine hK.out _ _ ⟨bc BK111 0 rfl,bc BK111 1 rfl,((HB.out.cell (World.block_lt_of_cell? w _ hw112_0)).trans hw112_0),((HB.out.cell (World.block_lt_of_cell? w _ hw112_1)).trans hw112_1),((HB.out.cell (World.block_lt_of_cell? w _ hw112_2)).trans hw112_2)⟩ (fun hHeld=>?_)
 clear hK K
 refine norm_ (a':=?_) ?_ ?_
 rotate_left
 ·show Act.put _ (some 17) _=_
  simp only[ap]
  rfl
 refine pure_ (i:=6) (N:=some 18) (v:=?_) (a':=?_) (lb 7 127) rfl rfl (by kernel_rfl) (fun _ _ _ h=>h) (Or.inl ⟨by rfl,?_⟩) ?_ ?_
 rotate_left
 ·intro w'
  go_simp
  with_reducible rfl
 rotate_left
 ·simp only[ap]
  rfl
 refine done_ (by kernel_rfl) ?_
 try go_wp2
 go_roundg k1
 case measure=>have:=HK1.out;omega
 case rel=>exact⟨(wrap64 (x5_1+1)),fd,H',⟨by have:=HK1.out;omega⟩,⟨bm BK111.out⟩,⟨h1 HB.out GE111.out⟩⟩
def spec_l2Place.f (a0_0:Int) (a0_1:Bool) (a1:Int):Option (Bool):=(spec_l2Road.f a0_0 a0_1).bind fun t116=>(if t116=true then((spec_l1In.f a1 0 (wrap64 (a0_0-1))).bind fun t117=>(some t117))else(some false))
set_option maxHeartbeats 8000000 in
set_option maxRecDepth 100000 in
theorem spec_l2Place.calls (a0_0:Int) (a0_1:Bool) (a1:Int) (r:Bool) (w:World) (h:spec_l2Place.f a0_0 a0_1 a1=some r):
  Calls Try.prog 78 #[.agg #[.int .i64 a0_0,.bool a0_1],.int .i64 a1] w fun e w'=>e= .returned (.bool r)∧Below w.heap.size w w':=by
 have hu28:=Try.underlying28
 have HB:=Aside0.mk (Below.refl w.heap.size w)
 unfold spec_l2Place.f at h
 have H:=h
 clear h
 obtain⟨t116,A3,H⟩:=bd H;(try dsimp only at H)
 by_cases c4:t116=true
 rotate_left
 ·replace c4:=Bool.eq_false_iff.mpr c4
  subst c4
  rw[if_neg (show ¬(false=true)by decide)]at H
  obtain rfl:=Option.some.inj H
  go_enter Try.func78,Try.ntmps78
  go_wp2_with (first|(refine bx 2 #[.int .i64 a0_0,.bool a0_1] 28 ?_;intro gb115 hg w10 hbox hb;have BK115:=ak hbox;have GW115:=gw HB hg;have GE115:=gw HB hg;replace HB:=bs HB hb;clear hb hbox hg;have hcz11_0:=bc BK115 0 rfl;have hcz11_1:=bc BK115 1 rfl;have hfz11_0:=bf BK115 0;have hfz11_1:=bf BK115 1)|(refine gs 6 Try.func99 #[.agg #[.int .i64 a0_0,.bool a0_1]] ?_;(with_reducible refine(spec_l2Road.calls a0_0 a0_1 false _ A3.out).mono ?_);rintro e w12 ⟨rfl,hb⟩;refine⟨_,rfl,?_⟩;replace BK115:=kb BK115 hb;replace HB:=ak (below_step (h1 HB.out GE115.out) hb);(try clear hb);(try clear hk);(try clear hi)))
  go_ret
  exact⟨fe,h1 HB.out GE115.out⟩
 subst c4
 rw[if_pos rfl]at H
 obtain⟨t117,A5,H⟩:=bd H;(try dsimp only at H)
 obtain rfl:=Option.some.inj H
 go_enter Try.func78,Try.ntmps78
 go_wp2_with (first|(refine bx 2 #[.int .i64 a0_0,.bool a0_1] 28 ?_;intro gb115 hg w6 hbox hb;have BK115:=ak hbox;have GW115:=gw HB hg;have GE115:=gw HB hg;replace HB:=bs HB hb;clear hb hbox hg;have hcz7_0:=bc BK115 0 rfl;have hcz7_1:=bc BK115 1 rfl;have hfz7_0:=bf BK115 0;have hfz7_1:=bf BK115 1)|(refine gs 6 Try.func99 #[.agg #[.int .i64 a0_0,.bool a0_1]] ?_;(with_reducible refine(spec_l2Road.calls a0_0 a0_1 true _ A3.out).mono ?_);rintro e w8 ⟨rfl,hb⟩;refine⟨_,rfl,?_⟩;replace BK115:=kb BK115 hb;replace HB:=ak (below_step (h1 HB.out GE115.out) hb);(try clear hb);(try clear hk);(try clear hi);have hcz9_0:=bc BK115 0 rfl;have hcz9_1:=bc BK115 1 rfl;have hfz9_0:=bf BK115 0;have hfz9_1:=bf BK115 1)|(go_at_call 100;(try simp only[Go.IntWalk.i64_left]);(with_reducible refine(spec_l1In.calls a1 0 (wrap64 (a0_0-1)) t117 _ A5.out).mono ?_);rintro e w' ⟨rfl,⟨nd,rfl⟩⟩))
 go_ret
 exact⟨fe,h1 HB.out GE115.out⟩
def spec_l7Asks.f (k:Nat) (a0_0:Int) (a0_1:Bool) (l1:List (S63)) (a2:Int) (a3:Int):Option (Bool):=(spec_l7Carriers.f k a0_0 a0_1 l1).bind fun t119=>(if t119=true then((spec_l2Place.f a0_0 a0_1 a3).bind fun t120=>(if t120=true then((spec_l1In.f a2 0 a3).bind fun t121=>(some t121))else(some false)))else(some false))
theorem spec_l7Asks.mono:∀ a0 a1 a2 a3 a4 k,LeO (spec_l7Asks.f k a0 a1 a2 a3 a4) (spec_l7Asks.f (k+1) a0 a1 a2 a3 a4):=by
 intro a0 a1 a2 a3 a4 k
 unfold spec_l7Asks.f
 repeat' (with_reducible first|exact spec_l7Carriers.mono ..|exact LeO.refl _|exact LeO.none _|refine LeO.ite ?_ ?_|refine LeO.bind ?_ (fun _=>?_))
set_option maxHeartbeats 8000000 in
set_option maxRecDepth 100000 in
theorem spec_l7Asks.calls (k:Nat) (a0_0:Int) (a0_1:Bool) (A1:Option Addr) (c1:Nat) (l1:List (S63)) (a2:Int) (a3:Int) (r:Bool) (w:World) (hr1:Kd.C k63 w A1 l1.length l1) (hc1:l1.length≤c1) (h:spec_l7Asks.f k a0_0 a0_1 l1 a2 a3=some r):
  Calls Try.prog 55 #[.agg #[.int .i64 a0_0,.bool a0_1],.slice A1 l1.length c1,.int .i64 a2,.int .i64 a3] w fun e w'=>e= .returned (.bool r)∧Below w.heap.size w w':=by
 have hu28:=Try.underlying28
 have HR1:=Aside0.mk hr1
 have HC1:=Aside0.mk hc1
 clear hr1 hc1
 have HB:=Aside0.mk (Below.refl w.heap.size w)
 unfold spec_l7Asks.f at h
 have H:=h
 clear h
 obtain⟨t119,A5,H⟩:=bd H;(try dsimp only at H)
 by_cases c6:t119=true
 rotate_left
 ·replace c6:=Bool.eq_false_iff.mpr c6
  subst c6
  rw[if_neg (show ¬(false=true)by decide)]at H
  obtain rfl:=Option.some.inj H
  go_enter Try.func55,Try.ntmps55
  go_wp2_with (first|(refine bx 4 #[.int .i64 a0_0,.bool a0_1] 28 ?_;intro gb118 hg w20 hbox hb;have BK118:=ak hbox;have GW118:=gw HB hg;have GE118:=gw HB hg;replace HB:=bs HB hb;clear hb hbox hg;have hcz21_0:=bc BK118 0 rfl;have hcz21_1:=bc BK118 1 rfl;have hfz21_0:=bf BK118 0;have hfz21_1:=bf BK118 1)|(refine gs 11 Try.func77 #[.agg #[.int .i64 a0_0,.bool a0_1],.slice A1 l1.length c1] ?_;(with_reducible refine(spec_l7Carriers.calls k a0_0 a0_1 _ _ l1 false _ ?side1 ?side2 A5.out).mono ?_);(case side1=>exact cm (C_below HR1.out HB.out));(case side2=>exact HC1.out);rintro e w22 ⟨rfl,hb⟩;refine⟨_,rfl,?_⟩;replace BK118:=kb BK118 hb;replace HB:=ak (below_step (h1 HB.out GE118.out) hb);(try clear hb);(try clear hk);(try clear hi)))
  go_ret
  exact⟨fe,h1 HB.out GE118.out⟩
 subst c6
 rw[if_pos rfl]at H
 obtain⟨t120,A7,H⟩:=bd H;(try dsimp only at H)
 by_cases c8:t120=true
 rotate_left
 ·replace c8:=Bool.eq_false_iff.mpr c8
  subst c8
  rw[if_neg (show ¬(false=true)by decide)]at H
  obtain rfl:=Option.some.inj H
  go_enter Try.func55,Try.ntmps55
  go_wp2_with (first|(refine bx 4 #[.int .i64 a0_0,.bool a0_1] 28 ?_;intro gb118 hg w15 hbox hb;have BK118:=ak hbox;have GW118:=gw HB hg;have GE118:=gw HB hg;replace HB:=bs HB hb;clear hb hbox hg;have hcz16_0:=bc BK118 0 rfl;have hcz16_1:=bc BK118 1 rfl;have hfz16_0:=bf BK118 0;have hfz16_1:=bf BK118 1)|(refine gs 11 Try.func77 #[.agg #[.int .i64 a0_0,.bool a0_1],.slice A1 l1.length c1] ?_;(with_reducible refine(spec_l7Carriers.calls k a0_0 a0_1 _ _ l1 true _ ?side1 ?side2 A5.out).mono ?_);(case side1=>exact cm (C_below HR1.out HB.out));(case side2=>exact HC1.out);rintro e w17 ⟨rfl,hb⟩;refine⟨_,rfl,?_⟩;replace BK118:=kb BK118 hb;replace HB:=ak (below_step (h1 HB.out GE118.out) hb);(try clear hb);(try clear hk);(try clear hi);have hcz18_0:=bc BK118 0 rfl;have hcz18_1:=bc BK118 1 rfl;have hfz18_0:=bf BK118 0;have hfz18_1:=bf BK118 1)|(go_at_call 78;(with_reducible refine(spec_l2Place.calls a0_0 a0_1 a3 false _ A7.out).mono ?_);rintro e w19 ⟨rfl,hb⟩;replace BK118:=kb BK118 hb;replace HB:=ak (below_step (h1 HB.out GE118.out) hb);(try clear hb);(try clear hk);(try clear hi)))
  go_ret
  exact⟨fe,h1 HB.out GE118.out⟩
 subst c8
 rw[if_pos rfl]at H
 obtain⟨t121,A9,H⟩:=bd H;(try dsimp only at H)
 obtain rfl:=Option.some.inj H
 go_enter Try.func55,Try.ntmps55
 go_wp2_with (first|(refine bx 4 #[.int .i64 a0_0,.bool a0_1] 28 ?_;intro gb118 hg w10 hbox hb;have BK118:=ak hbox;have GW118:=gw HB hg;have GE118:=gw HB hg;replace HB:=bs HB hb;clear hb hbox hg;have hcz11_0:=bc BK118 0 rfl;have hcz11_1:=bc BK118 1 rfl;have hfz11_0:=bf BK118 0;have hfz11_1:=bf BK118 1)|(refine gs 11 Try.func77 #[.agg #[.int .i64 a0_0,.bool a0_1],.slice A1 l1.length c1] ?_;(with_reducible refine(spec_l7Carriers.calls k a0_0 a0_1 _ _ l1 true _ ?side1 ?side2 A5.out).mono ?_);(case side1=>exact cm (C_below HR1.out HB.out));(case side2=>exact HC1.out);rintro e w12 ⟨rfl,hb⟩;refine⟨_,rfl,?_⟩;replace BK118:=kb BK118 hb;replace HB:=ak (below_step (h1 HB.out GE118.out) hb);(try clear hb);(try clear hk);(try clear hi);have hcz13_0:=bc BK118 0 rfl;have hcz13_1:=bc BK118 1 rfl;have hfz13_0:=bf BK118 0;have hfz13_1:=bf BK118 1)|(go_at_call 78;(with_reducible refine(spec_l2Place.calls a0_0 a0_1 a3 true _ A7.out).mono ?_);rintro e w14 ⟨rfl,hb⟩;replace BK118:=kb BK118 hb;replace HB:=ak (below_step (h1 HB.out GE118.out) hb);(try clear hb);(try clear hk);(try clear hi))|(go_at_call 100;(with_reducible refine(spec_l1In.calls a2 0 a3 t121 _ A9.out).mono ?_);rintro e w' ⟨rfl,⟨nd,rfl⟩⟩))
 go_ret
 exact⟨fe,h1 HB.out GE118.out⟩
def spec_l1Most.f (a0:Int) (a1:Int):Option (Int):=if a0>a1 then(some a0)else(some a1)
set_option maxHeartbeats 8000000 in
set_option maxRecDepth 100000 in
theorem spec_l1Most.calls (a0:Int) (a1:Int) (r:Int) (w:World) (h:spec_l1Most.f a0 a1=some r):
  Calls Try.prog 101 #[.int .i64 a0,.int .i64 a1] w fun e w'=>e= .returned (.int .i64 r)∧Drawn0 w w':=by
 unfold spec_l1Most.f at h
 have H:=h
 clear h
 by_cases c3:a0>a1
 ·rw[if_pos c3]at H
  have c3b0:decide (a1<a0)=true:=decide_eq_true c3
  clear c3
  obtain rfl:=Option.some.inj H
  go_enter Try.func101,Try.ntmps101
  go_wp2
  go_ret
  exact⟨by first|rfl|(simp;done)|(simp[*];done),by repeat(first|exact Drawn0.refl _|apply Drawn0.step)⟩
 rw[if_neg c3]at H
 have c3b0:decide (a1<a0)=false:=decide_eq_false c3
 clear c3
 obtain rfl:=Option.some.inj H
 go_enter Try.func101,Try.ntmps101
 go_wp2
 go_ret
 exact⟨by first|rfl|(simp;done)|(simp[*];done),by repeat(first|exact Drawn0.refl _|apply Drawn0.step)⟩
def spec_l1Least.f (a0:Int) (a1:Int):Option (Int):=if a0<a1 then(some a0)else(some a1)
set_option maxHeartbeats 8000000 in
set_option maxRecDepth 100000 in
theorem spec_l1Least.calls (a0:Int) (a1:Int) (r:Int) (w:World) (h:spec_l1Least.f a0 a1=some r):
  Calls Try.prog 108 #[.int .i64 a0,.int .i64 a1] w fun e w'=>e= .returned (.int .i64 r)∧Drawn0 w w':=by
 unfold spec_l1Least.f at h
 have H:=h
 clear h
 by_cases c3:a0<a1
 ·rw[if_pos c3]at H
  have c3b0:decide (a0<a1)=true:=decide_eq_true c3
  clear c3
  obtain rfl:=Option.some.inj H
  go_enter Try.func108,Try.ntmps108
  go_wp2
  go_ret
  exact⟨by first|rfl|(simp;done)|(simp[*];done),by repeat(first|exact Drawn0.refl _|apply Drawn0.step)⟩
 rw[if_neg c3]at H
 have c3b0:decide (a0<a1)=false:=decide_eq_false c3
 clear c3
 obtain rfl:=Option.some.inj H
 go_enter Try.func108,Try.ntmps108
 go_wp2
 go_ret
 exact⟨by first|rfl|(simp;done)|(simp[*];done),by repeat(first|exact Drawn0.refl _|apply Drawn0.step)⟩
def spec_l2Gap.f (a0_0:Int) (a0_1:Bool) (a1:Int) (a2:Int):Option (Int):=(spec_l1Most.f (wrap64 (a1-a2)) (wrap64 (a2-a1))).bind fun t123=>(if a0_1=true then((spec_l1Least.f t123 (wrap64 (a0_0-t123))).bind fun t124=>(some t124))else(some t123))
set_option maxHeartbeats 8000000 in
set_option maxRecDepth 100000 in
theorem spec_l2Gap.calls (a0_0:Int) (a0_1:Bool) (a1:Int) (a2:Int) (r:Int) (w:World) (h:spec_l2Gap.f a0_0 a0_1 a1 a2=some r):
  Calls Try.prog 103 #[.agg #[.int .i64 a0_0,.bool a0_1],.int .i64 a1,.int .i64 a2] w fun e w'=>e= .returned (.int .i64 r)∧Below w.heap.size w w':=by
 have hu28:=Try.underlying28
 have HB:=Aside0.mk (Below.refl w.heap.size w)
 unfold spec_l2Gap.f at h
 have H:=h
 clear h
 obtain⟨t123,A4,H⟩:=bd H;(try dsimp only at H)
 by_cases c5:a0_1=true
 rotate_left
 ·replace c5:=Bool.eq_false_iff.mpr c5
  subst c5
  rw[if_neg (show ¬(false=true)by decide)]at H
  obtain rfl:=Option.some.inj H
  go_enter Try.func103,Try.ntmps103
  go_wp2_with (first|(refine bx 3 #[.int .i64 a0_0,.bool false] 28 ?_;intro gb122 hg w9 hbox hb;have BK122:=ak hbox;have GW122:=gw HB hg;have GE122:=gw HB hg;replace HB:=bs HB hb;clear hb hbox hg)|(refine gs 14 Try.func101 #[.int .i64 (wrap64 (a1-a2)),.int .i64 (wrap64 (a2-a1))] ?_;(with_reducible refine(spec_l1Most.calls (wrap64 (a1-a2)) (wrap64 (a2-a1)) t123 _ A4.out).mono ?_);rintro e w' ⟨rfl,⟨nd,rfl⟩⟩;refine⟨_,rfl,?_⟩;have hcz10_0:=bc BK122 0 rfl;have hcz10_1:=bc BK122 1 rfl;have hfz10_0:=bf BK122 0;have hfz10_1:=bf BK122 1))
  go_ret
  exact⟨fe,h1 HB.out GE122.out⟩
 subst c5
 rw[if_pos rfl]at H
 obtain⟨t124,A6,H⟩:=bd H;(try dsimp only at H)
 obtain rfl:=Option.some.inj H
 go_enter Try.func103,Try.ntmps103
 go_wp2_with (first|(refine bx 3 #[.int .i64 a0_0,.bool true] 28 ?_;intro gb122 hg w7 hbox hb;have BK122:=ak hbox;have GW122:=gw HB hg;have GE122:=gw HB hg;replace HB:=bs HB hb;clear hb hbox hg)|(refine gs 14 Try.func101 #[.int .i64 (wrap64 (a1-a2)),.int .i64 (wrap64 (a2-a1))] ?_;(with_reducible refine(spec_l1Most.calls (wrap64 (a1-a2)) (wrap64 (a2-a1)) t123 _ A4.out).mono ?_);rintro e w' ⟨rfl,⟨nd,rfl⟩⟩;refine⟨_,rfl,?_⟩;have hcz8_0:=bc BK122 0 rfl;have hcz8_1:=bc BK122 1 rfl;have hfz8_0:=bf BK122 0;have hfz8_1:=bf BK122 1)|(refine gs 22 Try.func108 #[.int .i64 t123,.int .i64 (wrap64 (a0_0-t123))] ?_;(with_reducible refine(spec_l1Least.calls t123 (wrap64 (a0_0-t123)) t124 _ A6.out).mono ?_);rintro e w' ⟨rfl,⟨nd,rfl⟩⟩;refine⟨_,rfl,?_⟩))
 go_ret
 exact⟨fe,h1 HB.out GE122.out⟩
end
end Go.Proofs.Ythagkpoinjpmfaa.QFnReaches
