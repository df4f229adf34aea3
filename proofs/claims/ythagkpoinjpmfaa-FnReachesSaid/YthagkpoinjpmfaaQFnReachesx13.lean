/- Functions that the law FnReaches comes to, and their walks: no condition but those named. -/
import Derived.Test.YthagkpoinjpmfaaQFnReachesx0
import Derived.Test.YthagkpoinjpmfaaQFnReachesx1
import Derived.Test.YthagkpoinjpmfaaQFnReachesx12
namespace Go.Proofs.Ythagkpoinjpmfaa.QFnReaches
open Go.RowKit Go.Proofs.YthagkpoinjpmfaaW.PrintWords Go.Proofs.YthagkpoinjpmfaaW.PrintLast Go.Proofs.YthagkpoinjpmfaaW.PrintMore Go.Proofs.Ythagkpoinjpmfaa.Short
attribute [local go_sem] max2_int min2_int max_two min_two max_three min_three max_four min_four
set_option linter.unusedVariables false
set_option linter.unusedSimpArgs false
section
open Kd
def impl_LeastPrice.f (k:Nat) (a0_0:Int) (a0_1:Bool) (l1:List (S63)) (a2:Int) (a3:Int):Option (Int × Bool):=(mkLeg0.f a0_0 a0_1).bind fun t512=>((impl_least.f k a0_0 a0_1 l1 a2 a3 t512).bind fun bt513=>(some (bt513.1,bt513.2)))
theorem impl_LeastPrice.mono:∀ a0 a1 a2 a3 a4 k,LeO (impl_LeastPrice.f k a0 a1 a2 a3 a4) (impl_LeastPrice.f (k+1) a0 a1 a2 a3 a4):=by
 intro a0 a1 a2 a3 a4 k
 unfold impl_LeastPrice.f
 repeat' (with_reducible first|exact impl_least.mono ..|exact LeO.refl _|exact LeO.none _|refine LeO.ite ?_ ?_|refine LeO.bind ?_ (fun _=>?_))
set_option maxHeartbeats 8000000 in
set_option maxRecDepth 100000 in
theorem impl_LeastPrice.calls (k:Nat) (a0_0:Int) (a0_1:Bool) (A1:Option Addr) (c1:Nat) (l1:List (S63)) (a2:Int) (a3:Int) (r1:Int) (r2:Bool) (w:World) (hr1:Kd.C k63 w A1 l1.length l1) (hc1:l1.length≤c1) (h:impl_LeastPrice.f k a0_0 a0_1 l1 a2 a3=some (r1,r2)):
  Calls Try.prog 33 #[.agg #[.int .i64 a0_0,.bool a0_1],.slice A1 l1.length c1,.int .i64 a2,.int .i64 a3] w fun e w'=>e= .returned (.tuple #[.int .i64 r1,.bool r2])∧Below w.heap.size w w':=by
 have hu28:=Try.underlying28
 have HR1:=Aside0.mk hr1
 have HC1:=Aside0.mk hc1
 clear hr1 hc1
 have HB:=Aside0.mk (Below.refl w.heap.size w)
 unfold impl_LeastPrice.f at h
 have H:=h
 clear h
 obtain⟨t512,A5,H⟩:=bd H;(try dsimp only at H)
 obtain rfl:legCode 0 a0_0 a0_1=t512:=Option.some.inj A5.out
 obtain⟨⟨t513,t514⟩,A6,H⟩:=bd H;(try dsimp only at H)
 simp only[Option.some.injEq,Prod.mk.injEq]at H
 obtain⟨rfl,rfl⟩:=H
 go_enter Try.func33,Try.ntmps33
 go_wp2_with (first|(refine bx 4 #[.int .i64 a0_0,.bool a0_1] 28 ?_;intro gb511 hg w7 hbox hb;have BK511:=ak hbox;have GW511:=gw HB hg;have GE511:=gw HB hg;replace HB:=bs HB hb;clear hb hbox hg;have hcz8_0:=bc BK511 0 rfl;have hcz8_1:=bc BK511 1 rfl;have hfz8_0:=bf BK511 0;have hfz8_1:=bf BK511 1)|(refine gs 15 Try.func74 #[.agg #[.int .i64 a0_0,.bool a0_1],.slice A1 l1.length c1,.int .i64 a2,.int .i64 a3,.func (.func 75) #[] #[.pointer (some ⟨gb511,0,none⟩)]] ?_;(with_reducible refine(impl_least.calls k a0_0 a0_1 _ _ l1 a2 a3 (legCode 0 a0_0 a0_1) _ t513 t514 _ ?side1 ?side2 ?sideL A6.out).mono ?_);(case sideL=>exact Or.inl ⟨(legCode_0 _ _).2.2,gb511,rfl,by rw[(legCode_0 _ _).1,(legCode_0 _ _).2.1];exact bm BK511.out⟩);(case side1=>exact cm (C_below HR1.out HB.out));(case side2=>exact HC1.out);rintro e w10 ⟨rfl,hb⟩;refine⟨_,rfl,?_⟩;replace BK511:=kb BK511 hb;replace HB:=ak (below_step (h1 HB.out GE511.out) hb);(try clear hb);(try clear hk);(try clear hi)))
 go_ret2
 exact⟨fe,h1 HB.out GE511.out⟩
def spec_l7Steps.f (a0_0:Int) (a0_1:Bool) (a1_0:Int) (a1_1:Int) (a1_2:Int) (a2:Int) (a3:Int):Option (Int):=(spec_l2Gap.f a0_0 a0_1 a1_0 a2).bind fun t517=>(some (wrap64 ((wrap64 (t517+a3))-a2)))
set_option maxHeartbeats 8000000 in
set_option maxRecDepth 100000 in
theorem spec_l7Steps.calls (a0_0:Int) (a0_1:Bool) (a1_0:Int) (a1_1:Int) (a1_2:Int) (a2:Int) (a3:Int) (r:Int) (w:World) (h:spec_l7Steps.f a0_0 a0_1 a1_0 a1_1 a1_2 a2 a3=some r):
  Calls Try.prog 61 #[.agg #[.int .i64 a0_0,.bool a0_1],.agg #[.int .i64 a1_0,.int .i64 a1_1,.int .i64 a1_2],.int .i64 a2,.int .i64 a3] w fun e w'=>e= .returned (.int .i64 r)∧Below w.heap.size w w':=by
 have hu28:=Try.underlying28
 have hu63:=Try.underlying63
 have HB:=Aside0.mk (Below.refl w.heap.size w)
 unfold spec_l7Steps.f at h
 have H:=h
 clear h
 obtain⟨t517,A5,H⟩:=bd H;(try dsimp only at H)
 obtain rfl:=Option.some.inj H
 go_enter Try.func61,Try.ntmps61
 go_wp2_with (first|(refine bx 4 #[.int .i64 a0_0,.bool a0_1] 28 ?_;intro gb515 hg w6 hbox hb;have BK515:=ak hbox;have GW515:=gw HB hg;have GE515:=gw HB hg;replace HB:=bs HB hb;clear hb hbox hg)|(refine bx 5 #[.int .i64 a1_0,.int .i64 a1_1,.int .i64 a1_2] 63 ?_;intro gb516 hg w7 hbox hb;have BK516:=ak hbox;have GW516:=ak ((by rw[hg];exact(below_size (h1 HB.out GE515.out)):w.heap.size≤gb516));have GE516:=ak ((by rw[hg];exact(below_size (h1 HB.out GE515.out)):w.heap.size≤gb516));replace HB:=ak (below_step (h1 HB.out GE515.out) hb);have NB515_516:=nl BK515 hg;have NB516_515:=ng BK515 hg;replace BK515:=kb BK515 hb;clear hb hbox hg;have hnb8:=NB515_516.out;have hnc8:=NB516_515.out;have hcz9_0:=bc BK515 0 rfl;have hcz9_1:=bc BK515 1 rfl;have hfz9_0:=bf BK515 0;have hfz9_1:=bf BK515 1;have hcz10_0:=bc BK516 0 rfl;have hcz10_1:=bc BK516 1 rfl;have hcz10_2:=bc BK516 2 rfl;have hfz10_0:=bf BK516 0;have hfz10_1:=bf BK516 1;have hfz10_2:=bf BK516 2)|(refine gs 13 Try.func103 #[.agg #[.int .i64 a0_0,.bool a0_1],.int .i64 a1_0,.int .i64 a2] ?_;(with_reducible refine(spec_l2Gap.calls a0_0 a0_1 a1_0 a2 t517 _ A5.out).mono ?_);rintro e w11 ⟨rfl,hb⟩;refine⟨_,rfl,?_⟩;replace BK515:=kb BK515 hb;replace BK516:=kb BK516 hb;replace HB:=ak (below_step (h2 HB.out GE515.out GE516.out) hb);(try clear hb);(try clear hk);(try clear hi)))
 go_ret
 exact⟨fe,h2 HB.out GE515.out GE516.out⟩
def spec_l7Arrive.f (a0_0:Int) (a0_1:Bool) (a1_0:Int) (a1_1:Int) (a1_2:Int) (a2:Int) (a3:Int) (a4:Int):Option (Int):=(spec_l2Gap.f a0_0 a0_1 a1_0 a3).bind fun t520=>((spec_l1Most.f a2 t520).bind fun t521=>(some (wrap64 ((wrap64 (t521+a4))-a3))))
set_option maxHeartbeats 8000000 in
set_option maxRecDepth 100000 in
theorem spec_l7Arrive.calls (a0_0:Int) (a0_1:Bool) (a1_0:Int) (a1_1:Int) (a1_2:Int) (a2:Int) (a3:Int) (a4:Int) (r:Int) (w:World) (h:spec_l7Arrive.f a0_0 a0_1 a1_0 a1_1 a1_2 a2 a3 a4=some r):
  Calls Try.prog 69 #[.agg #[.int .i64 a0_0,.bool a0_1],.agg #[.int .i64 a1_0,.int .i64 a1_1,.int .i64 a1_2],.int .i64 a2,.int .i64 a3,.int .i64 a4] w fun e w'=>e= .returned (.int .i64 r)∧Below w.heap.size w w':=by
 have hu28:=Try.underlying28
 have hu63:=Try.underlying63
 have HB:=Aside0.mk (Below.refl w.heap.size w)
 unfold spec_l7Arrive.f at h
 have H:=h
 clear h
 obtain⟨t520,A6,H⟩:=bd H;(try dsimp only at H)
 obtain⟨t521,A7,H⟩:=bd H;(try dsimp only at H)
 obtain rfl:=Option.some.inj H
 go_enter Try.func69,Try.ntmps69
 go_wp2_with (first|(refine bx 5 #[.int .i64 a0_0,.bool a0_1] 28 ?_;intro gb518 hg w8 hbox hb;have BK518:=ak hbox;have GW518:=gw HB hg;have GE518:=gw HB hg;replace HB:=bs HB hb;clear hb hbox hg)|(refine bx 6 #[.int .i64 a1_0,.int .i64 a1_1,.int .i64 a1_2] 63 ?_;intro gb519 hg w9 hbox hb;have BK519:=ak hbox;have GW519:=ak ((by rw[hg];exact(below_size (h1 HB.out GE518.out)):w.heap.size≤gb519));have GE519:=ak ((by rw[hg];exact(below_size (h1 HB.out GE518.out)):w.heap.size≤gb519));replace HB:=ak (below_step (h1 HB.out GE518.out) hb);have NB518_519:=nl BK518 hg;have NB519_518:=ng BK518 hg;replace BK518:=kb BK518 hb;clear hb hbox hg;have hnb10:=NB518_519.out;have hnc10:=NB519_518.out;have hcz11_0:=bc BK518 0 rfl;have hcz11_1:=bc BK518 1 rfl;have hfz11_0:=bf BK518 0;have hfz11_1:=bf BK518 1;have hcz12_0:=bc BK519 0 rfl;have hcz12_1:=bc BK519 1 rfl;have hcz12_2:=bc BK519 2 rfl;have hfz12_0:=bf BK519 0;have hfz12_1:=bf BK519 1;have hfz12_2:=bf BK519 2)|(refine gs 16 Try.func103 #[.agg #[.int .i64 a0_0,.bool a0_1],.int .i64 a1_0,.int .i64 a3] ?_;(with_reducible refine(spec_l2Gap.calls a0_0 a0_1 a1_0 a3 t520 _ A6.out).mono ?_);rintro e w13 ⟨rfl,hb⟩;refine⟨_,rfl,?_⟩;replace BK518:=kb BK518 hb;replace BK519:=kb BK519 hb;replace HB:=ak (below_step (h2 HB.out GE518.out GE519.out) hb);(try clear hb);(try clear hk);(try clear hi))|(refine gs 17 Try.func101 #[.int .i64 a2,.int .i64 t520] ?_;(with_reducible refine(spec_l1Most.calls a2 t520 t521 _ A7.out).mono ?_);rintro e w' ⟨rfl,⟨nd,rfl⟩⟩;refine⟨_,rfl,?_⟩))
 go_ret
 exact⟨fe,h2 HB.out GE518.out GE519.out⟩
end
end Go.Proofs.Ythagkpoinjpmfaa.QFnReaches
