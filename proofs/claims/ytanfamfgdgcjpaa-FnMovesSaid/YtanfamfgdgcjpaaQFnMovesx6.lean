/- Functions that the law FnMoves comes to, and their walks: no condition but those named. -/
import Derived.Test.YtanfamfgdgcjpaaQFnMovesx0
import Derived.Test.YtanfamfgdgcjpaaQFnMovesx2
import Derived.Test.YtanfamfgdgcjpaaQFnMovesx3
import Derived.Test.YtanfamfgdgcjpaaQFnMovesx5
namespace Go.Proofs.Ytanfamfgdgcjpaa.QFnMoves
open Go.RowKit Go.Proofs.YtanfamfgdgcjpaaW.PrintWords Go.Proofs.YtanfamfgdgcjpaaW.PrintLast Go.Proofs.YtanfamfgdgcjpaaW.PrintMore Go.Proofs.Ytanfamfgdgcjpaa.Short
attribute [local go_sem] max2_int min2_int max_two min_two max_three min_three max_four min_four
set_option linter.unusedVariables false
set_option linter.unusedSimpArgs false
section
open Kd
def spec_LeastMove.l0:Nat→List (S58)→Int→Int→Bool→Option (Int × Bool)
 | 0,_,_,_,_=>none
 | k+1,x1,x6,x198000,x198001=>if x6<x198000 then((spec_l9Can.f k x198000 x198001 x1 x6).bind fun t199=>(if t199=true then(some (x6,true))else(spec_LeastMove.l0 k x1 (wrap64 (x6+1)) x198000 x198001)))else(some (0,false))
def spec_LeastMove.f (k:Nat) (a0_0:Int) (a0_1:Bool) (l1:List (S58)):Option (Int × Bool):=(spec_l9Sensors.f k a0_0 a0_1 l1).bind fun t198=>(if t198=true then(spec_LeastMove.l0 k l1 0 a0_0 a0_1)else(some (0,false)))
theorem spec_LeastMove.mono_l:∀ k,(∀ y0 y1 y2 y3,LeO (spec_LeastMove.l0 k y0 y1 y2 y3) (spec_LeastMove.l0 (k+1) y0 y1 y2 y3))
 | 0=>by
  refine ?_<;>(intros;intro r h;simp[spec_LeastMove.l0]at h)
 | k+1=>by
  have ih0:=spec_LeastMove.mono_l k
  refine ?_<;>intros<;>unfold spec_LeastMove.l0<;>(repeat' (with_reducible first|exact ih0 ..|exact spec_l9Can.mono ..|exact spec_l9Sensors.mono ..|exact LeO.refl _|exact LeO.none _|refine LeO.ite ?_ ?_|refine LeO.bind ?_ (fun _=>?_)))
theorem spec_LeastMove.mono:∀ a0 a1 a2 k,LeO (spec_LeastMove.f k a0 a1 a2) (spec_LeastMove.f (k+1) a0 a1 a2):=by
 intro a0 a1 a2 k
 have ih0:=spec_LeastMove.mono_l k
 unfold spec_LeastMove.f
 repeat' (with_reducible first|exact ih0 ..|exact spec_l9Can.mono ..|exact spec_l9Sensors.mono ..|exact LeO.refl _|exact LeO.none _|refine LeO.ite ?_ ?_|refine LeO.bind ?_ (fun _=>?_))
set_option maxHeartbeats 8000000 in
set_option maxRecDepth 100000 in
theorem spec_LeastMove.calls (k:Nat) (a0_0:Int) (a0_1:Bool) (A1:Option Addr) (c1:Nat) (l1:List (S58)) (r1:Int) (r2:Bool) (w:World) (hr1:Kd.C k58 w A1 l1.length l1) (hc1:l1.length≤c1) (h:spec_LeastMove.f k a0_0 a0_1 l1=some (r1,r2)):
  Calls Try.prog 21 #[.agg #[.int .i64 a0_0,.bool a0_1],.slice A1 l1.length c1] w fun e w'=>e= .returned (.tuple #[.int .i64 r1,.bool r2])∧Below w.heap.size w w':=by
 have HR1:=Aside0.mk hr1
 have HC1:=Aside0.mk hc1
 clear hr1 hc1
 have HB:=Aside0.mk (Below.refl w.heap.size w)
 unfold spec_LeastMove.f at h
 have H:=h
 clear h
 obtain⟨t198,A3,H⟩:=bd H;(try dsimp only at H)
 by_cases c4:t198=true
 rotate_left
 ·replace c4:=Bool.eq_false_iff.mpr c4
  subst c4
  rw[if_neg (show ¬(false=true)by decide)]at H
  simp only[Option.some.injEq,Prod.mk.injEq]at H
  obtain⟨rfl,rfl⟩:=H
  go_enter Try.func21,Try.ntmps21
  go_wp2_with (first|(refine bx 2 #[.int .i64 a0_0,.bool a0_1] 27 ?_;intro gb197 hg w16 hbox hb;have BK197:=ak hbox;have GE197:=gw HB hg;replace HB:=bs HB hb;clear hb hbox hg;have hcz17_0:=bc BK197 0 rfl;have hcz17_1:=bc BK197 1 rfl)|(refine gs 9 Try.func54 #[.agg #[.int .i64 a0_0,.bool a0_1],.slice A1 l1.length c1] ?_;(with_reducible refine(spec_l9Sensors.calls k a0_0 a0_1 _ _ l1 false _ ?side1 ?side2 A3.out).mono ?_);(case side1=>exact cm (C_below HR1.out HB.out));(case side2=>exact HC1.out);rintro e w18 ⟨rfl,hb⟩;refine⟨_,rfl,?_⟩;replace BK197:=kb BK197 hb;replace HB:=ak (below_step (h1 HB.out GE197.out) hb);(try clear hb);(try clear hk);(try clear hi)))
  go_ret2
  exact⟨fe,h1 HB.out GE197.out⟩
 subst c4
 rw[if_pos rfl]at H
 have H':=Aside0.mk H
 clear H
 go_enter Try.func21,Try.ntmps21
 go_wp2_with (first|(refine bx 2 #[.int .i64 a0_0,.bool a0_1] 27 ?_;intro gb197 hg w5 hbox hb;have BK197:=ak hbox;have GE197:=gw HB hg;replace HB:=bs HB hb;clear hb hbox hg;have hcz6_0:=bc BK197 0 rfl;have hcz6_1:=bc BK197 1 rfl)|(refine gs 9 Try.func54 #[.agg #[.int .i64 a0_0,.bool a0_1],.slice A1 l1.length c1] ?_;(with_reducible refine(spec_l9Sensors.calls k a0_0 a0_1 _ _ l1 true _ ?side1 ?side2 A3.out).mono ?_);(case side1=>exact cm (C_below HR1.out HB.out));(case side2=>exact HC1.out);rintro e w7 ⟨rfl,hb⟩;refine⟨_,rfl,?_⟩;replace BK197:=kb BK197 hb;replace HB:=ak (below_step (h1 HB.out GE197.out) hb);(try clear hb);(try clear hk);(try clear hi)))
 go_loopg [6] k (fun kq v6 w'=>∃ (x6_1:Int),v6= .int .i64 x6_1∧Aside0 (spec_LeastMove.l0 kq l1 x6_1 a0_0 a0_1=some (r1,r2))∧Aside0 (kq≤k)∧Aside0 (w'.heap[gb197]? =some (.cells #[.int .i64 a0_0,.bool a0_1] 27 (0,0)))∧Aside0 (Below w.heap.size w w'))
 case atStart=>exact⟨(0),fd,H',⟨Nat.le_refl _⟩,⟨bm BK197.out⟩,⟨h1 HB.out GE197.out⟩⟩
 clear H'
 obtain⟨x6_1,rfl,HA,HK1,BK197,HB⟩:=hrel
 obtain _|k1:=gk;·cases HA.out
 obtain⟨H⟩:=HA
 simp only[spec_LeastMove.l0]at H
 by_cases c8:x6_1<a0_0
 rotate_left
 ·rw[if_neg c8]at H
  have c8b0:decide (x6_1<a0_0)=false:=decide_eq_false c8
  clear c8
  simp only[Option.some.injEq,Prod.mk.injEq]at H
  obtain⟨rfl,rfl⟩:=H
  have hcz15_0:=bc BK197 0 rfl
  go_wp2
  go_ret2
  exact⟨fe,h1 HB.out GE197.out⟩
 rw[if_pos c8]at H
 have c8b0:decide (x6_1<a0_0)=true:=decide_eq_true c8
 clear c8
 obtain⟨t199,A9,H⟩:=bd H;(try dsimp only at H)
 by_cases c10:t199=true
 ·subst c10
  rw[if_pos rfl]at H
  simp only[Option.some.injEq,Prod.mk.injEq]at H
  obtain⟨rfl,rfl⟩:=H
  have hcz11_0:=bc BK197 0 rfl
  have hcz11_1:=bc BK197 1 rfl
  go_wp2_with (first|(refine gs 20 Try.func48 #[.agg #[.int .i64 a0_0,.bool a0_1],.slice A1 l1.length c1,.int .i64 x6_1] ?_;(with_reducible refine(spec_l9Can.calls k1 a0_0 a0_1 _ _ l1 x6_1 true _ ?side1 ?side2 A9.out).mono ?_);(case side1=>exact cm (C_below HR1.out HB.out));(case side2=>exact HC1.out);rintro e w12 ⟨rfl,hb⟩;refine⟨_,rfl,?_⟩;replace BK197:=kb BK197 hb;replace HB:=ak (below_step (h1 HB.out GE197.out) hb);(try clear hb);(try clear hk);(try clear hi)))
  go_ret2
  exact⟨fe,h1 HB.out GE197.out⟩
 replace c10:=Bool.eq_false_iff.mpr c10
 subst c10
 rw[if_neg (show ¬(false=true)by decide)]at H
 have H':=Aside0.mk H
 clear H
 have hcz13_0:=bc BK197 0 rfl
 have hcz13_1:=bc BK197 1 rfl
 go_wp2_with (first|(refine gs 20 Try.func48 #[.agg #[.int .i64 a0_0,.bool a0_1],.slice A1 l1.length c1,.int .i64 x6_1] ?_;(with_reducible refine(spec_l9Can.calls k1 a0_0 a0_1 _ _ l1 x6_1 false _ ?side1 ?side2 A9.out).mono ?_);(case side1=>exact cm (C_below HR1.out HB.out));(case side2=>exact HC1.out);rintro e w14 ⟨rfl,hb⟩;refine⟨_,rfl,?_⟩;replace BK197:=kb BK197 hb;replace HB:=ak (below_step (h1 HB.out GE197.out) hb);(try clear hb);(try clear hk);(try clear hi)))
 go_roundg k1
 case measure=>have:=HK1.out;omega
 case rel=>exact⟨(wrap64 (x6_1+1)),fd,H',⟨by have:=HK1.out;omega⟩,⟨bm BK197.out⟩,⟨h1 HB.out GE197.out⟩⟩
def impl_LeastMove.l0:Nat→List (S58)→Int→Int→Int→Bool→Option (Int × Bool)
 | 0,_,_,_,_,_=>none
 | k+1,x1,x12,x13,x201000,x201001=>if x13<x12 then((impl_Road_canGuard.f k x201000 x201001 x1 x13).bind fun t202=>(if t202=true then(some (x13,true))else(impl_LeastMove.l0 k x1 x12 (wrap64 (x13+1)) x201000 x201001)))else(some (0,false))
def impl_LeastMove.f (k:Nat) (a0_0:Int) (a0_1:Bool) (l1:List (S58)):Option (Int × Bool):=(impl_isGuarded.f k a0_0 a0_1 l1).bind fun t201=>(if t201=true then(impl_LeastMove.l0 k l1 a0_0 0 a0_0 a0_1)else(some (0,false)))
theorem impl_LeastMove.mono_l:∀ k,(∀ y0 y1 y2 y3 y4,LeO (impl_LeastMove.l0 k y0 y1 y2 y3 y4) (impl_LeastMove.l0 (k+1) y0 y1 y2 y3 y4))
 | 0=>by
  refine ?_<;>(intros;intro r h;simp[impl_LeastMove.l0]at h)
 | k+1=>by
  have ih0:=impl_LeastMove.mono_l k
  refine ?_<;>intros<;>unfold impl_LeastMove.l0<;>(repeat' (with_reducible first|exact ih0 ..|exact impl_Road_canGuard.mono ..|exact impl_isGuarded.mono ..|exact LeO.refl _|exact LeO.none _|refine LeO.ite ?_ ?_|refine LeO.bind ?_ (fun _=>?_)))
theorem impl_LeastMove.mono:∀ a0 a1 a2 k,LeO (impl_LeastMove.f k a0 a1 a2) (impl_LeastMove.f (k+1) a0 a1 a2):=by
 intro a0 a1 a2 k
 have ih0:=impl_LeastMove.mono_l k
 unfold impl_LeastMove.f
 repeat' (with_reducible first|exact ih0 ..|exact impl_Road_canGuard.mono ..|exact impl_isGuarded.mono ..|exact LeO.refl _|exact LeO.none _|refine LeO.ite ?_ ?_|refine LeO.bind ?_ (fun _=>?_))
set_option maxHeartbeats 8000000 in
set_option maxRecDepth 100000 in
theorem impl_LeastMove.calls (k:Nat) (a0_0:Int) (a0_1:Bool) (A1:Option Addr) (c1:Nat) (l1:List (S58)) (r1:Int) (r2:Bool) (w:World) (hr1:Kd.C k58 w A1 l1.length l1) (hc1:l1.length≤c1) (h:impl_LeastMove.f k a0_0 a0_1 l1=some (r1,r2)):
  Calls Try.prog 22 #[.agg #[.int .i64 a0_0,.bool a0_1],.slice A1 l1.length c1] w fun e w'=>e= .returned (.tuple #[.int .i64 r1,.bool r2])∧Below w.heap.size w w':=by
 have HR1:=Aside0.mk hr1
 have HC1:=Aside0.mk hc1
 clear hr1 hc1
 have HB:=Aside0.mk (Below.refl w.heap.size w)
 unfold impl_LeastMove.f at h
 have H:=h
 clear h
 obtain⟨t201,A3,H⟩:=bd H;(try dsimp only at H)
 by_cases c4:t201=true
 rotate_left
 ·replace c4:=Bool.eq_false_iff.mpr c4
  subst c4
  rw[if_neg (show ¬(false=true)by decide)]at H
  simp only[Option.some.injEq,Prod.mk.injEq]at H
  obtain⟨rfl,rfl⟩:=H
  go_enter Try.func22,Try.ntmps22
  go_wp2_with (first|(refine bx 2 #[.int .i64 a0_0,.bool a0_1] 27 ?_;intro gb200 hg w16 hbox hb;have BK200:=ak hbox;have GE200:=gw HB hg;replace HB:=bs HB hb;clear hb hbox hg;have hcz17_0:=bc BK200 0 rfl;have hcz17_1:=bc BK200 1 rfl)|(refine gs 9 Try.func50 #[.agg #[.int .i64 a0_0,.bool a0_1],.slice A1 l1.length c1] ?_;(with_reducible refine(impl_isGuarded.calls k a0_0 a0_1 _ _ l1 false _ ?side1 ?side2 A3.out).mono ?_);(case side1=>exact cm (C_below HR1.out HB.out));(case side2=>exact HC1.out);rintro e w18 ⟨rfl,hb⟩;refine⟨_,rfl,?_⟩;replace BK200:=kb BK200 hb;replace HB:=ak (below_step (h1 HB.out GE200.out) hb);(try clear hb);(try clear hk);(try clear hi)))
  go_ret2
  exact⟨fe,h1 HB.out GE200.out⟩
 subst c4
 rw[if_pos rfl]at H
 have H':=Aside0.mk H
 clear H
 go_enter Try.func22,Try.ntmps22
 go_wp2_with (first|(refine bx 2 #[.int .i64 a0_0,.bool a0_1] 27 ?_;intro gb200 hg w5 hbox hb;have BK200:=ak hbox;have GE200:=gw HB hg;replace HB:=bs HB hb;clear hb hbox hg;have hcz6_0:=bc BK200 0 rfl;have hcz6_1:=bc BK200 1 rfl)|(refine gs 9 Try.func50 #[.agg #[.int .i64 a0_0,.bool a0_1],.slice A1 l1.length c1] ?_;(with_reducible refine(impl_isGuarded.calls k a0_0 a0_1 _ _ l1 true _ ?side1 ?side2 A3.out).mono ?_);(case side1=>exact cm (C_below HR1.out HB.out));(case side2=>exact HC1.out);rintro e w7 ⟨rfl,hb⟩;refine⟨_,rfl,?_⟩;replace BK200:=kb BK200 hb;replace HB:=ak (below_step (h1 HB.out GE200.out) hb);(try clear hb);(try clear hk);(try clear hi);have hcz8_0:=bc BK200 0 rfl))
 go_loopg [13] k (fun kq v13 w'=>∃ (x13_1:Int),v13= .int .i64 x13_1∧Aside0 (impl_LeastMove.l0 kq l1 a0_0 x13_1 a0_0 a0_1=some (r1,r2))∧Aside0 (kq≤k)∧Aside0 (w'.heap[gb200]? =some (.cells #[.int .i64 a0_0,.bool a0_1] 27 (0,0)))∧Aside0 (Below w.heap.size w w'))
 case atStart=>exact⟨(0),fd,H',⟨Nat.le_refl _⟩,⟨bm BK200.out⟩,⟨h1 HB.out GE200.out⟩⟩
 clear H'
 obtain⟨x13_1,rfl,HA,HK1,BK200,HB⟩:=hrel
 obtain _|k1:=gk;·cases HA.out
 obtain⟨H⟩:=HA
 simp only[impl_LeastMove.l0]at H
 by_cases c9:x13_1<a0_0
 rotate_left
 ·rw[if_neg c9]at H
  have c9b0:decide (x13_1<a0_0)=false:=decide_eq_false c9
  clear c9
  simp only[Option.some.injEq,Prod.mk.injEq]at H
  obtain⟨rfl,rfl⟩:=H
  go_wp2
  go_ret2
  exact⟨fe,h1 HB.out GE200.out⟩
 rw[if_pos c9]at H
 have c9b0:decide (x13_1<a0_0)=true:=decide_eq_true c9
 clear c9
 obtain⟨t202,A10,H⟩:=bd H;(try dsimp only at H)
 by_cases c11:t202=true
 ·subst c11
  rw[if_pos rfl]at H
  simp only[Option.some.injEq,Prod.mk.injEq]at H
  obtain⟨rfl,rfl⟩:=H
  have hcz12_0:=bc BK200 0 rfl
  have hcz12_1:=bc BK200 1 rfl
  go_wp2_with (first|(refine gs 19 Try.func52 #[.agg #[.int .i64 a0_0,.bool a0_1],.slice A1 l1.length c1,.int .i64 x13_1] ?_;(with_reducible refine(impl_Road_canGuard.calls k1 a0_0 a0_1 _ _ l1 x13_1 true _ ?side1 ?side2 A10.out).mono ?_);(case side1=>exact cm (C_below HR1.out HB.out));(case side2=>exact HC1.out);rintro e w13 ⟨rfl,hb⟩;refine⟨_,rfl,?_⟩;replace BK200:=kb BK200 hb;replace HB:=ak (below_step (h1 HB.out GE200.out) hb);(try clear hb);(try clear hk);(try clear hi)))
  go_ret2
  exact⟨fe,h1 HB.out GE200.out⟩
 replace c11:=Bool.eq_false_iff.mpr c11
 subst c11
 rw[if_neg (show ¬(false=true)by decide)]at H
 have H':=Aside0.mk H
 clear H
 have hcz14_0:=bc BK200 0 rfl
 have hcz14_1:=bc BK200 1 rfl
 go_wp2_with (first|(refine gs 19 Try.func52 #[.agg #[.int .i64 a0_0,.bool a0_1],.slice A1 l1.length c1,.int .i64 x13_1] ?_;(with_reducible refine(impl_Road_canGuard.calls k1 a0_0 a0_1 _ _ l1 x13_1 false _ ?side1 ?side2 A10.out).mono ?_);(case side1=>exact cm (C_below HR1.out HB.out));(case side2=>exact HC1.out);rintro e w15 ⟨rfl,hb⟩;refine⟨_,rfl,?_⟩;replace BK200:=kb BK200 hb;replace HB:=ak (below_step (h1 HB.out GE200.out) hb);(try clear hb);(try clear hk);(try clear hi)))
 go_roundg k1
 case measure=>have:=HK1.out;omega
 case rel=>exact⟨(wrap64 (x13_1+1)),fd,H',⟨by have:=HK1.out;omega⟩,⟨bm BK200.out⟩,⟨h1 HB.out GE200.out⟩⟩
def spec_l2Gap.f (a0_0:Int) (a0_1:Bool) (a1:Int) (a2:Int):Option (Int):=(spec_l1Most.f (wrap64 (a1-a2)) (wrap64 (a2-a1))).bind fun t204=>(if a0_1=true then((spec_l1Least.f t204 (wrap64 (a0_0-t204))).bind fun t205=>(some t205))else(some t204))
set_option maxHeartbeats 8000000 in
set_option maxRecDepth 100000 in
theorem spec_l2Gap.calls (a0_0:Int) (a0_1:Bool) (a1:Int) (a2:Int) (r:Int) (w:World) (h:spec_l2Gap.f a0_0 a0_1 a1 a2=some r):
  Calls Try.prog 55 #[.agg #[.int .i64 a0_0,.bool a0_1],.int .i64 a1,.int .i64 a2] w fun e w'=>e= .returned (.int .i64 r)∧Below w.heap.size w w':=by
 have HB:=Aside0.mk (Below.refl w.heap.size w)
 unfold spec_l2Gap.f at h
 have H:=h
 clear h
 obtain⟨t204,A4,H⟩:=bd H;(try dsimp only at H)
 by_cases c5:a0_1=true
 rotate_left
 ·replace c5:=Bool.eq_false_iff.mpr c5
  subst c5
  rw[if_neg (show ¬(false=true)by decide)]at H
  obtain rfl:=Option.some.inj H
  go_enter Try.func55,Try.ntmps55
  go_wp2_with (first|(refine bx 3 #[.int .i64 a0_0,.bool false] 27 ?_;intro gb203 hg w9 hbox hb;have BK203:=ak hbox;have GE203:=gw HB hg;replace HB:=bs HB hb;clear hb hbox hg)|(refine gs 14 Try.func43 #[.int .i64 (wrap64 (a1-a2)),.int .i64 (wrap64 (a2-a1))] ?_;(with_reducible refine(spec_l1Most.calls (wrap64 (a1-a2)) (wrap64 (a2-a1)) t204 _ A4.out).mono ?_);rintro e w' ⟨rfl,⟨nd,rfl⟩⟩;refine⟨_,rfl,?_⟩;have hcz10_1:=bc BK203 1 rfl))
  go_ret
  exact⟨fe,h1 HB.out GE203.out⟩
 subst c5
 rw[if_pos rfl]at H
 obtain⟨t205,A6,H⟩:=bd H;(try dsimp only at H)
 obtain rfl:=Option.some.inj H
 go_enter Try.func55,Try.ntmps55
 go_wp2_with (first|(refine bx 3 #[.int .i64 a0_0,.bool true] 27 ?_;intro gb203 hg w7 hbox hb;have BK203:=ak hbox;have GE203:=gw HB hg;replace HB:=bs HB hb;clear hb hbox hg)|(refine gs 14 Try.func43 #[.int .i64 (wrap64 (a1-a2)),.int .i64 (wrap64 (a2-a1))] ?_;(with_reducible refine(spec_l1Most.calls (wrap64 (a1-a2)) (wrap64 (a2-a1)) t204 _ A4.out).mono ?_);rintro e w' ⟨rfl,⟨nd,rfl⟩⟩;refine⟨_,rfl,?_⟩;have hcz8_0:=bc BK203 0 rfl;have hcz8_1:=bc BK203 1 rfl)|(refine gs 22 Try.func44 #[.int .i64 t204,.int .i64 (wrap64 (a0_0-t204))] ?_;(with_reducible refine(spec_l1Least.calls t204 (wrap64 (a0_0-t204)) t205 _ A6.out).mono ?_);rintro e w' ⟨rfl,⟨nd,rfl⟩⟩;refine⟨_,rfl,?_⟩))
 go_ret
 exact⟨fe,h1 HB.out GE203.out⟩
end
section
open Kd
mutual
def spec_MoveSensors.j0:Nat→List (S58)→List Int→List (S58)→Bool→Int→Bool→Option ((List (S58))× Int × Int × Bool)
 | 0,_,_,_,_,_,_=>none
 | k+1,x1,x2,x10,x26,x207000,x207001=>if x26=true then(some (x10,0,0,false))else(spec_MoveSensors.l0 k x1 x2 x10 0 0 0 x207000 x207001)
def spec_MoveSensors.l0:Nat→List (S58)→List Int→List (S58)→Int→Int→Int→Int→Bool→Option ((List (S58))× Int × Int × Bool)
 | 0,_,_,_,_,_,_,_,_=>none
 | k+1,x1,x2,x10,x11,x12,x13,x207000,x207001=>if x13<(x1.length:Int)then(if 0≤x13 then(if x13<(x2.length:Int)then((spec_l1In.f (rd x2 x13) 0 (wrap64 (x207000-1))).bind fun t212=>(if t212=true then((spec_l2Gap.f x207000 x207001 ((rd_T58 x1 x13).f0) (rd x2 x13)).bind fun t215=>((spec_l1Most.f x11 t215).bind fun t216=>(if x10.length<8796093022208 then(spec_MoveSensors.l0 k x1 x2 (x10++[(⟨rd x2 x13,(rd_T58 x1 x13).f1⟩:S58)]) t216 (wrap64 (x12+t215)) (wrap64 (x13+1)) x207000 x207001)else(none))))else(some ((([]:List (S58))),0,0,false))))else(none))else(none))else(some (x10,x11,x12,true))
end
def spec_MoveSensors.f (k:Nat) (a0_0:Int) (a0_1:Bool) (l1:List (S58)) (l2:List Int):Option ((List (S58))× Int × Int × Bool):=(some (([]:List (S58)):List (S58))).bind fun y207=>((spec_l9Sensors.f k a0_0 a0_1 l1).bind fun t210=>(if t210=true then(spec_MoveSensors.j0 k l1 l2 y207 ((l2.length:Int) !=(l1.length:Int)) a0_0 a0_1)else(spec_MoveSensors.j0 k l1 l2 y207 true a0_0 a0_1)))
theorem spec_MoveSensors.mono_l:∀ k,(∀ y0 y1 y2 y3 y4 y5,LeO (spec_MoveSensors.j0 k y0 y1 y2 y3 y4 y5) (spec_MoveSensors.j0 (k+1) y0 y1 y2 y3 y4 y5))∧(∀ y0 y1 y2 y3 y4 y5 y6 y7,LeO (spec_MoveSensors.l0 k y0 y1 y2 y3 y4 y5 y6 y7) (spec_MoveSensors.l0 (k+1) y0 y1 y2 y3 y4 y5 y6 y7))
 | 0=>by
  refine⟨?_,?_⟩<;>(intros;intro r h;simp[spec_MoveSensors.j0,spec_MoveSensors.l0]at h)
 | k+1=>by
  obtain⟨ih0,ih1⟩:=spec_MoveSensors.mono_l k
  refine⟨?_,?_⟩<;>intros<;>(first|unfold spec_MoveSensors.j0|unfold spec_MoveSensors.l0)<;>(repeat' (with_reducible first|exact ih0 ..|exact ih1 ..|exact spec_l9Sensors.mono ..|exact LeO.refl _|exact LeO.none _|refine LeO.ite ?_ ?_|refine LeO.bind ?_ (fun _=>?_)))
theorem spec_MoveSensors.mono:∀ a0 a1 a2 a3 k,LeO (spec_MoveSensors.f k a0 a1 a2 a3) (spec_MoveSensors.f (k+1) a0 a1 a2 a3):=by
 intro a0 a1 a2 a3 k
 obtain⟨ih0,ih1⟩:=spec_MoveSensors.mono_l k
 unfold spec_MoveSensors.f
 repeat' (with_reducible first|exact ih0 ..|exact ih1 ..|exact spec_l9Sensors.mono ..|exact LeO.refl _|exact LeO.none _|refine LeO.ite ?_ ?_|refine LeO.bind ?_ (fun _=>?_))
def spec_MoveSensors.T8:Bool × List (List Nat × List Nat):=(true,[([],[]),([],[]),([0,1],[0,1]),([2],[2]),([],[]),([4],[4]),([5],[5]),([3,6],[3,6]),([7],[7])])
def spec_MoveSensors.B8:List Nat:=[0,0,3,7,0,16,48,127,255]
theorem spec_MoveSensors.tab8:rtab .any (opsOf Try.f23 8)=spec_MoveSensors.T8:=by kernel_rfl
theorem spec_MoveSensors.bits8:waitsOk spec_MoveSensors.T8.2 spec_MoveSensors.B8=true:=by kernel_rfl
def spec_MoveSensors.T10:Bool × List (List Nat × List Nat):=(true,[([],[]),([],[]),([],[]),([1,2],[1,2]),([3],[3]),([4],[4]),([],[]),([],[]),([6,7],[6,7]),([8],[8]),([0,5,9],[0,5,9]),([10,10,0,1,2,3,4,5,6,7,8,9,10],[10])])
def spec_MoveSensors.B10:List Nat:=[0,0,0,6,14,30,0,0,192,448,1023,2047]
theorem spec_MoveSensors.tab10:rtab .any (opsOf Try.f23 10)=spec_MoveSensors.T10:=by kernel_rfl
theorem spec_MoveSensors.bits10:waitsOk spec_MoveSensors.T10.2 spec_MoveSensors.B10=true:=by kernel_rfl
def spec_MoveSensors.T13:Bool × List (List Nat × List Nat):=(true,[([],[]),([],[]),([],[]),([1,2],[1,2]),([3],[3]),([],[]),([],[]),([5,6],[5,6]),([7],[7]),([8],[8]),([4,9],[4,9]),([10],[10]),([0,11],[0,11]),([12,12,0,1,2,3,4,5,6,7,8,9,10,11,12],[0,12])])
def spec_MoveSensors.B13:List Nat:=[0,0,0,6,14,0,0,96,224,480,1022,2046,4095,8191]
theorem spec_MoveSensors.tab13:rtab .any (opsOf Try.f23 13)=spec_MoveSensors.T13:=by kernel_rfl
theorem spec_MoveSensors.bits13:waitsOk spec_MoveSensors.T13.2 spec_MoveSensors.B13=true:=by kernel_rfl
set_option maxHeartbeats 8000000 in
set_option maxRecDepth 100000 in
theorem spec_MoveSensors.calls (k:Nat) (a0_0:Int) (a0_1:Bool) (A1:Option Addr) (c1:Nat) (l1:List (S58)) (A2:Option Addr) (c2:Nat) (l2:List Int) (r1:List (S58)) (r2:Int) (r3:Int) (r4:Bool) (w:World) (hr1:Kd.C k58 w A1 l1.length l1) (hc1:l1.length≤c1) (hr2:Kd.C (Kd.int .i64) w A2 l2.length l2) (hc2:l2.length≤c2) (h:spec_MoveSensors.f k a0_0 a0_1 l1 l2=some (r1,r2,r3,r4)):
  Calls Try.prog 23 #[.agg #[.int .i64 a0_0,.bool a0_1],.slice A1 l1.length c1,.slice A2 l2.length c2] w fun e w'=>∃ v0_:Value,e= .returned (.tuple #[v0_,.int .i64 r2,.int .i64 r3,.bool r4])∧Kd.R k58 58 w' w.heap.size (fun _=>True) v0_ r1∧Below w.heap.size w w':=by
 have HR1:=Aside0.mk hr1
 have HC1:=Aside0.mk hc1
 clear hr1 hc1
 have HR2:=Aside0.mk hr2
 clear hr2 hc2
 have HB:=Aside0.mk (Below.refl w.heap.size w)
 unfold spec_MoveSensors.f at h
 have H:=h
 clear h
 obtain⟨y207,hy207⟩:∃ y_:List (S58),y_=(([]:List (S58))):=⟨_,rfl⟩
 replace H: ((spec_l9Sensors.f k a0_0 a0_1 l1).bind fun t210=>(if t210=true then(spec_MoveSensors.j0 k l1 l2 y207 ((l2.length:Int) !=(l1.length:Int)) a0_0 a0_1)else(spec_MoveSensors.j0 k l1 l2 y207 true a0_0 a0_1)))=some (r1,r2,r3,r4):=by subst hy207;first|(with_reducible exact H)|exact H
 have Ny207:=Aside0.mk hy207
 clear hy207
 have HC4:=Aside0.mk H
 clear H
 go_enter Try.func23,Try.ntmps23
 go_upto_region 2 with(first|((with_reducible refine gate_dst (N:=3) rfl ?_);(try(refine gate_guard (by rfl) ?_;dsimp only));refine box_event ?hg (N:=3) ?hd (cs:=#[.int .i64 a0_0,.bool a0_1]) (t:=27) ?hr ?_;(case hd=>rfl);(case hg=>rfl);(case hr=>first|(go_simp;done)|(go_simp;rfl));intro gb206 hg w5 hbox hb;have BK206:=ak hbox;have GE206:=gw HB hg;replace HB:=bs HB hb;clear hb hbox hg)|((with_reducible refine gate_dst (N:=15) rfl ?_);(try(refine gate_guard (by rfl) ?_;dsimp only));refine R_lit k58 _ 58 ?hg (N:=15) ?hd (xs:=([]:List (S58))) (inner:=[]) (ok:=fun _=>True) (okp:=fun _=>True) ?hr ?hp (fun _ hk=>hk) trivial (Below.refl _ _) (Nat.le_refl _) (by simp) ?_;(case hd=>rfl);(case hg=>rfl);(case hr=>first|(go_simp;done)|(go_simp;rfl));(case hp=>exact(Reps.none _ _));intro v208 w6 ho7 hb hg_ hnew_;clear hg_ hnew_;(first|rw[←Ny207.out]at ho7|(simp only[Int.reduceToNat]at ho7;rw[←Ny207.out]at ho7));have HO209:=ak (R_lower ho7 (below_size (h1 HB.out GE206.out)));replace BK206:=kb BK206 hb;replace HB:=ak (below_step (h1 HB.out GE206.out) hb);clear hb ho7))
 (try simp only[ap])
 go_cut [26] (fun v26 wc=>∃ (kq:Nat) (x26_3:Bool),v26= .bool x26_3∧Aside0 (spec_MoveSensors.j0 kq l1 l2 y207 x26_3 a0_0 a0_1=some (r1,r2,r3,r4))∧Aside0 (kq≤k)∧Aside0 (Kd.R k58 58 wc w.heap.size (fun _=>True) v208 y207)∧Aside0 (wc.heap[gb206]? =some (.cells #[.int .i64 a0_0,.bool a0_1] 27 (0,0)))∧Aside0 (Below w.heap.size w wc))
 case first=>
  have H:=HC4.out
  clear HC4
  obtain⟨t210,A8,H⟩:=bd H;(try dsimp only at H)
  by_cases c9:t210=true
  rotate_left
  ·replace c9:=Bool.eq_false_iff.mpr c9
   subst c9
   rw[if_neg (show ¬(false=true)by decide)]at H
   have H':=Aside0.mk H
   clear H
   have hcz12_0:=bc BK206 0 rfl
   have hcz12_1:=bc BK206 1 rfl
   go_wp2_with (first|(refine gs 18 Try.func54 #[.agg #[.int .i64 a0_0,.bool a0_1],.slice A1 l1.length c1] ?_;(with_reducible refine(spec_l9Sensors.calls k a0_0 a0_1 _ _ l1 false _ ?side1 ?side2 A8.out).mono ?_);(case side1=>exact cm (C_below HR1.out HB.out));(case side2=>exact HC1.out);rintro e w13 ⟨rfl,hb⟩;refine⟨_,rfl,?_⟩;replace HO209:=rb HO209 hb;replace BK206:=kb BK206 hb;replace HB:=ak (below_step (h1 HB.out GE206.out) hb);(try clear hb);(try clear hk);(try clear hi)))
   go_meet
   case rel=>exact⟨_,(true),fd,H',⟨by first|exact Nat.le_refl _|omega⟩,⟨rm HO209.out⟩,⟨bm BK206.out⟩,⟨h1 HB.out GE206.out⟩⟩
  subst c9
  rw[if_pos rfl]at H
  have H':=Aside0.mk H
  clear H
  have hcz10_0:=bc BK206 0 rfl
  have hcz10_1:=bc BK206 1 rfl
  go_wp2_with (first|(refine gs 18 Try.func54 #[.agg #[.int .i64 a0_0,.bool a0_1],.slice A1 l1.length c1] ?_;(with_reducible refine(spec_l9Sensors.calls k a0_0 a0_1 _ _ l1 true _ ?side1 ?side2 A8.out).mono ?_);(case side1=>exact cm (C_below HR1.out HB.out));(case side2=>exact HC1.out);rintro e w11 ⟨rfl,hb⟩;refine⟨_,rfl,?_⟩;replace HO209:=rb HO209 hb;replace BK206:=kb BK206 hb;replace HB:=ak (below_step (h1 HB.out GE206.out) hb);(try clear hb);(try clear hk);(try clear hi)))
  go_meet
  case rel=>exact⟨_,(((l2.length:Int) !=(l1.length:Int))),fd,H',⟨by first|exact Nat.le_refl _|omega⟩,⟨rm HO209.out⟩,⟨bm BK206.out⟩,⟨h1 HB.out GE206.out⟩⟩
 clear HC4
 obtain⟨kq,x26_3,rfl,HA,HJ3,HO_10,BK206,HB⟩:=hcut
 obtain _|kj3:=kq;·cases HA.out
 obtain⟨H⟩:=HA
 simp only[spec_MoveSensors.j0]at H
 by_cases c14:x26_3=true
 ·subst c14
  rw[if_pos rfl]at H
  simp only[Option.some.injEq,Prod.mk.injEq]at H
  obtain⟨rfl,rfl,rfl,rfl⟩:=H
  go_wp2
  refine bodyPost_ret (results_list (rs:=[.tmp 6,.tmp 7,.tmp 8,.tmp 9]) rfl (by simp) (.tmp (.tmp (.tmp (.tmp .nil))))) rfl ?_
  exact⟨_,fe,rm HO_10.out,h1 HB.out GE206.out⟩
 replace c14:=Bool.eq_false_iff.mpr c14
 subst c14
 rw[if_neg (show ¬(false=true)by decide)]at H
 have H':=Aside0.mk H
 clear H
 go_wp2
 go_loopg [10,11,12,13] kj3 (fun kq v10 v11 v12 v13 w'=>∃ (x10_2:List (S58)) (x11_2:Int) (x12_2:Int) (x13_2:Int),v11= .int .i64 x11_2∧v12= .int .i64 x12_2∧v13= .int .i64 x13_2∧Aside0 (spec_MoveSensors.l0 kq l1 l2 x10_2 x11_2 x12_2 x13_2 a0_0 a0_1=some (r1,r2,r3,r4))∧Aside0 (kq≤kj3)∧Aside0 (Kd.R k58 58 w' w.heap.size (fun _=>True) v10 x10_2)∧Aside0 (w'.heap[gb206]? =some (.cells #[.int .i64 a0_0,.bool a0_1] 27 (0,0)))∧Aside0 (Below w.heap.size w w'))
 case atStart=>exact⟨(y207),(0),(0),(0),fd,fd,fd,H',⟨Nat.le_refl _⟩,⟨rm HO_10.out⟩,⟨bm BK206.out⟩,⟨h1 HB.out GE206.out⟩⟩
 clear H'
 obtain⟨x10_2,x11_2,x12_2,x13_2,rfl,rfl,rfl,HA,HK2,HO_10,BK206,HB⟩:=hrel
 obtain _|k2:=gk;·cases HA.out
 obtain⟨H⟩:=HA
 simp only[spec_MoveSensors.l0]at H
 by_cases c15:x13_2<(l1.length:Int)
 rotate_left
 ·rw[if_neg c15]at H
  have c15b0:decide (x13_2<(l1.length:Int))=false:=decide_eq_false c15
  clear c15
  simp only[Option.some.injEq,Prod.mk.injEq]at H
  obtain⟨rfl,rfl,rfl,rfl⟩:=H
  go_wp2
  refine bodyPost_ret (results_list (rs:=[.tmp 6,.tmp 7,.tmp 8,.tmp 9]) rfl (by simp) (.tmp (.tmp (.tmp (.tmp .nil))))) rfl ?_
  exact⟨_,fe,rm HO_10.out,h1 HB.out GE206.out⟩
 rw[if_pos c15]at H
 have c15b0:decide (x13_2<(l1.length:Int))=true:=decide_eq_true c15
 clear c15
 obtain⟨c16,H⟩:=gi H
 have c16b0:decide (0≤x13_2)=true:=decide_eq_true c16
 clear c16
 obtain⟨c17,H⟩:=gi H
 have c17b0:decide (x13_2<(l2.length:Int))=true:=decide_eq_true c17
 clear c17
 obtain⟨t212,A18,H⟩:=bd H;(try dsimp only at H)
 by_cases c19:t212=true
 rotate_left
 ·replace c19:=Bool.eq_false_iff.mpr c19
  subst c19
  rw[if_neg (show ¬(false=true)by decide)]at H
  generalize hy222: ([]:List (S58))=y222 at H
  have Ny222:=ak hy222.symm
  clear hy222
  simp only[Option.some.injEq,Prod.mk.injEq]at H
  obtain⟨rfl,rfl,rfl,rfl⟩:=H
  try go_wp2
  replace HO_10:=ak (R_drew HO_10.out)
  replace BK206:=ak (blk_drew BK206.out)
  replace HB:=ak (below_drew1 HB.out)
  have p211:0≤(x13_2:Int):=od
  have q211:x13_2<(l2.length:Int):=od
  obtain⟨ad211,e211,hx211_0⟩:=Kd.at_int HR2.out x13_2 p211 q211
  have hw211_0:=hx211_0
  cases e211
  replace hx211_0:=hc HB hx211_0
  replace p211:=eq_true p211
  replace q211:=eq_true q211
  refine start_ (n:=9) (S:=fun w'=>w'.cell? ⟨gb206,0,none⟩=some (.int .i64 a0_0)∧w'.cell? ⟨gb206,1,none⟩=some (.bool a0_1)∧w'.cell? (ad211.add (x13_2).toNat)=some (.int .i64 (rd l2 x13_2))) (ds:=[]) (lb 9 0) (by kernel_rfl) rfl rfl ⟨bc BK206 0 rfl,bc BK206 1 rfl,((HB.out.cell (World.block_lt_of_cell? w _ hw211_0)).trans hw211_0)⟩ (fun hHeld=>?_);refine with_tabW spec_MoveSensors.tab8 spec_MoveSensors.bits8 (fun HT_ HW_=>?_)
  generalize wr.drew=w28 at HO_10 BK206 HB hx211_0 hHeld⊢
  refine pq 0 (N:=some 34) (lb 9 1) HT_ ?_
  refine pq 1 (N:=some 35) (lb 9 3) HT_ ?_
  refine pq 2 (N:=some 36) (lb 9 7) HT_ ?_
  refine pq 4 (N:=some 38) (lb 9 23) HT_ ?_
  refine tq 3 (N:=some 37) (lb 9 31) HT_ HW_ hHeld ?_
  refine tq 5 (N:=some 39) (lb 9 63) HT_ HW_ hHeld ?_
  refine pq 6 (N:=some 40) (lb 9 127) HT_ ?_
  refine one_ (i:=7) (N:=some 41) (lb 9 255) rfl rfl (one_of HT_.out (by kernel_rfl)) (by decide) (fun K hK=>?_)
  refine goes_ Try.func42 (by kernel_rfl) rfl #[.int .i64 (rd l2 x13_2),.int .i64 0,.int .i64 (wrap64 (a0_0-1))] (by rfl) rfl rfl gl ?_
  with_reducible refine(spec_l1In.calls (rd l2 x13_2) 0 (wrap64 (a0_0-1)) false _ A18.out).mono ?_
  rintro e w' ⟨rfl,⟨nd,rfl⟩⟩
  refine⟨_,rfl,?_⟩
  refine hK.out _ _ ⟨bc BK206 0 rfl,bc BK206 1 rfl,((HB.out.cell (World.block_lt_of_cell? w _ hw211_0)).trans hw211_0)⟩ (fun hHeld=>?_)
  clear hK K
  refine norm_ (a':=?_) ?_ ?_
  rotate_left
  ·show Act.put _ (some 41) _=_
   simp only[ap]
   rfl
  refine pq 8 (N:=some 42) (lb 9 511) HT_ ?_
  refine done_ (done_of HT_.out (by kernel_rfl)) ?_
  try go_wp2_with (first|((with_reducible refine gate_dst (N:=43) rfl ?_);(try(refine gate_guard (by rfl) ?_;dsimp only));refine R_lit k58 _ 58 ?hg (N:=43) ?hd (xs:=([]:List (S58))) (inner:=[]) (ok:=fun _=>True) (okp:=fun _=>True) ?hr ?hp (fun _ hk=>hk) trivial (Below.refl _ _) (Nat.le_refl _) (by simp) ?_;(case hd=>rfl);(case hg=>rfl);(case hr=>first|(go_simp;done)|(go_simp;rfl));(case hp=>exact(Reps.none _ _));intro v223 w29 ho30 hb hg_ hnew_;clear hg_ hnew_;(first|rw[←Ny222.out]at ho30|(simp only[Int.reduceToNat]at ho30;rw[←Ny222.out]at ho30));have HO224:=ak (R_lower (R_new' ho30 (R_lt (rm HO_10.out))) (below_size (h1 HB.out GE206.out)));replace HO_10:=ak (R_elder' (rm HO_10.out) (R_base ho30) hb);replace BK206:=kb BK206 hb;replace HB:=ak (below_step (h1 HB.out GE206.out) hb);clear hb ho30))
  refine bodyPost_ret (results_list (rs:=[.tmp 6,.tmp 7,.tmp 8,.tmp 9]) rfl (by simp) (.tmp (.tmp (.tmp (.tmp .nil))))) rfl ?_
  exact⟨_,fe,rm (R_mono HO224.out (fun _ hk=>trivial)),h1 HB.out GE206.out⟩
 subst c19
 rw[if_pos rfl]at H
 obtain⟨t215,A20,H⟩:=bd H;(try dsimp only at H)
 obtain⟨t216,A21,H⟩:=bd H;(try dsimp only at H)
 obtain⟨c22,H⟩:=gi H
 have LMc22:=Aside0.mk c22
 clear c22
 generalize hy219: (x10_2++[(⟨rd l2 x13_2,(rd_T58 l1 x13_2).f1⟩:S58)]:List (S58))=y219 at H
 have Ny219:=ak hy219.symm
 clear hy219
 have H':=Aside0.mk H
 clear H
 try go_wp2
 replace HO_10:=ak (R_drew HO_10.out)
 replace BK206:=ak (blk_drew BK206.out)
 replace HB:=ak (below_drew1 HB.out)
 have p211:0≤(x13_2:Int):=od
 have q211:x13_2<(l2.length:Int):=od
 obtain⟨ad211,e211,hx211_0⟩:=Kd.at_int HR2.out x13_2 p211 q211
 have hw211_0:=hx211_0
 cases e211
 replace hx211_0:=hc HB hx211_0
 replace p211:=eq_true p211
 replace q211:=eq_true q211
 refine start_ (n:=9) (S:=fun w'=>w'.cell? ⟨gb206,0,none⟩=some (.int .i64 a0_0)∧w'.cell? ⟨gb206,1,none⟩=some (.bool a0_1)∧w'.cell? (ad211.add (x13_2).toNat)=some (.int .i64 (rd l2 x13_2))) (ds:=[]) (lb 9 0) (by kernel_rfl) rfl rfl ⟨bc BK206 0 rfl,bc BK206 1 rfl,((HB.out.cell (World.block_lt_of_cell? w _ hw211_0)).trans hw211_0)⟩ (fun hHeld=>?_);refine with_tabW spec_MoveSensors.tab8 spec_MoveSensors.bits8 (fun HT_ HW_=>?_)
 generalize wr.drew=w23 at HO_10 BK206 HB hx211_0 hHeld⊢
 refine pq 0 (N:=some 34) (lb 9 1) HT_ ?_
 refine pq 1 (N:=some 35) (lb 9 3) HT_ ?_
 refine pq 2 (N:=some 36) (lb 9 7) HT_ ?_
 refine pq 4 (N:=some 38) (lb 9 23) HT_ ?_
 refine tq 3 (N:=some 37) (lb 9 31) HT_ HW_ hHeld ?_
 refine tq 5 (N:=some 39) (lb 9 63) HT_ HW_ hHeld ?_
 refine pq 6 (N:=some 40) (lb 9 127) HT_ ?_
 refine one_ (i:=7) (N:=some 41) (lb 9 255) rfl rfl (one_of HT_.out (by kernel_rfl)) (by decide) (fun K hK=>?_)
 refine goes_ Try.func42 (by kernel_rfl) rfl #[.int .i64 (rd l2 x13_2),.int .i64 0,.int .i64 (wrap64 (a0_0-1))] (by rfl) rfl rfl gl ?_
 with_reducible refine(spec_l1In.calls (rd l2 x13_2) 0 (wrap64 (a0_0-1)) true _ A18.out).mono ?_
 rintro e w' ⟨rfl,⟨nd,rfl⟩⟩
 refine⟨_,rfl,?_⟩
 refine hK.out _ _ ⟨bc BK206 0 rfl,bc BK206 1 rfl,((HB.out.cell (World.block_lt_of_cell? w _ hw211_0)).trans hw211_0)⟩ (fun hHeld=>?_)
 clear hK K
 refine norm_ (a':=?_) ?_ ?_
 rotate_left
 ·show Act.put _ (some 41) _=_
  simp only[ap]
  rfl
 refine pq 8 (N:=some 42) (lb 9 511) HT_ ?_
 refine done_ (done_of HT_.out (by kernel_rfl)) ?_
 try go_wp2
 (try(rw[drewN_self w23];generalize hq_:World.drewN w23 _=w23;have n0_:Aside0 (Kd.R k58 58 w23 w.heap.size (fun _=>True) u10 x10_2):=⟨by rw[←hq_];exact(rm HO_10.out)⟩;have n1_:Aside0 (w23.heap[gb206]? =some (.cells #[.int .i64 a0_0,.bool a0_1] 27 (0,0))):=⟨by rw[←hq_];exact(bm BK206.out)⟩;have n2_:Aside0 (Below w.heap.size w w23):=⟨by rw[←hq_];exact(h1 HB.out GE206.out)⟩;clear HO_10 BK206 HB hq_;have HO_10:=n0_;have BK206:=n1_;have HB:=n2_;clear n0_ n1_ n2_))
 replace HO_10:=ak (R_drew HO_10.out)
 replace BK206:=ak (blk_drew BK206.out)
 replace HB:=ak (below_drew1 HB.out)
 have p213:0≤(x13_2:Int):=od
 have q213:x13_2<(l1.length:Int):=od
 obtain⟨ad213,e213,hx213_0,hx213_1⟩:=at_T58 HR1.out x13_2 p213 q213
 have hw213_1:=hx213_1
 have hw213_0:=hx213_0
 cases e213
 replace hx213_0:=hc HB hx213_0
 replace hx213_1:=hc HB hx213_1
 replace p213:=eq_true p213
 replace q213:=eq_true q213
 have p214:0≤(x13_2:Int):=od
 have q214:x13_2<(l2.length:Int):=od
 obtain⟨ad214,e214,hx214_0⟩:=Kd.at_int HR2.out x13_2 p214 q214
 have hw214_0:=hx214_0
 obtain rfl:ad211=ad214:=(by injection e214)
 replace hx214_0:=hc HB hx214_0
 replace p214:=eq_true p214
 replace q214:=eq_true q214
 refine start_ (n:=12) (S:=fun w'=>w'.cell? ⟨gb206,0,none⟩=some (.int .i64 a0_0)∧w'.cell? ⟨gb206,1,none⟩=some (.bool a0_1)∧w'.cell? (ad213.add ((x13_2).toNat*2))=some (.int .i64 ((rd_T58 l1 x13_2).f0))∧w'.cell? ⟨(ad213.add ((x13_2).toNat*2)).block,(ad213.add ((x13_2).toNat*2)).off+1,none⟩=some (.int .i64 ((rd_T58 l1 x13_2).f1))∧w'.cell? (ad211.add (x13_2).toNat)=some (.int .i64 (rd l2 x13_2))) (ds:=[]) (lb 12 0) (by kernel_rfl) rfl rfl ⟨bc BK206 0 rfl,bc BK206 1 rfl,((HB.out.cell (World.block_lt_of_cell? w _ hw213_0)).trans hw213_0),((HB.out.cell (World.block_lt_of_cell? w _ hw213_1)).trans hw213_1),((HB.out.cell (World.block_lt_of_cell? w _ hw214_0)).trans hw214_0)⟩ (fun hHeld=>?_);refine with_tabW spec_MoveSensors.tab10 spec_MoveSensors.bits10 (fun HT_ HW_=>?_)
 generalize w23.drew=w24 at HO_10 BK206 HB hx213_0 hx213_1 hx214_0 hHeld⊢
 refine pq 1 (N:=some 45) (lb 12 2) HT_ ?_
 refine pq 2 (N:=some 46) (lb 12 6) HT_ ?_
 refine pq 3 (N:=some 47) (lb 12 14) HT_ ?_
 refine pq 4 (N:=some 48) (lb 12 30) HT_ ?_
 refine pq 6 (N:=some 50) (lb 12 94) HT_ ?_
 refine pq 7 (N:=some 51) (lb 12 222) HT_ ?_
 refine pq 8 (N:=some 52) (lb 12 478) HT_ ?_
 refine tq 0 (N:=some 44) (lb 12 479) HT_ HW_ hHeld ?_
 refine tq 5 (N:=some 49) (lb 12 511) HT_ HW_ hHeld ?_
 refine tq 9 (N:=some 53) (lb 12 1023) HT_ HW_ hHeld ?_
 refine one_ (i:=10) (N:=some 54) (lb 12 2047) rfl rfl (one_of HT_.out (by kernel_rfl)) (by decide) (fun K hK=>?_)
 refine goes_ Try.func55 (by kernel_rfl) rfl #[.agg #[.int .i64 a0_0,.bool a0_1],.int .i64 ((rd_T58 l1 x13_2).f0),.int .i64 (rd l2 x13_2)] (by rfl) rfl rfl gl ?_
 with_reducible refine(spec_l2Gap.calls a0_0 a0_1 ((rd_T58 l1 x13_2).f0) (rd l2 x13_2) t215 _ A20.out).mono ?_
 rintro e w25 ⟨rfl,hb⟩
 refine⟨_,rfl,?_⟩
 replace HO_10:=rb HO_10 hb
 replace BK206:=kb BK206 hb
 replace HB:=ak (below_step (h1 HB.out GE206.out) hb)
 (try clear hb)
 (try clear hb2)
 (try clear hk)
 (try clear hi)
 refine hK.out _ _ ⟨bc BK206 0 rfl,bc BK206 1 rfl,((HB.out.cell (World.block_lt_of_cell? w _ hw213_0)).trans hw213_0),((HB.out.cell (World.block_lt_of_cell? w _ hw213_1)).trans hw213_1),((HB.out.cell (World.block_lt_of_cell? w _ hw214_0)).trans hw214_0)⟩ (fun hHeld=>?_)
 clear hK K
 refine norm_ (a':=?_) ?_ ?_
 rotate_left
 ·show Act.put _ (some 54) _=_
  simp only[ap]
  rfl
 refine pq 11 (N:=some 14) (lb 12 4095) HT_ ?_
 refine done_ (done_of HT_.out (by kernel_rfl)) ?_
 try go_wp2_with (first|(refine gs 57 Try.func43 #[.int .i64 x11_2,.int .i64 t215] ?_;(with_reducible refine(spec_l1Most.calls x11_2 t215 t216 _ A21.out).mono ?_);rintro e w' ⟨rfl,⟨nd,rfl⟩⟩;refine⟨_,rfl,?_⟩))
 (try(rw[drewN_self w25];generalize hq_:World.drewN w25 _=w25;have n0_:Aside0 (Kd.R k58 58 w25 w.heap.size (fun _=>True) u10 x10_2):=⟨by rw[←hq_];exact(rm HO_10.out)⟩;have n1_:Aside0 (w25.heap[gb206]? =some (.cells #[.int .i64 a0_0,.bool a0_1] 27 (0,0))):=⟨by rw[←hq_];exact(bm BK206.out)⟩;have n2_:Aside0 (Below w.heap.size w w25):=⟨by rw[←hq_];exact(h1 HB.out GE206.out)⟩;clear HO_10 BK206 HB hq_;have HO_10:=n0_;have BK206:=n1_;have HB:=n2_;clear n0_ n1_ n2_))
 replace HO_10:=ak (R_drew HO_10.out)
 replace BK206:=ak (blk_drew BK206.out)
 replace HB:=ak (below_drew1 HB.out)
 have p217:0≤(x13_2:Int):=od
 have q217:x13_2<(l2.length:Int):=od
 obtain⟨ad217,e217,hx217_0⟩:=Kd.at_int HR2.out x13_2 p217 q217
 have hw217_0:=hx217_0
 obtain rfl:ad211=ad217:=(by injection e217)
 replace hx217_0:=hc HB hx217_0
 replace p217:=eq_true p217
 replace q217:=eq_true q217
 have p218:0≤(x13_2:Int):=od
 have q218:x13_2<(l1.length:Int):=od
 obtain⟨ad218,e218,hx218_0,hx218_1⟩:=at_T58 HR1.out x13_2 p218 q218
 have hw218_1:=hx218_1
 have hw218_0:=hx218_0
 obtain rfl:ad213=ad218:=(by injection e218)
 replace hx218_0:=hc HB hx218_0
 replace hx218_1:=hc HB hx218_1
 replace p218:=eq_true p218
 replace q218:=eq_true q218
 refine start_ (n:=14) (S:=fun w'=>w'.cell? (ad211.add (x13_2).toNat)=some (.int .i64 (rd l2 x13_2))∧w'.cell? (ad213.add ((x13_2).toNat*2))=some (.int .i64 ((rd_T58 l1 x13_2).f0))∧w'.cell? ⟨(ad213.add ((x13_2).toNat*2)).block,(ad213.add ((x13_2).toNat*2)).off+1,none⟩=some (.int .i64 ((rd_T58 l1 x13_2).f1))) (ds:=[]) (lb 14 0) (by kernel_rfl) rfl rfl ⟨((HB.out.cell (World.block_lt_of_cell? w _ hw217_0)).trans hw217_0),((HB.out.cell (World.block_lt_of_cell? w _ hw218_0)).trans hw218_0),((HB.out.cell (World.block_lt_of_cell? w _ hw218_1)).trans hw218_1)⟩ (fun hHeld=>?_);refine with_tabW spec_MoveSensors.tab13 spec_MoveSensors.bits13 (fun HT_ HW_=>?_)
 generalize w25.drew=w26 at HO_10 BK206 HB hx217_0 hx218_0 hx218_1 hHeld⊢
 refine pq 0 (N:=some 61) (lb 14 1) HT_ ?_
 refine pq 1 (N:=some 62) (lb 14 3) HT_ ?_
 refine pq 2 (N:=some 63) (lb 14 7) HT_ ?_
 refine pq 3 (N:=some 64) (lb 14 15) HT_ ?_
 refine pq 5 (N:=some 66) (lb 14 47) HT_ ?_
 refine pq 6 (N:=some 67) (lb 14 111) HT_ ?_
 refine pq 7 (N:=some 68) (lb 14 239) HT_ ?_
 refine pq 8 (N:=some 69) (lb 14 495) HT_ ?_
 refine tq 4 (N:=some 65) (lb 14 511) HT_ HW_ hHeld ?_
 refine tq 9 (N:=some 70) (lb 14 1023) HT_ HW_ hHeld ?_
 refine pq 10 (N:=some 71) (lb 14 2047) HT_ ?_
 refine one_ (i:=11) (N:=some 72) (lb 14 4095) rfl rfl (one_of HT_.out (by kernel_rfl)) (by decide) (fun K hK=>?_)
 refine value_ (w1:=?_) (v:=?_) (by rfl) rfl ?_ ?_
 rotate_left 2
 ·go_simp
  constructor
  rotate_left
  ·rfl
  rfl
 refine hK.out _ _ ⟨(World.cell?_alloc_lt _ _ _ (World.block_lt_of_cell? _ _ (((HB.out.cell (World.block_lt_of_cell? w _ hw217_0)).trans hw217_0)))).trans (((HB.out.cell (World.block_lt_of_cell? w _ hw217_0)).trans hw217_0)),(World.cell?_alloc_lt _ _ _ (World.block_lt_of_cell? _ _ (((HB.out.cell (World.block_lt_of_cell? w _ hw218_0)).trans hw218_0)))).trans (((HB.out.cell (World.block_lt_of_cell? w _ hw218_0)).trans hw218_0)),(World.cell?_alloc_lt _ _ _ (World.block_lt_of_cell? _ _ (((HB.out.cell (World.block_lt_of_cell? w _ hw218_1)).trans hw218_1)))).trans (((HB.out.cell (World.block_lt_of_cell? w _ hw218_1)).trans hw218_1))⟩ (fun hHeld=>?_)
 clear hK K
 refine norm_ (a':=?_) ?_ ?_
 rotate_left
 ·show Act.put _ (some 72) _=_
  simp only[ap]
  rfl
 refine one_ (i:=12) (N:=some 73) (lb 14 8191) rfl rfl (one_of HT_.out (by kernel_rfl)) (by decide) (fun K hK=>?_)
 refine R_append_step k58 (w0:=w) w.heap.size (by rfl) (.tmp 61) (.tmp 72) 36 58 (.agg #[(.int .i64 0),(.int .i64 0)]) 16 rfl Try.underlying36 info58 rfl (by decide) (by omega) u10 x10_2 (⟨rd l2 x13_2,(rd_T58 l1 x13_2).f1⟩:S58) [.int .i64 (rd l2 x13_2),.int .i64 ((rd_T58 l1 x13_2).f1)] (fun _=>True) (fun _=>False) rfl rfl ?aP (fun _ hk=>hk.elim) ?aF ?aO ?aB ?aS ?aL ?_
 (case aP=>exact k58_mkM _ _ _ (⟨rd l2 x13_2,(rd_T58 l1 x13_2).f1⟩:S58))
 (case aB=>exact(h1 HB.out GE206.out))
 (case aF=>exact(fun _ _=>trivial))
 (case aO=>exact(rm HO_10.out))
 (case aS=>exact(below_size (h1 HB.out GE206.out)))
 (case aL=>have:=LMc22.out;omega)
 intro v220 w27 ho hb hg hat
 rw[←Ny219.out]at ho
 replace BK206:=ak (blk_grown (g:=gb206) (o:=.cells #[.int .i64 a0_0,.bool a0_1] 27 (0,0)) (bm BK206.out) hg (R_ne HO_10.out BK206.out (by decide)))
 replace HB:=ak hb
 have HO221:=ak ho
 clear HO_10
 clear ho hb hg hat
 refine hK.out _ _ ⟨((HB.out.cell (World.block_lt_of_cell? w _ hw217_0)).trans hw217_0),((HB.out.cell (World.block_lt_of_cell? w _ hw218_0)).trans hw218_0),((HB.out.cell (World.block_lt_of_cell? w _ hw218_1)).trans hw218_1)⟩ (fun hHeld=>?_)
 clear hK K
 refine norm_ (a':=?_) ?_ ?_
 rotate_left
 ·show Act.put _ (some 73) _=_
  simp only[ap]
  rfl
 refine pq 13 (N:=some 10) (lb 14 16383) HT_ ?_
 refine done_ (done_of HT_.out (by kernel_rfl)) ?_
 try go_wp2
 go_roundg k2
 case measure=>have:=HJ3.out;have:=HK2.out;omega
 case rel=>exact⟨(y219),(t216),(wrap64 (x12_2+t215)),(wrap64 (x13_2+1)),fd,fd,fd,H',⟨by have:=HJ3.out;have:=HK2.out;omega⟩,⟨rm HO221.out⟩,⟨bm BK206.out⟩,⟨h1 HB.out GE206.out⟩⟩
def impl_Road_gap.f (a0_0:Int) (a0_1:Bool) (a1:Int) (a2:Int):Option (Int):=if a0_1=true then(some (mn (mx (wrap64 (a1-a2)) (wrap64 (a2-a1))) (wrap64 (a0_0-(mx (wrap64 (a1-a2)) (wrap64 (a2-a1)))))))else(some (mx (wrap64 (a1-a2)) (wrap64 (a2-a1))))
set_option maxHeartbeats 8000000 in
set_option maxRecDepth 100000 in
theorem impl_Road_gap.calls (a0_0:Int) (a0_1:Bool) (a1:Int) (a2:Int) (r:Int) (w:World) (h:impl_Road_gap.f a0_0 a0_1 a1 a2=some r):
  Calls Try.prog 57 #[.agg #[.int .i64 a0_0,.bool a0_1],.int .i64 a1,.int .i64 a2] w fun e w'=>e= .returned (.int .i64 r)∧Below w.heap.size w w':=by
 have HB:=Aside0.mk (Below.refl w.heap.size w)
 unfold impl_Road_gap.f at h
 have H:=h
 clear h
 generalize hji4: (mx (wrap64 (a1-a2)) (wrap64 (a2-a1)))=ji4 at H
 have hji4_: (if(wrap64 (a1-a2))<(wrap64 (a2-a1))then(wrap64 (a2-a1))else(wrap64 (a1-a2)))=ji4:=hji4
 by_cases c5:a0_1=true
 rotate_left
 ·replace c5:=Bool.eq_false_iff.mpr c5
  subst c5
  rw[if_neg (show ¬(false=true)by decide)]at H
  obtain rfl:=Option.some.inj H
  go_enter Try.func57,Try.ntmps57
  go_wp2_with (first|(refine bx 3 #[.int .i64 a0_0,.bool false] 27 ?_;intro gb225 hg w9 hbox hb;have BK225:=ak hbox;have GE225:=gw HB hg;replace HB:=bs HB hb;clear hb hbox hg;have hcz10_1:=bc BK225 1 rfl))
  go_ret
  exact⟨by first|rfl|(simp[errW_none,errW_some]<;>rfl)|(simp only[←hji4];first|rfl|(simp[errW_none,errW_some]<;>rfl))|(simp[*,errW_none,errW_some]<;>rfl),h1 HB.out GE225.out⟩
 subst c5
 rw[if_pos rfl]at H
 generalize hji6: (mn (ji4) (wrap64 (a0_0-(ji4))))=ji6 at H
 have hji6_: (if(wrap64 (a0_0-(ji4)))<(ji4)then(wrap64 (a0_0-(ji4)))else(ji4))=ji6:=hji6
 obtain rfl:=Option.some.inj H
 go_enter Try.func57,Try.ntmps57
 go_wp2_with (first|(refine bx 3 #[.int .i64 a0_0,.bool true] 27 ?_;intro gb225 hg w7 hbox hb;have BK225:=ak hbox;have GE225:=gw HB hg;replace HB:=bs HB hb;clear hb hbox hg;have hcz8_0:=bc BK225 0 rfl;have hcz8_1:=bc BK225 1 rfl))
 go_ret
 exact⟨by first|rfl|(simp[errW_none,errW_some]<;>rfl)|(simp only[←hji4,←hji6];first|rfl|(simp[errW_none,errW_some]<;>rfl))|(simp[*,errW_none,errW_some]<;>rfl),h1 HB.out GE225.out⟩
end
section
open Kd
mutual
def impl_MoveSensors.j0:Nat→List (S58)→List Int→Bool→Int→Bool→Option ((List (S58))× Int × Int × Bool)
 | 0,_,_,_,_,_=>none
 | k+1,x1,x2,x32,x227000,x227001=>if x32=true then(some (([]:List (S58)),0,0,false))else(impl_MoveSensors.l0 k x1 (([]:List (S58))) 0 0 x2 (x2.length:Int) 0 x227000 x227001)
def impl_MoveSensors.l0:Nat→List (S58)→List (S58)→Int→Int→List Int→Int→Int→Int→Bool→Option ((List (S58))× Int × Int × Bool)
 | 0,_,_,_,_,_,_,_,_,_=>none
 | k+1,x1,x10,x11,x12,x34,x35,x36,x227000,x227001=>if x36<x35 then(if 0≤x36 then(if x36<(x34.length:Int)then(if x36<(x1.length:Int)then((impl_Road_gap.f x227000 x227001 ((rd_T58 x1 x36).f0) (rd x34 x36)).bind fun t234=>(if x10.length<8796093022208 then(impl_MoveSensors.l0 k x1 (x10++[(⟨rd x34 x36,(rd_T58 x1 x36).f1⟩:S58)]) (mx x11 t234) (wrap64 (x12+t234)) x34 x35 (wrap64 (x36+1)) x227000 x227001)else(none)))else(none))else(none))else(none))else(some (x10,x11,x12,true))
end
def impl_MoveSensors.f (k:Nat) (a0_0:Int) (a0_1:Bool) (l1:List (S58)) (l2:List Int):Option ((List (S58))× Int × Int × Bool):=(impl_isGuarded.f k a0_0 a0_1 l1).bind fun t227=>(if t227=true then(if(l2.length:Int)=(l1.length:Int)then((impl_Road_has.f k a0_0 a0_1 l2).bind fun t228=>(impl_MoveSensors.j0 k l1 l2 (!t228) a0_0 a0_1))else(impl_MoveSensors.j0 k l1 l2 true a0_0 a0_1))else(impl_MoveSensors.j0 k l1 l2 true a0_0 a0_1))
theorem impl_MoveSensors.mono_l:∀ k,(∀ y0 y1 y2 y3 y4,LeO (impl_MoveSensors.j0 k y0 y1 y2 y3 y4) (impl_MoveSensors.j0 (k+1) y0 y1 y2 y3 y4))∧(∀ y0 y1 y2 y3 y4 y5 y6 y7 y8,LeO (impl_MoveSensors.l0 k y0 y1 y2 y3 y4 y5 y6 y7 y8) (impl_MoveSensors.l0 (k+1) y0 y1 y2 y3 y4 y5 y6 y7 y8))
 | 0=>by
  refine⟨?_,?_⟩<;>(intros;intro r h;simp[impl_MoveSensors.j0,impl_MoveSensors.l0]at h)
 | k+1=>by
  obtain⟨ih0,ih1⟩:=impl_MoveSensors.mono_l k
  refine⟨?_,?_⟩<;>intros<;>(first|unfold impl_MoveSensors.j0|unfold impl_MoveSensors.l0)<;>(repeat' (with_reducible first|exact ih0 ..|exact ih1 ..|exact impl_Road_has.mono ..|exact impl_isGuarded.mono ..|exact LeO.refl _|exact LeO.none _|refine LeO.ite ?_ ?_|refine LeO.bind ?_ (fun _=>?_)))
theorem impl_MoveSensors.mono:∀ a0 a1 a2 a3 k,LeO (impl_MoveSensors.f k a0 a1 a2 a3) (impl_MoveSensors.f (k+1) a0 a1 a2 a3):=by
 intro a0 a1 a2 a3 k
 obtain⟨ih0,ih1⟩:=impl_MoveSensors.mono_l k
 unfold impl_MoveSensors.f
 repeat' (with_reducible first|exact ih0 ..|exact ih1 ..|exact impl_Road_has.mono ..|exact impl_isGuarded.mono ..|exact LeO.refl _|exact LeO.none _|refine LeO.ite ?_ ?_|refine LeO.bind ?_ (fun _=>?_))
def impl_MoveSensors.T7:Bool × List (List Nat × List Nat):=(true,[([],[]),([],[]),([],[]),([1,2],[1,2]),([3],[3]),([4],[4]),([],[]),([0,5,6],[0,5,6]),([7,7,0,1,2,3,4,5,6,7],[7])])
def impl_MoveSensors.B7:List Nat:=[0,0,0,6,14,30,0,127,255]
theorem impl_MoveSensors.tab7:rtab .any (opsOf Try.f25 7)=impl_MoveSensors.T7:=by kernel_rfl
theorem impl_MoveSensors.bits7:waitsOk impl_MoveSensors.T7.2 impl_MoveSensors.B7=true:=by kernel_rfl
set_option maxHeartbeats 8000000 in
set_option maxRecDepth 100000 in
theorem impl_MoveSensors.calls (k:Nat) (a0_0:Int) (a0_1:Bool) (A1:Option Addr) (c1:Nat) (l1:List (S58)) (A2:Option Addr) (c2:Nat) (l2:List Int) (r1:List (S58)) (r2:Int) (r3:Int) (r4:Bool) (w:World) (hr1:Kd.C k58 w A1 l1.length l1) (hc1:l1.length≤c1) (hr2:Kd.C (Kd.int .i64) w A2 l2.length l2) (hc2:l2.length≤c2) (h:impl_MoveSensors.f k a0_0 a0_1 l1 l2=some (r1,r2,r3,r4)):
  Calls Try.prog 25 #[.agg #[.int .i64 a0_0,.bool a0_1],.slice A1 l1.length c1,.slice A2 l2.length c2] w fun e w'=>∃ v0_:Value,e= .returned (.tuple #[v0_,.int .i64 r2,.int .i64 r3,.bool r4])∧Kd.R k58 58 w' w.heap.size (fun _=>True) v0_ r1∧Below w.heap.size w w':=by
 have HR1:=Aside0.mk hr1
 have HC1:=Aside0.mk hc1
 clear hr1 hc1
 have HR2:=Aside0.mk hr2
 have HC2:=Aside0.mk hc2
 clear hr2 hc2
 have HB:=Aside0.mk (Below.refl w.heap.size w)
 unfold impl_MoveSensors.f at h
 have H:=h
 clear h
 have HC4:=Aside0.mk H
 clear H
 go_enter Try.func25,Try.ntmps25
 go_upto_region 1 with(first|((with_reducible refine gate_dst (N:=3) rfl ?_);(try(refine gate_guard (by rfl) ?_;dsimp only));refine box_event ?hg (N:=3) ?hd (cs:=#[.int .i64 a0_0,.bool a0_1]) (t:=27) ?hr ?_;(case hd=>rfl);(case hg=>rfl);(case hr=>first|(go_simp;done)|(go_simp;rfl));intro gb226 hg w5 hbox hb;have BK226:=ak hbox;have GE226:=gw HB hg;replace HB:=bs HB hb;clear hb hbox hg))
 (try simp only[ap])
 go_cut [32] (fun v32 wc=>∃ (kq:Nat) (x32_3:Bool),v32= .bool x32_3∧Aside0 (impl_MoveSensors.j0 kq l1 l2 x32_3 a0_0 a0_1=some (r1,r2,r3,r4))∧Aside0 (kq≤k)∧Aside0 (wc.heap[gb226]? =some (.cells #[.int .i64 a0_0,.bool a0_1] 27 (0,0)))∧Aside0 (Below w.heap.size w wc))
 case first=>
  have H:=HC4.out
  clear HC4
  obtain⟨t227,A6,H⟩:=bd H;(try dsimp only at H)
  by_cases c7:t227=true
  rotate_left
  ·replace c7:=Bool.eq_false_iff.mpr c7
   subst c7
   rw[if_neg (show ¬(false=true)by decide)]at H
   have H':=Aside0.mk H
   clear H
   have hcz16_0:=bc BK226 0 rfl
   have hcz16_1:=bc BK226 1 rfl
   go_wp2_with (first|(refine gs 18 Try.func50 #[.agg #[.int .i64 a0_0,.bool a0_1],.slice A1 l1.length c1] ?_;(with_reducible refine(impl_isGuarded.calls k a0_0 a0_1 _ _ l1 false _ ?side1 ?side2 A6.out).mono ?_);(case side1=>exact cm (C_below HR1.out HB.out));(case side2=>exact HC1.out);rintro e w17 ⟨rfl,hb⟩;refine⟨_,rfl,?_⟩;replace BK226:=kb BK226 hb;replace HB:=ak (below_step (h1 HB.out GE226.out) hb);(try clear hb);(try clear hk);(try clear hi)))
   go_meet
   case rel=>exact⟨_,(true),fd,H',⟨by first|exact Nat.le_refl _|omega⟩,⟨bm BK226.out⟩,⟨h1 HB.out GE226.out⟩⟩
  subst c7
  rw[if_pos rfl]at H
  by_cases c8: (l2.length:Int)=(l1.length:Int)
  rotate_left
  ·rw[if_neg c8]at H
   have c8b0: ((l2.length:Int)==(l1.length:Int))=false:=beq_eq_false_iff_ne.mpr c8
   have c8b1: ((l2.length:Int) !=(l1.length:Int))=true:=bne_iff_ne.mpr c8
   have c8b2: (l2.length==l1.length)=false:=by first|simpa using c8|(simp at c8⊢;omega)
   (first|rw[c8b0]|(simp only[i64_w,i32_w];rw[c8b0])|skip)
   have H':=Aside0.mk H
   clear H
   have hcz14_0:=bc BK226 0 rfl
   have hcz14_1:=bc BK226 1 rfl
   go_wp2_with (first|(refine gs 18 Try.func50 #[.agg #[.int .i64 a0_0,.bool a0_1],.slice A1 l1.length c1] ?_;(with_reducible refine(impl_isGuarded.calls k a0_0 a0_1 _ _ l1 true _ ?side1 ?side2 A6.out).mono ?_);(case side1=>exact cm (C_below HR1.out HB.out));(case side2=>exact HC1.out);rintro e w15 ⟨rfl,hb⟩;refine⟨_,rfl,?_⟩;replace BK226:=kb BK226 hb;replace HB:=ak (below_step (h1 HB.out GE226.out) hb);(try clear hb);(try clear hk);(try clear hi)))
   go_meet
   case rel=>exact⟨_,(true),fd,H',⟨by first|exact Nat.le_refl _|omega⟩,⟨bm BK226.out⟩,⟨h1 HB.out GE226.out⟩⟩
  rw[if_pos c8]at H
  have c8b0: ((l2.length:Int)==(l1.length:Int))=true:=beq_iff_eq.mpr c8
  have c8b1: ((l2.length:Int) !=(l1.length:Int))=false:=bne_eq_false_iff_eq.mpr c8
  have c8b2: (l2.length==l1.length)=true:=by first|simpa using c8|(simp at c8⊢;omega)
  clear c8
  (first|rw[c8b0]|(simp only[i64_w,i32_w];rw[c8b0])|skip)
  obtain⟨t228,A9,H⟩:=bd H;(try dsimp only at H)
  have H':=Aside0.mk H
  clear H
  have hcz10_0:=bc BK226 0 rfl
  have hcz10_1:=bc BK226 1 rfl
  go_wp2_with (first|(refine gs 18 Try.func50 #[.agg #[.int .i64 a0_0,.bool a0_1],.slice A1 l1.length c1] ?_;(with_reducible refine(impl_isGuarded.calls k a0_0 a0_1 _ _ l1 true _ ?side1 ?side2 A6.out).mono ?_);(case side1=>exact cm (C_below HR1.out HB.out));(case side2=>exact HC1.out);rintro e w11 ⟨rfl,hb⟩;refine⟨_,rfl,?_⟩;replace BK226:=kb BK226 hb;replace HB:=ak (below_step (h1 HB.out GE226.out) hb);(try clear hb);(try clear hk);(try clear hi);have hcz12_0:=bc BK226 0 rfl;have hcz12_1:=bc BK226 1 rfl)|(go_at_call 56;(with_reducible refine(impl_Road_has.calls k a0_0 a0_1 _ _ l2 t228 _ ?side1 ?side2 A9.out).mono ?_);(case side1=>exact cm (C_below HR2.out HB.out));(case side2=>exact HC2.out);rintro e w13 ⟨rfl,hb⟩;replace BK226:=kb BK226 hb;replace HB:=ak (below_step (h1 HB.out GE226.out) hb);(try clear hb);(try clear hk);(try clear hi)))
  go_meet
  case rel=>exact⟨_,(!t228),fd,H',⟨by first|exact Nat.le_refl _|omega⟩,⟨bm BK226.out⟩,⟨h1 HB.out GE226.out⟩⟩
 clear HC4
 obtain⟨kq,x32_3,rfl,HA,HJ3,BK226,HB⟩:=hcut
 obtain _|kj3:=kq;·cases HA.out
 obtain⟨H⟩:=HA
 simp only[impl_MoveSensors.j0]at H
 by_cases c18:x32_3=true
 ·subst c18
  rw[if_pos rfl]at H
  simp only[Option.some.injEq,Prod.mk.injEq]at H
  obtain⟨rfl,rfl,rfl,rfl⟩:=H
  go_wp2
  refine bodyPost_ret (results_list (rs:=[.tmp 6,.tmp 7,.tmp 8,.tmp 9]) rfl (by simp) (.tmp (.tmp (.tmp (.tmp .nil))))) rfl ?_
  exact⟨_,fe,by first|exact R_nil _ _ _ _ _|exact Kd.N_nil _ _ _ _ _|exact Kd.V_nil _ _ _ _ _|exact Kd.Q_nil _ _ _ _ _|exact Kd.S_nil _ _ _ _ _,h1 HB.out GE226.out⟩
 replace c18:=Bool.eq_false_iff.mpr c18
 subst c18
 rw[if_neg (show ¬(false=true)by decide)]at H
 generalize hy229: ([]:List (S58))=y229 at H
 have Ny229:=ak hy229.symm
 clear hy229
 have H':=Aside0.mk H
 clear H
 go_wp2_with (first|((with_reducible refine gate_dst (N:=33) rfl ?_);(try(refine gate_guard (by rfl) ?_;dsimp only));refine R_lit k58 _ 58 ?hg (N:=33) ?hd (xs:=([]:List (S58))) (inner:=[]) (ok:=fun _=>True) (okp:=fun _=>True) ?hr ?hp (fun _ hk=>hk) trivial (Below.refl _ _) (Nat.le_refl _) (by simp) ?_;(case hd=>rfl);(case hg=>rfl);(case hr=>first|(go_simp;done)|(go_simp;rfl));(case hp=>exact(Reps.none _ _));intro v230 w19 ho20 hb hg_ hnew_;clear hg_ hnew_;(first|rw[←Ny229.out]at ho20|(simp only[Int.reduceToNat]at ho20;rw[←Ny229.out]at ho20));have HO231:=ak (R_lower ho20 (below_size (h1 HB.out GE226.out)));replace BK226:=kb BK226 hb;replace HB:=ak (below_step (h1 HB.out GE226.out) hb);clear hb ho20))
 go_loopg [10,11,12,36] kj3 (fun kq v10 v11 v12 v36 w'=>∃ (x10_2:List (S58)) (x11_2:Int) (x12_2:Int) (x36_2:Int),v11= .int .i64 x11_2∧v12= .int .i64 x12_2∧v36= .int .i64 x36_2∧Aside0 (impl_MoveSensors.l0 kq l1 x10_2 x11_2 x12_2 l2 (l2.length:Int) x36_2 a0_0 a0_1=some (r1,r2,r3,r4))∧Aside0 (kq≤kj3)∧Aside0 (Kd.R k58 58 w' w.heap.size (fun _=>True) v10 x10_2)∧Aside0 (w'.heap[gb226]? =some (.cells #[.int .i64 a0_0,.bool a0_1] 27 (0,0)))∧Aside0 (Below w.heap.size w w'))
 case atStart=>exact⟨(y229),(0),(0),(0),fd,fd,fd,H',⟨Nat.le_refl _⟩,⟨rm HO231.out⟩,⟨bm BK226.out⟩,⟨h1 HB.out GE226.out⟩⟩
 clear H'
 obtain⟨x10_2,x11_2,x12_2,x36_2,rfl,rfl,rfl,HA,HK2,HO_10,BK226,HB⟩:=hrel
 obtain _|k2:=gk;·cases HA.out
 obtain⟨H⟩:=HA
 simp only[impl_MoveSensors.l0]at H
 by_cases c21:x36_2<(l2.length:Int)
 rotate_left
 ·rw[if_neg c21]at H
  have c21b0:decide (x36_2<(l2.length:Int))=false:=decide_eq_false c21
  clear c21
  simp only[Option.some.injEq,Prod.mk.injEq]at H
  obtain⟨rfl,rfl,rfl,rfl⟩:=H
  go_wp2
  refine bodyPost_ret (results_list (rs:=[.tmp 6,.tmp 7,.tmp 8,.tmp 9]) rfl (by simp) (.tmp (.tmp (.tmp (.tmp .nil))))) rfl ?_
  exact⟨_,fe,rm HO_10.out,h1 HB.out GE226.out⟩
 rw[if_pos c21]at H
 clear c21
 obtain⟨c22,H⟩:=gi H
 have c22b0:decide (0≤x36_2)=true:=decide_eq_true c22
 clear c22
 obtain⟨c23,H⟩:=gi H
 have c23b0:decide (x36_2<(l2.length:Int))=true:=decide_eq_true c23
 clear c23
 obtain⟨c24,H⟩:=gi H
 have c24b0:decide (x36_2<(l1.length:Int))=true:=decide_eq_true c24
 clear c24
 obtain⟨t234,A25,H⟩:=bd H;(try dsimp only at H)
 obtain⟨c26,H⟩:=gi H
 have LMc26:=Aside0.mk c26
 clear c26
 generalize hy236: (x10_2++[(⟨rd l2 x36_2,(rd_T58 l1 x36_2).f1⟩:S58)]:List (S58))=y236 at H
 have Ny236:=ak hy236.symm
 clear hy236
 generalize hji27: (mx x11_2 t234)=ji27 at H
 (try rw[hji27]at A25)
 have hji27_: (if x11_2<t234 then t234 else x11_2)=ji27:=hji27
 have H':=Aside0.mk H
 clear H
 have p232:0≤(x36_2:Int):=od
 have q232:x36_2<(l2.length:Int):=od
 obtain⟨ad232,e232,hx232_0⟩:=Kd.at_int HR2.out x36_2 p232 q232
 cases e232
 replace hx232_0:=hc HB hx232_0
 replace p232:=eq_true p232
 replace q232:=eq_true q232
 try go_wp2
 replace HO_10:=ak (R_drew HO_10.out)
 replace BK226:=ak (blk_drew BK226.out)
 replace HB:=ak (below_drew1 HB.out)
 have p233:0≤(x36_2:Int):=od
 have q233:x36_2<(l1.length:Int):=od
 obtain⟨ad233,e233,hx233_0,hx233_1⟩:=at_T58 HR1.out x36_2 p233 q233
 have hw233_1:=hx233_1
 have hw233_0:=hx233_0
 cases e233
 replace hx233_0:=hc HB hx233_0
 replace hx233_1:=hc HB hx233_1
 replace p233:=eq_true p233
 replace q233:=eq_true q233
 refine start_ (n:=9) (S:=fun w'=>w'.cell? ⟨gb226,0,none⟩=some (.int .i64 a0_0)∧w'.cell? ⟨gb226,1,none⟩=some (.bool a0_1)∧w'.cell? (ad233.add ((x36_2).toNat*2))=some (.int .i64 ((rd_T58 l1 x36_2).f0))∧w'.cell? ⟨(ad233.add ((x36_2).toNat*2)).block,(ad233.add ((x36_2).toNat*2)).off+1,none⟩=some (.int .i64 ((rd_T58 l1 x36_2).f1))) (ds:=[]) (lb 9 0) (by kernel_rfl) rfl rfl ⟨bc BK226 0 rfl,bc BK226 1 rfl,((HB.out.cell (World.block_lt_of_cell? w _ hw233_0)).trans hw233_0),((HB.out.cell (World.block_lt_of_cell? w _ hw233_1)).trans hw233_1)⟩ (fun hHeld=>?_);refine with_tabW impl_MoveSensors.tab7 impl_MoveSensors.bits7 (fun HT_ HW_=>?_)
 generalize wr.drew=w28 at HO_10 BK226 HB hx233_0 hx233_1 hHeld⊢
 refine pq 1 (N:=some 42) (lb 9 2) HT_ ?_
 refine pq 2 (N:=some 43) (lb 9 6) HT_ ?_
 refine pq 3 (N:=some 44) (lb 9 14) HT_ ?_
 refine pq 4 (N:=some 45) (lb 9 30) HT_ ?_
 refine pq 6 (N:=some 47) (lb 9 94) HT_ ?_
 refine tq 0 (N:=some 41) (lb 9 95) HT_ HW_ hHeld ?_
 refine tq 5 (N:=some 46) (lb 9 127) HT_ HW_ hHeld ?_
 refine one_ (i:=7) (N:=some 48) (lb 9 255) rfl rfl (one_of HT_.out (by kernel_rfl)) (by decide) (fun K hK=>?_)
 refine goes_ Try.func57 (by kernel_rfl) rfl #[.agg #[.int .i64 a0_0,.bool a0_1],.int .i64 ((rd_T58 l1 x36_2).f0),.int .i64 (rd l2 x36_2)] (by rfl) rfl rfl gl ?_
 with_reducible refine(impl_Road_gap.calls a0_0 a0_1 ((rd_T58 l1 x36_2).f0) (rd l2 x36_2) t234 _ A25.out).mono ?_
 rintro e w29 ⟨rfl,hb⟩
 refine⟨_,rfl,?_⟩
 replace HO_10:=rb HO_10 hb
 replace BK226:=kb BK226 hb
 replace HB:=ak (below_step (h1 HB.out GE226.out) hb)
 (try clear hb)
 (try clear hb2)
 (try clear hk)
 (try clear hi)
 refine hK.out _ _ ⟨bc BK226 0 rfl,bc BK226 1 rfl,((HB.out.cell (World.block_lt_of_cell? w _ hw233_0)).trans hw233_0),((HB.out.cell (World.block_lt_of_cell? w _ hw233_1)).trans hw233_1)⟩ (fun hHeld=>?_)
 clear hK K
 refine norm_ (a':=?_) ?_ ?_
 rotate_left
 ·show Act.put _ (some 48) _=_
  simp only[ap]
  rfl
 refine pq 8 (N:=some 15) (lb 9 511) HT_ ?_
 refine done_ (done_of HT_.out (by kernel_rfl)) ?_
 have p235:0≤(x36_2:Int):=od
 have q235:x36_2<(l1.length:Int):=od
 obtain⟨ad235,e235,hx235_0,hx235_1⟩:=at_T58 HR1.out x36_2 p235 q235
 obtain rfl:ad233=ad235:=(by injection e235)
 replace hx235_0:=hc HB hx235_0
 replace hx235_1:=hc HB hx235_1
 replace p235:=eq_true p235
 replace q235:=eq_true q235
 try go_wp2_with (first|((with_reducible refine gate_builtin (b:=.append) (xs:=#[.tmp 49,.tmp 57]) rfl ?_);(try(refine gate_guard (by rfl) ?_;dsimp only));at_builtin;refine R_append k58 (w0:=w) w.heap.size rfl (.tmp 49) (.tmp 57) 36 58 (.agg #[(.int .i64 0),(.int .i64 0)]) 16 rfl Try.underlying36 info58 rfl (by decide) (by omega) u10 x10_2 (⟨rd l2 x36_2,(rd_T58 l1 x36_2).f1⟩:S58) [.int .i64 (rd l2 x36_2),.int .i64 ((rd_T58 l1 x36_2).f1)] (fun _=>True) (fun _=>False) rfl rfl ?aP (fun _ hk=>hk.elim) ?aF ?aO ?aB ?aS ?aL ?_;(case aP=>exact k58_mkM _ _ _ (⟨rd l2 x36_2,(rd_T58 l1 x36_2).f1⟩:S58));(case aB=>exact(h1 HB.out GE226.out));(case aF=>exact(fun _ _=>trivial));(case aO=>exact(rm HO_10.out));(case aS=>exact(below_size (h1 HB.out GE226.out)));(case aL=>have:=LMc26.out;omega);intro v237 w30 ho hb hg hat;rw[←Ny236.out]at ho;replace BK226:=ak (blk_grown (g:=gb226) (o:=.cells #[.int .i64 a0_0,.bool a0_1] 27 (0,0)) (bm BK226.out) hg (R_ne HO_10.out BK226.out (by decide)));replace HB:=ak hb;have HO238:=ak ho;clear HO_10;clear ho hb hg hat))
 go_roundg k2
 case measure=>have:=HJ3.out;have:=HK2.out;omega
 case rel=>exact⟨(y236),(ji27),(wrap64 (x12_2+t234)),(wrap64 (x36_2+1)),(by first|rfl|(simp;done)|(simp only[←hji27]<;>(first|rfl|simp))|(simp[*];done)),fd,fd,H',⟨by have:=HJ3.out;have:=HK2.out;omega⟩,⟨rm HO238.out⟩,⟨bm BK226.out⟩,⟨h1 HB.out GE226.out⟩⟩
def spec_l7Told.f (a0:Int):Option (Int × Bool):=(spec_l1Most.f a0 0).bind fun t239=>(some (t239,decide (a0≥0)))
set_option maxHeartbeats 8000000 in
set_option maxRecDepth 100000 in
theorem spec_l7Told.calls (a0:Int) (r1:Int) (r2:Bool) (w:World) (h:spec_l7Told.f a0=some (r1,r2)):
  Calls Try.prog 58 #[.int .i64 a0] w fun e w'=>e= .returned (.tuple #[.int .i64 r1,.bool r2])∧Drawn0 w w':=by
 unfold spec_l7Told.f at h
 have H:=h
 clear h
 obtain⟨t239,A2,H⟩:=bd H;(try dsimp only at H)
 simp only[Option.some.injEq,Prod.mk.injEq]at H
 obtain⟨rfl,rfl⟩:=H
 go_enter Try.func58,Try.ntmps58
 go_wp2_with (first|(refine gs 5 Try.func43 #[.int .i64 a0,.int .i64 0] ?_;(with_reducible refine(spec_l1Most.calls a0 0 t239 _ A2.out).mono ?_);rintro e w' ⟨rfl,⟨nd,rfl⟩⟩;refine⟨_,rfl,?_⟩))
 go_ret2
 exact⟨by first|rfl|(simp;done)|(simp[*];done),by repeat(first|exact Drawn0.refl _|apply Drawn0.step)⟩
end
end Go.Proofs.Ytanfamfgdgcjpaa.QFnMoves
