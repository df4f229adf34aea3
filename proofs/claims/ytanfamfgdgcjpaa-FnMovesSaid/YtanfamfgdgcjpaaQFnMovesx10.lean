/- Functions that the law FnMoves comes to, and their walks: no condition but those named. -/
import Derived.Test.YtanfamfgdgcjpaaQFnMovesx0
import Derived.Test.YtanfamfgdgcjpaaQFnMovesx3
import Derived.Test.YtanfamfgdgcjpaaQFnMovesx6
import Derived.Test.YtanfamfgdgcjpaaQFnMovesx9
import Derived.Test.YtanfamfgdgcjpaaQFnMovesx5
namespace Go.Proofs.Ytanfamfgdgcjpaa.QFnMoves
open Go.RowKit Go.Proofs.YtanfamfgdgcjpaaW.PrintWords Go.Proofs.YtanfamfgdgcjpaaW.PrintLast Go.Proofs.YtanfamfgdgcjpaaW.PrintMore Go.Proofs.Ytanfamfgdgcjpaa.Short
attribute [local go_sem] max2_int min2_int max_two min_two max_three min_three max_four min_four
set_option linter.unusedVariables false
set_option linter.unusedSimpArgs false
section
open Kd
def spec_LeastSum.f (k:Nat) (a0_0:Int) (a0_1:Bool) (l1:List (S58)):Option (Int × Bool):=(spec_l9Sensors.f k a0_0 a0_1 l1).bind fun t279=>(if t279=true then((spec_l9Sum.f k a0_0 a0_1 l1).bind fun t280=>((spec_l7Told.f t280).bind fun bt281=>(some (bt281.1,bt281.2))))else(some (0,false)))
theorem spec_LeastSum.mono:∀ a0 a1 a2 k,LeO (spec_LeastSum.f k a0 a1 a2) (spec_LeastSum.f (k+1) a0 a1 a2):=by
 intro a0 a1 a2 k
 unfold spec_LeastSum.f
 repeat' (with_reducible first|exact spec_l9Sensors.mono ..|exact spec_l9Sum.mono ..|exact LeO.refl _|exact LeO.none _|refine LeO.ite ?_ ?_|refine LeO.bind ?_ (fun _=>?_))
set_option maxHeartbeats 8000000 in
set_option maxRecDepth 100000 in
theorem spec_LeastSum.calls (k:Nat) (a0_0:Int) (a0_1:Bool) (A1:Option Addr) (c1:Nat) (l1:List (S58)) (r1:Int) (r2:Bool) (w:World) (hr1:Kd.C k58 w A1 l1.length l1) (hc1:l1.length≤c1) (h:spec_LeastSum.f k a0_0 a0_1 l1=some (r1,r2)):
  Calls Try.prog 28 #[.agg #[.int .i64 a0_0,.bool a0_1],.slice A1 l1.length c1] w fun e w'=>e= .returned (.tuple #[.int .i64 r1,.bool r2])∧Below w.heap.size w w':=by
 have HR1:=Aside0.mk hr1
 have HC1:=Aside0.mk hc1
 clear hr1 hc1
 have HB:=Aside0.mk (Below.refl w.heap.size w)
 unfold spec_LeastSum.f at h
 have H:=h
 clear h
 obtain⟨t279,A3,H⟩:=bd H;(try dsimp only at H)
 by_cases c4:t279=true
 rotate_left
 ·replace c4:=Bool.eq_false_iff.mpr c4
  subst c4
  rw[if_neg (show ¬(false=true)by decide)]at H
  simp only[Option.some.injEq,Prod.mk.injEq]at H
  obtain⟨rfl,rfl⟩:=H
  go_enter Try.func28,Try.ntmps28
  go_wp2_with (first|(refine bx 2 #[.int .i64 a0_0,.bool a0_1] 27 ?_;intro gb278 hg w12 hbox hb;have BK278:=ak hbox;have GE278:=gw HB hg;replace HB:=bs HB hb;clear hb hbox hg;have hcz13_0:=bc BK278 0 rfl;have hcz13_1:=bc BK278 1 rfl)|(refine gs 8 Try.func54 #[.agg #[.int .i64 a0_0,.bool a0_1],.slice A1 l1.length c1] ?_;(with_reducible refine(spec_l9Sensors.calls k a0_0 a0_1 _ _ l1 false _ ?side1 ?side2 A3.out).mono ?_);(case side1=>exact cm (C_below HR1.out HB.out));(case side2=>exact HC1.out);rintro e w14 ⟨rfl,hb⟩;refine⟨_,rfl,?_⟩;replace BK278:=kb BK278 hb;replace HB:=ak (below_step (h1 HB.out GE278.out) hb);(try clear hb);(try clear hk);(try clear hi)))
  go_ret2
  exact⟨fe,h1 HB.out GE278.out⟩
 subst c4
 rw[if_pos rfl]at H
 obtain⟨t280,A5,H⟩:=bd H;(try dsimp only at H)
 obtain⟨⟨t281,t282⟩,A6,H⟩:=bd H;(try dsimp only at H)
 simp only[Option.some.injEq,Prod.mk.injEq]at H
 obtain⟨rfl,rfl⟩:=H
 go_enter Try.func28,Try.ntmps28
 go_wp2_with (first|(refine bx 2 #[.int .i64 a0_0,.bool a0_1] 27 ?_;intro gb278 hg w7 hbox hb;have BK278:=ak hbox;have GE278:=gw HB hg;replace HB:=bs HB hb;clear hb hbox hg;have hcz8_0:=bc BK278 0 rfl;have hcz8_1:=bc BK278 1 rfl)|(refine gs 8 Try.func54 #[.agg #[.int .i64 a0_0,.bool a0_1],.slice A1 l1.length c1] ?_;(with_reducible refine(spec_l9Sensors.calls k a0_0 a0_1 _ _ l1 true _ ?side1 ?side2 A3.out).mono ?_);(case side1=>exact cm (C_below HR1.out HB.out));(case side2=>exact HC1.out);rintro e w9 ⟨rfl,hb⟩;refine⟨_,rfl,?_⟩;replace BK278:=kb BK278 hb;replace HB:=ak (below_step (h1 HB.out GE278.out) hb);(try clear hb);(try clear hk);(try clear hi);have hcz10_0:=bc BK278 0 rfl;have hcz10_1:=bc BK278 1 rfl)|(refine gs 12 Try.func59 #[.agg #[.int .i64 a0_0,.bool a0_1],.slice A1 l1.length c1] ?_;(with_reducible refine(spec_l9Sum.calls k a0_0 a0_1 _ _ l1 t280 _ ?side1 ?side2 A5.out).mono ?_);(case side1=>exact cm (C_below HR1.out HB.out));(case side2=>exact HC1.out);rintro e w11 ⟨rfl,hb⟩;refine⟨_,rfl,?_⟩;replace BK278:=kb BK278 hb;replace HB:=ak (below_step (h1 HB.out GE278.out) hb);(try clear hb);(try clear hk);(try clear hi))|(refine gs 13 Try.func58 #[.int .i64 t280] ?_;(with_reducible refine(spec_l7Told.calls t280 t281 t282 _ A6.out).mono ?_);rintro e w' ⟨rfl,⟨nd,rfl⟩⟩;refine⟨_,rfl,?_⟩))
 go_ret2
 exact⟨fe,h1 HB.out GE278.out⟩
def impl_found.f (a0:Int):Option (Int × Bool):=some (mx 0 a0,decide (a0≥0))
set_option maxHeartbeats 8000000 in
set_option maxRecDepth 100000 in
theorem impl_found.calls (a0:Int) (r1:Int) (r2:Bool) (w:World) (h:impl_found.f a0=some (r1,r2)):
  Calls Try.prog 60 #[.int .i64 a0] w fun e w'=>e= .returned (.tuple #[.int .i64 r1,.bool r2])∧Below w.heap.size w w':=by
 have HB:=Aside0.mk (Below.refl w.heap.size w)
 unfold impl_found.f at h
 have H:=h
 clear h
 generalize hji2: (mx 0 a0)=ji2 at H
 (try(have hji2l:0≤ji2:=by(rw[←hji2];unfold mx;(repeat' split)<;>omega)))
 (try(have hji2m:0≤ji2:=by omega))
 have hji2_: (if 0<a0 then a0 else 0)=ji2:=hji2
 simp only[Option.some.injEq,Prod.mk.injEq]at H
 obtain⟨rfl,rfl⟩:=H
 go_enter Try.func60,Try.ntmps60
 go_wp2
 go_ret2
 exact⟨by first|rfl|(simp[errW_none,errW_some]<;>rfl)|(simp only[←hji2];first|rfl|(simp[errW_none,errW_some]<;>rfl))|(simp[*,errW_none,errW_some]<;>rfl),hm HB.out⟩
end
section
open Kd
mutual
def impl_LeastSum.l0:Nat→List (S58)→Mt→Int→Int→Int→Int→Bool→Option (Int × Bool)
 | 0,_,_,_,_,_,_,_=>none
 | k+1,x1,x6,x7,x28,x29,x284000,x284001=>if x29<x28 then(impl_LeastSum.l1 k x1 x6 x7 x29 x28 x29 (wrap64 (x284000+1)) 0 x284000 x284001)else((impl_found.f x7).bind fun bt285=>(some (bt285.1,bt285.2)))
def impl_LeastSum.l1:Nat→List (S58)→Mt→Int→Int→Int→Int→Int→Int→Int→Bool→Option (Int × Bool)
 | 0,_,_,_,_,_,_,_,_,_,_=>none
 | k+1,x1,x6,x7,x8,x28,x29,x34,x35,x284000,x284001=>if x35<x34 then((mapGet.f x6 x8 x35).bind fun bt287=>(if bt287.2=true then(if x35=x284000 then(if x7<0 then(impl_LeastSum.j2 k x1 x6 x7 x8 x35 bt287.1 x28 x29 x34 x35 true x284000 x284001)else(impl_LeastSum.j2 k x1 x6 x7 x8 x35 bt287.1 x28 x29 x34 x35 (decide (bt287.1<x7)) x284000 x284001))else(impl_LeastSum.j2 k x1 x6 x7 x8 x35 bt287.1 x28 x29 x34 x35 false x284000 x284001))else(impl_LeastSum.l1 k x1 x6 x7 x8 x28 x29 x34 (wrap64 (x35+1)) x284000 x284001)))else(impl_LeastSum.l0 k x1 x6 x7 x28 (wrap64 (x29+1)) x284000 x284001)
def impl_LeastSum.j2:Nat→List (S58)→Mt→Int→Int→Int→Int→Int→Int→Int→Int→Bool→Int→Bool→Option (Int × Bool)
 | 0,_,_,_,_,_,_,_,_,_,_,_,_,_=>none
 | k+1,x1,x6,x7,x8,x9,x10,x28,x29,x34,x35,x60,x284000,x284001=>if x60=true then(impl_LeastSum.j3 k x1 x6 x10 x8 x9 x10 x28 x29 x34 x35 x284000 x284001)else(impl_LeastSum.j3 k x1 x6 x7 x8 x9 x10 x28 x29 x34 x35 x284000 x284001)
def impl_LeastSum.j3:Nat→List (S58)→Mt→Int→Int→Int→Int→Int→Int→Int→Int→Int→Bool→Option (Int × Bool)
 | 0,_,_,_,_,_,_,_,_,_,_,_,_=>none
 | k+1,x1,x6,x7,x8,x9,x10,x28,x29,x34,x35,x284000,x284001=>impl_LeastSum.l2 k x1 x6 x7 x8 x9 x10 x28 x29 x34 x35 x1 (x1.length:Int) 0 x284000 x284001
def impl_LeastSum.l2:Nat→List (S58)→Mt→Int→Int→Int→Int→Int→Int→Int→Int→List (S58)→Int→Int→Int→Bool→Option (Int × Bool)
 | 0,_,_,_,_,_,_,_,_,_,_,_,_,_,_,_=>none
 | k+1,x1,x6,x7,x8,x9,x10,x28,x29,x34,x35,x62,x63,x64,x284000,x284001=>if x64<x63 then(if 0≤x64 then(if x64<(x62.length:Int)then(impl_LeastSum.l3 k x1 x6 x7 x8 x9 x10 x64 x28 x29 x34 x35 x62 x63 x64 x284000 0 x284000 x284001 ((rd_T58 x62 x64).f0) ((rd_T58 x62 x64).f1))else(none))else(none))else(impl_LeastSum.l1 k x1 x6 x7 x8 x28 x29 x34 (wrap64 (x35+1)) x284000 x284001)
def impl_LeastSum.l3:Nat→List (S58)→Mt→Int→Int→Int→Int→Int→Int→Int→Int→Int→List (S58)→Int→Int→Int→Int→Int→Bool→Int→Int→Option (Int × Bool)
 | 0,_,_,_,_,_,_,_,_,_,_,_,_,_,_,_,_,_,_,_,_=>none
 | k+1,x1,x6,x7,x8,x9,x10,x12,x28,x29,x34,x35,x62,x63,x64,x70,x71,x284000,x284001,x291000,x291001=>if x71<x70 then(if 0≤x12 then(if(Go.bits .and .i64 (shr .i64 x8 x12) 1)=1 then(impl_LeastSum.j6 k x1 x6 x7 x8 x9 x10 x12 x71 x28 x29 x34 x35 x62 x63 x64 x70 x71 true x284000 x284001 x291000 x291001)else(if(wrap64 (x71-x291001))>x9 then(impl_LeastSum.j6 k x1 x6 x7 x8 x9 x10 x12 x71 x28 x29 x34 x35 x62 x63 x64 x70 x71 true x284000 x284001 x291000 x291001)else(impl_LeastSum.j6 k x1 x6 x7 x8 x9 x10 x12 x71 x28 x29 x34 x35 x62 x63 x64 x70 x71 (decide ((wrap64 (x71+x291001))<x9)) x284000 x284001 x291000 x291001)))else(none))else(impl_LeastSum.l2 k x1 x6 x7 x8 x9 x10 x28 x29 x34 x35 x62 x63 (wrap64 (x64+1)) x284000 x284001)
def impl_LeastSum.j6:Nat→List (S58)→Mt→Int→Int→Int→Int→Int→Int→Int→Int→Int→Int→List (S58)→Int→Int→Int→Int→Bool→Int→Bool→Int→Int→Option (Int × Bool)
 | 0,_,_,_,_,_,_,_,_,_,_,_,_,_,_,_,_,_,_,_,_,_,_=>none
 | k+1,x1,x6,x7,x8,x9,x10,x12,x14,x28,x29,x34,x35,x62,x63,x64,x70,x71,x94,x284000,x284001,x291000,x291001=>if x94=true then(impl_LeastSum.l3 k x1 x6 x7 x8 x9 x10 x12 x28 x29 x34 x35 x62 x63 x64 x70 (wrap64 (x71+1)) x284000 x284001 x291000 x291001)else(if 0≤x12 then((impl_Road_gap.f x284000 x284001 x291000 x14).bind fun t292=>((mapGet.f x6 (Go.bits .or .i64 x8 (shl .i64 1 x12)) (mn x284000 (wrap64 ((wrap64 (x14+x291001))+1)))).bind fun bt293=>(if bt293.2=true then(if(wrap64 (x10+t292))<bt293.1 then((mapPut.f x6 (Go.bits .or .i64 x8 (shl .i64 1 x12)) (mn x284000 (wrap64 ((wrap64 (x14+x291001))+1))) (wrap64 (x10+t292))).bind fun t295=>(impl_LeastSum.l3 k x1 t295 x7 x8 x9 x10 x12 x28 x29 x34 x35 x62 x63 x64 x70 (wrap64 (x71+1)) x284000 x284001 x291000 x291001))else(impl_LeastSum.l3 k x1 x6 x7 x8 x9 x10 x12 x28 x29 x34 x35 x62 x63 x64 x70 (wrap64 (x71+1)) x284000 x284001 x291000 x291001))else((mapPut.f x6 (Go.bits .or .i64 x8 (shl .i64 1 x12)) (mn x284000 (wrap64 ((wrap64 (x14+x291001))+1))) (wrap64 (x10+t292))).bind fun t296=>(impl_LeastSum.l3 k x1 t296 x7 x8 x9 x10 x12 x28 x29 x34 x35 x62 x63 x64 x70 (wrap64 (x71+1)) x284000 x284001 x291000 x291001)))))else(none))
end
def impl_LeastSum.f (k:Nat) (a0_0:Int) (a0_1:Bool) (l1:List (S58)):Option (Int × Bool):=(impl_isGuarded.f k a0_0 a0_1 l1).bind fun t284=>(if t284=true then(impl_LeastSum.l0 k l1 mt0 (-1) (shl .i64 1 (l1.length:Int)) 0 a0_0 a0_1)else(some (0,false)))
theorem impl_LeastSum.mono_l:∀ k,(∀ y0 y1 y2 y3 y4 y5 y6,LeO (impl_LeastSum.l0 k y0 y1 y2 y3 y4 y5 y6) (impl_LeastSum.l0 (k+1) y0 y1 y2 y3 y4 y5 y6))∧(∀ y0 y1 y2 y3 y4 y5 y6 y7 y8 y9,LeO (impl_LeastSum.l1 k y0 y1 y2 y3 y4 y5 y6 y7 y8 y9) (impl_LeastSum.l1 (k+1) y0 y1 y2 y3 y4 y5 y6 y7 y8 y9))∧(∀ y0 y1 y2 y3 y4 y5 y6 y7 y8 y9 y10 y11 y12,LeO (impl_LeastSum.j2 k y0 y1 y2 y3 y4 y5 y6 y7 y8 y9 y10 y11 y12) (impl_LeastSum.j2 (k+1) y0 y1 y2 y3 y4 y5 y6 y7 y8 y9 y10 y11 y12))∧(∀ y0 y1 y2 y3 y4 y5 y6 y7 y8 y9 y10 y11,LeO (impl_LeastSum.j3 k y0 y1 y2 y3 y4 y5 y6 y7 y8 y9 y10 y11) (impl_LeastSum.j3 (k+1) y0 y1 y2 y3 y4 y5 y6 y7 y8 y9 y10 y11))∧(∀ y0 y1 y2 y3 y4 y5 y6 y7 y8 y9 y10 y11 y12 y13 y14,LeO (impl_LeastSum.l2 k y0 y1 y2 y3 y4 y5 y6 y7 y8 y9 y10 y11 y12 y13 y14) (impl_LeastSum.l2 (k+1) y0 y1 y2 y3 y4 y5 y6 y7 y8 y9 y10 y11 y12 y13 y14))∧(∀ y0 y1 y2 y3 y4 y5 y6 y7 y8 y9 y10 y11 y12 y13 y14 y15 y16 y17 y18 y19,LeO (impl_LeastSum.l3 k y0 y1 y2 y3 y4 y5 y6 y7 y8 y9 y10 y11 y12 y13 y14 y15 y16 y17 y18 y19) (impl_LeastSum.l3 (k+1) y0 y1 y2 y3 y4 y5 y6 y7 y8 y9 y10 y11 y12 y13 y14 y15 y16 y17 y18 y19))∧(∀ y0 y1 y2 y3 y4 y5 y6 y7 y8 y9 y10 y11 y12 y13 y14 y15 y16 y17 y18 y19 y20 y21,LeO (impl_LeastSum.j6 k y0 y1 y2 y3 y4 y5 y6 y7 y8 y9 y10 y11 y12 y13 y14 y15 y16 y17 y18 y19 y20 y21) (impl_LeastSum.j6 (k+1) y0 y1 y2 y3 y4 y5 y6 y7 y8 y9 y10 y11 y12 y13 y14 y15 y16 y17 y18 y19 y20 y21))
 | 0=>by
  refine⟨?_,?_,?_,?_,?_,?_,?_⟩<;>(intros;intro r h;simp[impl_LeastSum.l0,impl_LeastSum.l1,impl_LeastSum.j2,impl_LeastSum.j3,impl_LeastSum.l2,impl_LeastSum.l3,impl_LeastSum.j6]at h)
 | k+1=>by
  obtain⟨ih0,ih1,ih2,ih3,ih4,ih5,ih6⟩:=impl_LeastSum.mono_l k
  refine⟨?_,?_,?_,?_,?_,?_,?_⟩<;>intros<;>(first|unfold impl_LeastSum.l0|unfold impl_LeastSum.l1|unfold impl_LeastSum.j2|unfold impl_LeastSum.j3|unfold impl_LeastSum.l2|unfold impl_LeastSum.l3|unfold impl_LeastSum.j6)<;>(repeat' (with_reducible first|exact ih0 ..|exact ih1 ..|exact ih2 ..|exact ih3 ..|exact ih4 ..|exact ih5 ..|exact ih6 ..|exact impl_isGuarded.mono ..|exact LeO.refl _|exact LeO.none _|refine LeO.ite ?_ ?_|refine LeO.bind ?_ (fun _=>?_)))
theorem impl_LeastSum.mono:∀ a0 a1 a2 k,LeO (impl_LeastSum.f k a0 a1 a2) (impl_LeastSum.f (k+1) a0 a1 a2):=by
 intro a0 a1 a2 k
 obtain⟨ih0,ih1,ih2,ih3,ih4,ih5,ih6⟩:=impl_LeastSum.mono_l k
 unfold impl_LeastSum.f
 repeat' (with_reducible first|exact ih0 ..|exact ih1 ..|exact ih2 ..|exact ih3 ..|exact ih4 ..|exact ih5 ..|exact ih6 ..|exact impl_isGuarded.mono ..|exact LeO.refl _|exact LeO.none _|refine LeO.ite ?_ ?_|refine LeO.bind ?_ (fun _=>?_))
def impl_LeastSum.T22:Bool × List (List Nat × List Nat):=(true,[([],[]),([],[]),([1],[1]),([0,2],[0,2]),([],[]),([4],[4]),([],[]),([],[]),([7],[7]),([6,8],[6,8]),([9],[9]),([5,10],[5,10]),([3,11],[3,11]),([],[]),([13,12,0,1,2,3,4,5,6,7,8,9,10,11,12,13],[12,13])])
def impl_LeastSum.B22:List Nat:=[0,0,2,7,0,16,0,0,128,448,960,2032,4095,0,16383]
theorem impl_LeastSum.tab22:rtab .any (opsOf Try.f29 22)=impl_LeastSum.T22:=by kernel_rfl
theorem impl_LeastSum.bits22:waitsOk impl_LeastSum.T22.2 impl_LeastSum.B22=true:=by kernel_rfl
set_option maxHeartbeats 8000000 in
set_option maxRecDepth 100000 in
theorem impl_LeastSum.calls (k:Nat) (a0_0:Int) (a0_1:Bool) (A1:Option Addr) (c1:Nat) (l1:List (S58)) (r1:Int) (r2:Bool) (w:World) (hr1:Kd.C k58 w A1 l1.length l1) (hc1:l1.length≤c1) (h:impl_LeastSum.f k a0_0 a0_1 l1=some (r1,r2)):
  Calls Try.prog 29 #[.agg #[.int .i64 a0_0,.bool a0_1],.slice A1 l1.length c1] w fun e w'=>e= .returned (.tuple #[.int .i64 r1,.bool r2])∧Below w.heap.size w w':=by
 have HR1:=Aside0.mk hr1
 have HC1:=Aside0.mk hc1
 clear hr1 hc1
 have HB:=Aside0.mk (Below.refl w.heap.size w)
 unfold impl_LeastSum.f at h
 have H:=h
 clear h
 obtain⟨t284,A3,H⟩:=bd H;(try dsimp only at H)
 by_cases c4:t284=true
 rotate_left
 ·replace c4:=Bool.eq_false_iff.mpr c4
  subst c4
  rw[if_neg (show ¬(false=true)by decide)]at H
  simp only[Option.some.injEq,Prod.mk.injEq]at H
  obtain⟨rfl,rfl⟩:=H
  go_enter Try.func29,Try.ntmps29
  go_wp2_with (first|(refine bx 2 #[.int .i64 a0_0,.bool a0_1] 27 ?_;intro gb283 hg w84 hbox hb;have BK283:=ak hbox;have GE283:=gw HB hg;replace HB:=bs HB hb;clear hb hbox hg;have hcz85_0:=bc BK283 0 rfl;have hcz85_1:=bc BK283 1 rfl)|(refine gs 21 Try.func50 #[.agg #[.int .i64 a0_0,.bool a0_1],.slice A1 l1.length c1] ?_;(with_reducible refine(impl_isGuarded.calls k a0_0 a0_1 _ _ l1 false _ ?side1 ?side2 A3.out).mono ?_);(case side1=>exact cm (C_below HR1.out HB.out));(case side2=>exact HC1.out);rintro e w86 ⟨rfl,hb⟩;refine⟨_,rfl,?_⟩;replace BK283:=kb BK283 hb;replace HB:=ak (below_step (h1 HB.out GE283.out) hb);(try clear hb);(try clear hk);(try clear hi)))
  go_ret2
  exact⟨fe,h1 HB.out GE283.out⟩
 subst c4
 rw[if_pos rfl]at H
 generalize hji5: (shl .i64 1 (l1.length:Int))=ji5 at H
 (try rw[hji5]at A3)
 have hji5_: (IntKind.i64.wrap (1*2^min (l1.length:Int).toNat 64))=ji5:=hji5
 have hji5z: (l1.length:Int)≤64→(IntKind.i64.wrap (1*2^ (l1.length:Int).toNat))=ji5:=shl_small hji5
 have hji5p: (IntKind.i64.wrap (1*2^min l1.length 64))=ji5:=hji5_
 have hji5q: (l1.length:Int)≤64→(IntKind.i64.wrap (1*2^l1.length))=ji5:=hji5z
 have hji5r: (IntKind.i64.wrap (2^min l1.length 64))=ji5:=by have h_:=hji5p;rw[Int.one_mul]at h_;exact h_
 have H':=Aside0.mk H
 clear H
 go_enter Try.func29,Try.ntmps29
 go_wp2_with (first|(refine bx 2 #[.int .i64 a0_0,.bool a0_1] 27 ?_;intro gb283 hg w6 hbox hb;have BK283:=ak hbox;have GE283:=gw HB hg;replace HB:=bs HB hb;clear hb hbox hg;have hcz7_0:=bc BK283 0 rfl;have hcz7_1:=bc BK283 1 rfl)|(refine gs 21 Try.func50 #[.agg #[.int .i64 a0_0,.bool a0_1],.slice A1 l1.length c1] ?_;(with_reducible refine(impl_isGuarded.calls k a0_0 a0_1 _ _ l1 true _ ?side1 ?side2 A3.out).mono ?_);(case side1=>exact cm (C_below HR1.out HB.out));(case side2=>exact HC1.out);rintro e w8 ⟨rfl,hb⟩;refine⟨_,rfl,?_⟩;replace BK283:=kb BK283 hb;replace HB:=ak (below_step (h1 HB.out GE283.out) hb);(try clear hb);(try clear hk);(try clear hi))|((with_reducible refine gate_dst (N:=23) rfl ?_);refine map_make rfl rfl rfl ?_;intro gm hg wm hM hb;have MB:=ak hM;have GM:=ak ((by rw[hg];exact below_size (h1 HB.out GE283.out)):w.heap.size≤gm);replace HB:=ak (below_step (h1 HB.out GE283.out) hb);have NG283:=ak ((by rw[hg];exact Nat.ne_of_lt (blk_lt (g:=gb283) (o:=(.cells #[.int .i64 a0_0,.bool a0_1] 27 (0,0))) (bm BK283.out))):gb283≠gm);replace BK283:=ak (blk_below (g:=gb283) (o:=(.cells #[.int .i64 a0_0,.bool a0_1] 27 (0,0))) (bm BK283.out) hb);clear hb hM hg)|(refine map_put rfl (.tmp 23) (.tmp 24) (.const (.int .i64 0)) (.inr rfl) rfl gm mtE mt0 0 0 0 (by rfl) (by rfl) (by rfl) (by(with_reducible repeat(first|refine map_drewN ?_ _|refine map_drew ?_|refine map_alloc ?_ _));exact MB.out) put_0 ?_;intro wp hM hgr;have q0_:=Aside0.mk hM;have q1_:=Aside0.mk (below_put (h1 HB.out GE283.out) hgr GM.out);have r0_:=Aside0.mk (blk_grown (o:=(.cells #[.int .i64 a0_0,.bool a0_1] 27 (0,0))) (bm BK283.out) hgr (fun e_=>NG283.out (Option.some.inj e_)));clear MB;clear HB;clear BK283;have MB:=q0_;have HB:=q1_;have BK283:=r0_;clear q0_ q1_ r0_;clear hM hgr))
 go_loopg [7,29] k (fun kq v7 v29 w'=>∃ (x6_1:Mt) (x7_1:Int) (x29_1:Int),v7= .int .i64 x7_1∧v29= .int .i64 x29_1∧Aside0 (impl_LeastSum.l0 kq l1 x6_1 x7_1 ji5 x29_1 a0_0 a0_1=some (r1,r2))∧Aside0 (kq≤k)∧Aside0 (MapIs w' gm x6_1)∧Aside0 (w'.heap[gb283]? =some (.cells #[.int .i64 a0_0,.bool a0_1] 27 (0,0)))∧Aside0 (Below w.heap.size w w'))
 case atStart=>exact⟨(mt0),((-1)),(0),fd,fd,H',⟨Nat.le_refl _⟩,⟨by(with_reducible repeat(first|refine map_drewN ?_ _|refine map_drew ?_|refine map_alloc ?_ _));exact MB.out⟩,⟨bm BK283.out⟩,⟨h1 HB.out GE283.out⟩⟩
 clear H'
 obtain⟨x6_1,x7_1,x29_1,rfl,rfl,HA,HK1,MB,BK283,HB⟩:=hrel
 obtain _|k1:=gk;·cases HA.out
 obtain⟨H⟩:=HA
 simp only[impl_LeastSum.l0]at H
 by_cases c9:x29_1<ji5
 rotate_left
 ·rw[if_neg c9]at H
  have c9b0:decide (x29_1<ji5)=false:=decide_eq_false c9
  clear c9
  obtain⟨⟨t285,t286⟩,A82,H⟩:=bd H;(try dsimp only at H)
  simp only[Option.some.injEq,Prod.mk.injEq]at H
  obtain⟨rfl,rfl⟩:=H
  go_wp2_with (first|(refine gs 136 Try.func60 #[.int .i64 x7_1] ?_;(with_reducible refine(impl_found.calls x7_1 t285 t286 _ A82.out).mono ?_);rintro e w83 ⟨rfl,hb⟩;refine⟨_,rfl,?_⟩;have n0_:=Aside0.mk (blk_below (g:=gb283) (o:=.cells #[.int .i64 a0_0,.bool a0_1] 27 (0,0)) (bm BK283.out) hb);have mb_:=Aside0.mk (map_below (g:=gm) (m:=x6_1) (by(with_reducible repeat(first|refine map_drewN ?_ _|refine map_drew ?_|refine map_alloc ?_ _));exact MB.out) hb);have n1_:=Aside0.mk (below_step (h1 HB.out GE283.out) hb);clear BK283;clear HB;clear MB;clear mb_;have HB:=n1_;clear n0_ n1_;(try clear hb);(try clear hk);(try clear hi)))
  go_ret2
  exact⟨by first|rfl|(simp[errW_none,errW_some]<;>rfl)|(simp only[←hji5];first|rfl|(simp[errW_none,errW_some]<;>rfl))|(simp[*,errW_none,errW_some]<;>rfl),h1 HB.out GE283.out⟩
 rw[if_pos c9]at H
 have c9b0:decide (x29_1<ji5)=true:=decide_eq_true c9
 clear c9
 have H':=Aside0.mk H
 clear H
 have hcz10_0:=bc BK283 0 rfl
 go_wp2
 go_loopg [7,35] k1 (fun kq v7 v35 w'=>∃ (x6_2:Mt) (x7_2:Int) (x35_2:Int),v7= .int .i64 x7_2∧v35= .int .i64 x35_2∧Aside0 (impl_LeastSum.l1 kq l1 x6_2 x7_2 x29_1 ji5 x29_1 (wrap64 (a0_0+1)) x35_2 a0_0 a0_1=some (r1,r2))∧Aside0 (kq≤k1)∧Aside0 (MapIs w' gm x6_2)∧Aside0 (w'.heap[gb283]? =some (.cells #[.int .i64 a0_0,.bool a0_1] 27 (0,0)))∧Aside0 (Below w.heap.size w w'))
 case atStart=>exact⟨(x6_1),(x7_1),(0),fd,fd,H',⟨Nat.le_refl _⟩,⟨by(with_reducible repeat(first|refine map_drewN ?_ _|refine map_drew ?_|refine map_alloc ?_ _));exact MB.out⟩,⟨bm BK283.out⟩,⟨h1 HB.out GE283.out⟩⟩
 clear H'
 obtain⟨x6_2,x7_2,x35_2,rfl,rfl,HA,HK2,MB,BK283,HB⟩:=hrel
 obtain _|k2:=gk;·cases HA.out
 obtain⟨H⟩:=HA
 simp only[impl_LeastSum.l1]at H
 by_cases c11:x35_2<(wrap64 (a0_0+1))
 rotate_left
 ·rw[if_neg c11]at H
  have c11b0:decide (x35_2<(wrap64 (a0_0+1)))=false:=decide_eq_false c11
  clear c11
  have H':=Aside0.mk H
  clear H
  go_wp2
  go_roundg k2
  case measure=>have:=HK1.out;have:=HK2.out;omega
  case rel=>exact⟨(x6_2),(x7_2),(wrap64 (x29_1+1)),fd,fd,H',⟨by have:=HK1.out;have:=HK2.out;omega⟩,⟨by(with_reducible repeat(first|refine map_drewN ?_ _|refine map_drew ?_|refine map_alloc ?_ _));exact MB.out⟩,⟨bm BK283.out⟩,⟨h1 HB.out GE283.out⟩⟩
 rw[if_pos c11]at H
 have c11b0:decide (x35_2<(wrap64 (a0_0+1)))=true:=decide_eq_true c11
 clear c11
 obtain⟨⟨t287,t288⟩,A12,H⟩:=bd H;(try dsimp only at H)
 by_cases c13:t288=true
 rotate_left
 ·replace c13:=Bool.eq_false_iff.mpr c13
  subst c13
  rw[if_neg (show ¬(false=true)by decide)]at H
  have H':=Aside0.mk H
  clear H
  go_wp2_with (first|((with_reducible refine gate_dst (N:=43) rfl ?_);refine map_get rfl (.tmp 39) (.tmp 42) rfl gm x6_2 x29_1 x35_2 t287 false (by rfl) (by first|rfl|(simp only[List.length_drop,List.length_take];rfl)) (by(with_reducible repeat(first|refine map_drewN ?_ _|refine map_drew ?_|refine map_alloc ?_ _));exact MB.out) A12.out ?_))
  go_roundg k2
  case measure=>have:=HK1.out;have:=HK2.out;omega
  case rel=>exact⟨(x6_2),(x7_2),(wrap64 (x35_2+1)),fd,fd,H',⟨by have:=HK1.out;have:=HK2.out;omega⟩,⟨by(with_reducible repeat(first|refine map_drewN ?_ _|refine map_drew ?_|refine map_alloc ?_ _));exact MB.out⟩,⟨bm BK283.out⟩,⟨h1 HB.out GE283.out⟩⟩
 subst c13
 rw[if_pos rfl]at H
 have HC14:=Aside0.mk H
 clear H
 go_upto_region 13 with(first|((with_reducible refine gate_dst (N:=43) rfl ?_);refine map_get rfl (.tmp 39) (.tmp 42) rfl gm x6_2 x29_1 x35_2 t287 true (by rfl) (by first|rfl|(simp only[List.length_drop,List.length_take];rfl)) (by(with_reducible repeat(first|refine map_drewN ?_ _|refine map_drew ?_|refine map_alloc ?_ _));exact MB.out) A12.out ?_))
 (try simp only[ap])
 go_cut [60] (fun v60 wc=>∃ (kq:Nat) (x60_13:Bool),v60= .bool x60_13∧Aside0 (impl_LeastSum.j2 kq l1 x6_2 x7_2 x29_1 x35_2 t287 ji5 x29_1 (wrap64 (a0_0+1)) x35_2 x60_13 a0_0 a0_1=some (r1,r2))∧Aside0 (kq≤k2)∧Aside0 (MapIs wc gm x6_2)∧Aside0 (wc.heap[gb283]? =some (.cells #[.int .i64 a0_0,.bool a0_1] 27 (0,0)))∧Aside0 (Below w.heap.size w wc))
 case first=>
  have H:=HC14.out
  clear HC14
  by_cases c15:x35_2=a0_0
  rotate_left
  ·rw[if_neg c15]at H
   have c15b0: (x35_2==a0_0)=false:=beq_eq_false_iff_ne.mpr c15
   (first|rw[c15b0]|(simp only[i64_w,i32_w];rw[c15b0])|skip)
   have H':=Aside0.mk H
   clear H
   have hcz19_0:=bc BK283 0 rfl
   go_wp2
   go_meet
   case rel=>exact⟨_,(false),fd,H',⟨by first|exact Nat.le_refl _|(have:=HK1.out;have:=HK2.out;omega)⟩,⟨by(with_reducible repeat(first|refine map_drewN ?_ _|refine map_drew ?_|refine map_alloc ?_ _));exact MB.out⟩,⟨bm BK283.out⟩,⟨h1 HB.out GE283.out⟩⟩
  rw[if_pos c15]at H
  have c15b0: (x35_2==a0_0)=true:=beq_iff_eq.mpr c15
  have c15b1: (x35_2 !=a0_0)=false:=bne_eq_false_iff_eq.mpr c15
  clear c15
  (first|rw[c15b0]|(simp only[i64_w,i32_w];rw[c15b0])|skip)
  by_cases c16:x7_2<0
  ·rw[if_pos c16]at H
   have c16b0:decide (x7_2<0)=true:=decide_eq_true c16
   clear c16
   have H':=Aside0.mk H
   clear H
   have hcz17_0:=bc BK283 0 rfl
   go_wp2
   go_meet
   case rel=>exact⟨_,(true),fd,H',⟨by first|exact Nat.le_refl _|(have:=HK1.out;have:=HK2.out;omega)⟩,⟨by(with_reducible repeat(first|refine map_drewN ?_ _|refine map_drew ?_|refine map_alloc ?_ _));exact MB.out⟩,⟨bm BK283.out⟩,⟨h1 HB.out GE283.out⟩⟩
  rw[if_neg c16]at H
  have c16b0:decide (x7_2<0)=false:=decide_eq_false c16
  clear c16
  have H':=Aside0.mk H
  clear H
  have hcz18_0:=bc BK283 0 rfl
  go_wp2
  go_meet
  case rel=>exact⟨_,(decide (t287<x7_2)),fd,H',⟨by first|exact Nat.le_refl _|(have:=HK1.out;have:=HK2.out;omega)⟩,⟨by(with_reducible repeat(first|refine map_drewN ?_ _|refine map_drew ?_|refine map_alloc ?_ _));exact MB.out⟩,⟨bm BK283.out⟩,⟨h1 HB.out GE283.out⟩⟩
 clear HC14
 obtain⟨kq,x60_13,rfl,HA,HJ13,MB,BK283,HB⟩:=hcut
 obtain _|kj13:=kq;·cases HA.out
 obtain⟨H⟩:=HA
 simp only[impl_LeastSum.j2]at H
 have HC20:=Aside0.mk H
 clear H
 go_upto_if 60 with(fail)
 go_cut [7] (fun v7 wc=>∃ (kq:Nat) (x7_19:Int),v7= .int .i64 x7_19∧Aside0 (impl_LeastSum.j3 kq l1 x6_2 x7_19 x29_1 x35_2 t287 ji5 x29_1 (wrap64 (a0_0+1)) x35_2 a0_0 a0_1=some (r1,r2))∧Aside0 (kq≤kj13)∧Aside0 (MapIs wc gm x6_2)∧Aside0 (wc.heap[gb283]? =some (.cells #[.int .i64 a0_0,.bool a0_1] 27 (0,0)))∧Aside0 (Below w.heap.size w wc))
 case first=>
  have H:=HC20.out
  clear HC20
  by_cases c21:x60_13=true
  ·subst c21
   rw[if_pos rfl]at H
   have H':=Aside0.mk H
   clear H
   go_wp2
   go_meet
   case rel=>exact⟨_,(t287),fd,H',⟨by first|exact Nat.le_refl _|(have:=HK1.out;have:=HK2.out;have:=HJ13.out;omega)⟩,⟨by(with_reducible repeat(first|refine map_drewN ?_ _|refine map_drew ?_|refine map_alloc ?_ _));exact MB.out⟩,⟨bm BK283.out⟩,⟨h1 HB.out GE283.out⟩⟩
  replace c21:=Bool.eq_false_iff.mpr c21
  subst c21
  rw[if_neg (show ¬(false=true)by decide)]at H
  have H':=Aside0.mk H
  clear H
  go_wp2
  go_meet
  case rel=>exact⟨_,(x7_2),fd,H',⟨by first|exact Nat.le_refl _|(have:=HK1.out;have:=HK2.out;have:=HJ13.out;omega)⟩,⟨by(with_reducible repeat(first|refine map_drewN ?_ _|refine map_drew ?_|refine map_alloc ?_ _));exact MB.out⟩,⟨bm BK283.out⟩,⟨h1 HB.out GE283.out⟩⟩
 clear HC20
 obtain⟨kq,x7_19,rfl,HA,HJ19,MB,BK283,HB⟩:=hcut
 obtain _|kj19:=kq;·cases HA.out
 obtain⟨H⟩:=HA
 simp only[impl_LeastSum.j3]at H
 have H':=Aside0.mk H
 clear H
 go_wp2
 go_loopg [64] kj19 (fun kq v64 w'=>∃ (x6_5:Mt) (x64_5:Int),v64= .int .i64 x64_5∧Aside0 (impl_LeastSum.l2 kq l1 x6_5 x7_19 x29_1 x35_2 t287 ji5 x29_1 (wrap64 (a0_0+1)) x35_2 l1 (l1.length:Int) x64_5 a0_0 a0_1=some (r1,r2))∧Aside0 (kq≤kj19)∧Aside0 (MapIs w' gm x6_5)∧Aside0 (w'.heap[gb283]? =some (.cells #[.int .i64 a0_0,.bool a0_1] 27 (0,0)))∧Aside0 (Below w.heap.size w w'))
 case atStart=>exact⟨(x6_2),(0),fd,H',⟨Nat.le_refl _⟩,⟨by(with_reducible repeat(first|refine map_drewN ?_ _|refine map_drew ?_|refine map_alloc ?_ _));exact MB.out⟩,⟨bm BK283.out⟩,⟨h1 HB.out GE283.out⟩⟩
 clear H'
 obtain⟨x6_5,x64_5,rfl,HA,HK5,MB,BK283,HB⟩:=hrel
 obtain _|k5:=gk;·cases HA.out
 obtain⟨H⟩:=HA
 simp only[impl_LeastSum.l2]at H
 by_cases c22:x64_5<(l1.length:Int)
 rotate_left
 ·rw[if_neg c22]at H
  have c22b0:decide (x64_5<(l1.length:Int))=false:=decide_eq_false c22
  clear c22
  have H':=Aside0.mk H
  clear H
  go_wp2
  go_roundg k5
  case measure=>have:=HK1.out;have:=HK2.out;have:=HJ13.out;have:=HJ19.out;have:=HK5.out;omega
  case rel=>exact⟨(x6_5),(x7_19),(wrap64 (x35_2+1)),fd,fd,H',⟨by have:=HK1.out;have:=HK2.out;have:=HJ13.out;have:=HJ19.out;have:=HK5.out;omega⟩,⟨by(with_reducible repeat(first|refine map_drewN ?_ _|refine map_drew ?_|refine map_alloc ?_ _));exact MB.out⟩,⟨bm BK283.out⟩,⟨h1 HB.out GE283.out⟩⟩
 rw[if_pos c22]at H
 clear c22
 obtain⟨c23,H⟩:=gi H
 have c23b0:decide (0≤x64_5)=true:=decide_eq_true c23
 clear c23
 obtain⟨c24,H⟩:=gi H
 have c24b0:decide (x64_5<(l1.length:Int))=true:=decide_eq_true c24
 clear c24
 have H':=Aside0.mk H
 clear H
 have p289:0≤(x64_5:Int):=od
 have q289:x64_5<(l1.length:Int):=od
 obtain⟨ad289,e289,hx289_0,hx289_1⟩:=at_T58 HR1.out x64_5 p289 q289
 cases e289
 replace hx289_0:=hc HB hx289_0
 replace hx289_1:=hc HB hx289_1
 replace p289:=eq_true p289
 replace q289:=eq_true q289
 go_wp2_with (first|(refine bx 13 #[.int .i64 0,.int .i64 0] 58 ?_;intro gb290 hg w25 hbox hb;have n0_:=Aside0.mk (blk_below (g:=gb283) (o:=.cells #[.int .i64 a0_0,.bool a0_1] 27 (0,0)) (bm BK283.out) hb);have mb_:=Aside0.mk (map_below (g:=gm) (m:=x6_5) (by(with_reducible repeat(first|refine map_drewN ?_ _|refine map_drew ?_|refine map_alloc ?_ _));exact MB.out) hb);have n1_:=Aside0.mk (below_step (h1 HB.out GE283.out) hb);have n2_:=Aside0.mk (hbox);have n3_:=Aside0.mk ((by rw[hg];exact(below_size (h1 HB.out GE283.out)):w.heap.size≤gb290));have n4_:=Aside0.mk ((by rw[hg];exact(below_size (h1 HB.out GE283.out)):w.heap.size≤gb290));have n5_:=Aside0.mk ((by rw[hg];exact Nat.ne_of_lt (blk_lt (g:=gb283) (o:=.cells #[.int .i64 a0_0,.bool a0_1] 27 (0,0)) (bm BK283.out)):gb283≠gb290));have nm_:=Aside0.mk ((by rw[hg];exact Nat.ne_of_lt (map_lt (g:=gm) (m:=x6_5) (by(with_reducible repeat(first|refine map_drewN ?_ _|refine map_drew ?_|refine map_alloc ?_ _));exact MB.out))):gm≠gb290);have n6_:=Aside0.mk ((by rw[hg];exact Nat.ne_of_gt (blk_lt (g:=gb283) (o:=.cells #[.int .i64 a0_0,.bool a0_1] 27 (0,0)) (bm BK283.out)):gb290≠gb283));clear BK283;clear HB;have BK283:=n0_;clear MB;have MB:=mb_;clear mb_;have HB:=n1_;have BK290:=n2_;have GE290:=n4_;have NB283_290:=n5_;have NM_290:=nm_;have NGM:=Aside0.mk (Ne.symm NM_290.out);clear nm_;have NB290_283:=n6_;clear n0_ n1_ n2_ n3_ n4_ n5_ n6_;clear hb hbox hg;have hnc26:=NB283_290.out;have hcz27_0:=bc BK290 0 rfl;have hcz27_1:=bc BK290 1 rfl;have hfz27_0:=bf BK290 0;have hfz27_1:=bf BK290 1;have hcz28_0:=bc BK283 0 rfl))
 go_loopg [71] k5 (fun kq v71 w'=>∃ (x6_6:Mt) (x71_6:Int),v71= .int .i64 x71_6∧Aside0 (impl_LeastSum.l3 kq l1 x6_6 x7_19 x29_1 x35_2 t287 x64_5 ji5 x29_1 (wrap64 (a0_0+1)) x35_2 l1 (l1.length:Int) x64_5 a0_0 x71_6 a0_0 a0_1 ((rd_T58 l1 x64_5).f0) ((rd_T58 l1 x64_5).f1)=some (r1,r2))∧Aside0 (kq≤k5)∧Aside0 (MapIs w' gm x6_6)∧Aside0 (w'.heap[gb283]? =some (.cells #[.int .i64 a0_0,.bool a0_1] 27 (0,0)))∧Aside0 (w'.heap[gb290]? =some (.cells #[.int .i64 ((rd_T58 l1 x64_5).f0),.int .i64 ((rd_T58 l1 x64_5).f1)] 58 (0,0)))∧Aside0 (Below w.heap.size w w'))
 case atStart=>exact⟨(x6_5),(0),fd,H',⟨Nat.le_refl _⟩,⟨by(with_reducible repeat(first|refine map_drewN ?_ _|refine map_drew ?_|refine map_alloc ?_ _));refine map_far ?_ NM_290.out _;(with_reducible repeat(first|refine map_drewN ?_ _|refine map_drew ?_|refine map_alloc ?_ _));refine map_far ?_ NM_290.out _;(with_reducible repeat(first|refine map_drewN ?_ _|refine map_drew ?_|refine map_alloc ?_ _));exact MB.out⟩,⟨by(with_reducible repeat(first|apply blk_drewN|apply blk_drew|apply blk_alloc));refine blk_far ?_ NB283_290.out _;(with_reducible repeat(first|apply blk_drewN|apply blk_drew|apply blk_alloc));refine blk_far ?_ NB283_290.out _;exact bm BK283.out⟩,⟨by(with_reducible repeat(first|apply blk_drewN|apply blk_drew|apply blk_alloc));refine blk_put (cs:=#[.int .i64 ((rd_T58 l1 x64_5).f0),.int .i64 0]) ?_ 1 _ rfl;(with_reducible repeat(first|apply blk_drewN|apply blk_drew|apply blk_alloc));refine blk_put (cs:=#[.int .i64 0,.int .i64 0]) ?_ 0 _ rfl;exact bm BK290.out⟩,⟨h2 HB.out GE283.out GE290.out⟩⟩
 clear H'
 obtain⟨x6_6,x71_6,rfl,HA,HK6,MB,BK283,BK290,HB⟩:=hrel
 obtain _|k6:=gk;·cases HA.out
 obtain⟨H⟩:=HA
 simp only[impl_LeastSum.l3]at H
 by_cases c29:x71_6<a0_0
 rotate_left
 ·rw[if_neg c29]at H
  have c29b0:decide (x71_6<a0_0)=false:=decide_eq_false c29
  clear c29
  have H':=Aside0.mk H
  clear H
  go_wp2
  go_roundg k6
  case measure=>have:=HK1.out;have:=HK2.out;have:=HJ13.out;have:=HJ19.out;have:=HK5.out;have:=HK6.out;omega
  case rel=>exact⟨(x6_6),(wrap64 (x64_5+1)),fd,H',⟨by have:=HK1.out;have:=HK2.out;have:=HJ13.out;have:=HJ19.out;have:=HK5.out;have:=HK6.out;omega⟩,⟨by(with_reducible repeat(first|refine map_drewN ?_ _|refine map_drew ?_|refine map_alloc ?_ _));exact MB.out⟩,⟨bm BK283.out⟩,⟨h2 HB.out GE283.out GE290.out⟩⟩
 rw[if_pos c29]at H
 have c29b0:decide (x71_6<a0_0)=true:=decide_eq_true c29
 clear c29
 have HC30:=Aside0.mk H
 clear H
 go_upto_region 21 with(fail)
 go_cut [94] (fun v94 wc=>∃ (kq:Nat) (x94_29:Bool),v94= .bool x94_29∧Aside0 (impl_LeastSum.j6 kq l1 x6_6 x7_19 x29_1 x35_2 t287 x64_5 x71_6 ji5 x29_1 (wrap64 (a0_0+1)) x35_2 l1 (l1.length:Int) x64_5 a0_0 x71_6 x94_29 a0_0 a0_1 ((rd_T58 l1 x64_5).f0) ((rd_T58 l1 x64_5).f1)=some (r1,r2))∧Aside0 (kq≤k6)∧Aside0 (MapIs wc gm x6_6)∧Aside0 (wc.heap[gb283]? =some (.cells #[.int .i64 a0_0,.bool a0_1] 27 (0,0)))∧Aside0 (wc.heap[gb290]? =some (.cells #[.int .i64 ((rd_T58 l1 x64_5).f0),.int .i64 ((rd_T58 l1 x64_5).f1)] 58 (0,0)))∧Aside0 (Below w.heap.size w wc))
 case first=>
  have H:=HC30.out
  clear HC30
  obtain⟨c31,H⟩:=gi H
  clear c31
  generalize hji32: (shr .i64 x29_1 x64_5)=ji32 at H
  have hji32_: (x29_1/ 2^min x64_5.toNat 64)=ji32:=hji32
  have hji32z:x64_5≤64→(x29_1/ 2^x64_5.toNat)=ji32:=shr_small hji32
  by_cases c33: (Go.bits .and .i64 (ji32) 1)=1
  ·rw[if_pos c33]at H
   have c33b0: ((Go.bits .and .i64 (ji32) 1)==1)=true:=beq_iff_eq.mpr c33
   clear c33
   (first|rw[c33b0]|(simp only[i64_w,i32_w];rw[c33b0])|skip)
   have H':=Aside0.mk H
   clear H
   go_wp2
   go_meet
   case rel=>exact⟨_,(true),fd,H',⟨by first|exact Nat.le_refl _|(have:=HK1.out;have:=HK2.out;have:=HJ13.out;have:=HJ19.out;have:=HK5.out;have:=HK6.out;omega)⟩,⟨by(with_reducible repeat(first|refine map_drewN ?_ _|refine map_drew ?_|refine map_alloc ?_ _));exact MB.out⟩,⟨bm BK283.out⟩,⟨bm BK290.out⟩,⟨h2 HB.out GE283.out GE290.out⟩⟩
  rw[if_neg c33]at H
  have c33b0: ((Go.bits .and .i64 (ji32) 1)==1)=false:=beq_eq_false_iff_ne.mpr c33
  have c33b1: ((Go.bits .and .i64 (ji32) 1) !=1)=true:=bne_iff_ne.mpr c33
  (first|rw[c33b0]|(simp only[i64_w,i32_w];rw[c33b0])|skip)
  by_cases c34: (wrap64 (x71_6-((rd_T58 l1 x64_5).f1)))>x35_2
  ·rw[if_pos c34]at H
   have c34b0:decide (x35_2<(wrap64 (x71_6-((rd_T58 l1 x64_5).f1))))=true:=decide_eq_true c34
   clear c34
   have H':=Aside0.mk H
   clear H
   have hcz36_1:=bc BK290 1 rfl
   go_wp2
   go_meet
   case rel=>exact⟨_,(true),fd,H',⟨by first|exact Nat.le_refl _|(have:=HK1.out;have:=HK2.out;have:=HJ13.out;have:=HJ19.out;have:=HK5.out;have:=HK6.out;omega)⟩,⟨by(with_reducible repeat(first|refine map_drewN ?_ _|refine map_drew ?_|refine map_alloc ?_ _));exact MB.out⟩,⟨bm BK283.out⟩,⟨bm BK290.out⟩,⟨h2 HB.out GE283.out GE290.out⟩⟩
  rw[if_neg c34]at H
  have c34b0:decide (x35_2<(wrap64 (x71_6-((rd_T58 l1 x64_5).f1))))=false:=decide_eq_false c34
  clear c34
  have H':=Aside0.mk H
  clear H
  have hcz38_1:=bc BK290 1 rfl
  go_wp2
  go_meet
  case rel=>exact⟨_,(decide ((wrap64 (x71_6+((rd_T58 l1 x64_5).f1)))<x35_2)),fd,H',⟨by first|exact Nat.le_refl _|(have:=HK1.out;have:=HK2.out;have:=HJ13.out;have:=HJ19.out;have:=HK5.out;have:=HK6.out;omega)⟩,⟨by(with_reducible repeat(first|refine map_drewN ?_ _|refine map_drew ?_|refine map_alloc ?_ _));exact MB.out⟩,⟨bm BK283.out⟩,⟨bm BK290.out⟩,⟨h2 HB.out GE283.out GE290.out⟩⟩
 clear HC30
 obtain⟨kq,x94_29,rfl,HA,HJ29,MB,BK283,BK290,HB⟩:=hcut
 obtain _|kj29:=kq;·cases HA.out
 obtain⟨H⟩:=HA
 simp only[impl_LeastSum.j6]at H
 by_cases c39:x94_29=true
 ·subst c39
  rw[if_pos rfl]at H
  have H':=Aside0.mk H
  clear H
  go_wp2
  go_roundg kj29
  case measure=>have:=HK1.out;have:=HK2.out;have:=HJ13.out;have:=HJ19.out;have:=HK5.out;have:=HK6.out;have:=HJ29.out;omega
  case rel=>exact⟨(x6_6),(wrap64 (x71_6+1)),fd,H',⟨by have:=HK1.out;have:=HK2.out;have:=HJ13.out;have:=HJ19.out;have:=HK5.out;have:=HK6.out;have:=HJ29.out;omega⟩,⟨by(with_reducible repeat(first|refine map_drewN ?_ _|refine map_drew ?_|refine map_alloc ?_ _));exact MB.out⟩,⟨bm BK283.out⟩,⟨bm BK290.out⟩,⟨h2 HB.out GE283.out GE290.out⟩⟩
 replace c39:=Bool.eq_false_iff.mpr c39
 subst c39
 rw[if_neg (show ¬(false=true)by decide)]at H
 obtain⟨c40,H⟩:=gi H
 clear c40
 generalize hji41: (shl .i64 1 x64_5)=ji41 at H
 have hji41_: (IntKind.i64.wrap (1*2^min x64_5.toNat 64))=ji41:=hji41
 have hji41z:x64_5≤64→(IntKind.i64.wrap (1*2^x64_5.toNat))=ji41:=shl_small hji41
 have hji41u: (IntKind.i64.wrap (2^min x64_5.toNat 64))=ji41:=by have h_:=hji41_;rw[Int.one_mul]at h_;exact h_
 generalize hji42: (mn a0_0 (wrap64 ((wrap64 (x71_6+((rd_T58 l1 x64_5).f1)))+1)))=ji42 at H
 have hji42_: (if(wrap64 ((wrap64 (x71_6+((rd_T58 l1 x64_5).f1)))+1))<a0_0 then(wrap64 ((wrap64 (x71_6+((rd_T58 l1 x64_5).f1)))+1))else a0_0)=ji42:=hji42
 obtain⟨t292,A43,H⟩:=bd H;(try dsimp only at H)
 obtain⟨⟨t293,t294⟩,A44,H⟩:=bd H;(try dsimp only at H)
 by_cases c45:t294=true
 rotate_left
 ·replace c45:=Bool.eq_false_iff.mpr c45
  subst c45
  rw[if_neg (show ¬(false=true)by decide)]at H
  obtain⟨t296,A70,H⟩:=bd H;(try dsimp only at H)
  have H':=Aside0.mk H
  clear H
  try go_wp2
  have n0_:=Aside0.mk (blk_drew BK283.out)
  have mb_:=Aside0.mk (map_drew MB.out)
  have n1_:=Aside0.mk (blk_drew BK290.out)
  have n2_:=Aside0.mk (below_drew1 HB.out)
  clear BK283
  clear BK290
  clear HB
  have BK283:=n0_
  clear MB
  have MB:=mb_
  clear mb_
  have BK290:=n1_
  have HB:=n2_
  clear n0_ n1_ n2_
  refine start_ (n:=15) (S:=fun w'=>w'.cell? ⟨gb283,0,none⟩=some (.int .i64 a0_0)∧w'.cell? ⟨gb283,1,none⟩=some (.bool a0_1)∧w'.cell? ⟨gb290,0,none⟩=some (.int .i64 ((rd_T58 l1 x64_5).f0))∧w'.cell? ⟨gb290,1,none⟩=some (.int .i64 ((rd_T58 l1 x64_5).f1))) (ds:=[]) (lb 15 0) (by kernel_rfl) rfl rfl ⟨bc BK283 0 rfl,bc BK283 1 rfl,bc BK290 0 rfl,bc BK290 1 rfl⟩ (fun hHeld=>?_);refine with_tabW impl_LeastSum.tab22 impl_LeastSum.bits22 (fun HT_ HW_=>?_)
  generalize wc.drew=w71 at MB BK283 BK290 HB hHeld⊢
  refine pq 0 (N:=some 95) (lb 15 1) HT_ ?_
  refine pq 1 (N:=some 96) (lb 15 3) HT_ ?_
  refine pq 2 (N:=some 97) (lb 15 7) HT_ ?_
  refine pq 3 (N:=some 98) (lb 15 15) HT_ ?_
  refine pq 4 (N:=some 99) (lb 15 31) HT_ ?_
  refine pq 6 (N:=some 101) (lb 15 95) HT_ ?_
  refine pq 7 (N:=some 102) (lb 15 223) HT_ ?_
  refine tq 5 (N:=some 100) (lb 15 255) HT_ HW_ hHeld ?_
  refine tq 8 (N:=some 103) (lb 15 511) HT_ HW_ hHeld ?_
  refine pq 9 (N:=some 104) (lb 15 1023) HT_ ?_
  refine pq 10 (N:=some 105) (lb 15 2047) HT_ ?_
  refine pq 11 (N:=some 106) (lb 15 4095) HT_ ?_
  refine pq 12 (N:=some 107) (lb 15 8191) HT_ ?_
  refine one_ (i:=13) (N:=some 15) (lb 15 16383) rfl rfl (one_of HT_.out (by kernel_rfl)) (by decide) (fun K hK=>?_)
  refine box_step ?hg (N:=15) ?hd (cs:=#[.int .i64 0,.int .i64 0]) (t:=76) ?hr ?_;(case hd=>rfl);(case hg=>rfl);(case hr=>first|(go_simp;done)|(go_simp;rfl))
  intro gb291 hg w72 hbox hb
  have n0_:=Aside0.mk (blk_below (g:=gb283) (o:=.cells #[.int .i64 a0_0,.bool a0_1] 27 (0,0)) (bm BK283.out) hb)
  have mb_:=Aside0.mk (map_below (g:=gm) (m:=x6_6) (by(with_reducible repeat(first|refine map_drewN ?_ _|refine map_drew ?_|refine map_alloc ?_ _));exact MB.out) hb)
  have n1_:=Aside0.mk (blk_below (g:=gb290) (o:=.cells #[.int .i64 ((rd_T58 l1 x64_5).f0),.int .i64 ((rd_T58 l1 x64_5).f1)] 58 (0,0)) (bm BK290.out) hb)
  have n2_:=Aside0.mk (below_step (h2 HB.out GE283.out GE290.out) hb)
  have n3_:=Aside0.mk (hbox)
  have n4_:=Aside0.mk ((by rw[hg];exact(below_size (h2 HB.out GE283.out GE290.out)):w.heap.size≤gb291))
  have n5_:=Aside0.mk ((by rw[hg];exact(below_size (h2 HB.out GE283.out GE290.out)):w.heap.size≤gb291))
  have n6_:=Aside0.mk ((by rw[hg];exact Nat.ne_of_lt (blk_lt (g:=gb283) (o:=.cells #[.int .i64 a0_0,.bool a0_1] 27 (0,0)) (bm BK283.out)):gb283≠gb291))
  have nm_:=Aside0.mk ((by rw[hg];exact Nat.ne_of_lt (map_lt (g:=gm) (m:=x6_6) (by(with_reducible repeat(first|refine map_drewN ?_ _|refine map_drew ?_|refine map_alloc ?_ _));exact MB.out))):gm≠gb291)
  have n7_:=Aside0.mk ((by rw[hg];exact Nat.ne_of_gt (blk_lt (g:=gb283) (o:=.cells #[.int .i64 a0_0,.bool a0_1] 27 (0,0)) (bm BK283.out)):gb291≠gb283))
  have n8_:=Aside0.mk ((by rw[hg];exact Nat.ne_of_lt (blk_lt (g:=gb290) (o:=.cells #[.int .i64 ((rd_T58 l1 x64_5).f0),.int .i64 ((rd_T58 l1 x64_5).f1)] 58 (0,0)) (bm BK290.out)):gb290≠gb291))
  have n9_:=Aside0.mk ((by rw[hg];exact Nat.ne_of_gt (blk_lt (g:=gb290) (o:=.cells #[.int .i64 ((rd_T58 l1 x64_5).f0),.int .i64 ((rd_T58 l1 x64_5).f1)] 58 (0,0)) (bm BK290.out)):gb291≠gb290))
  clear BK283
  clear BK290
  clear HB
  have BK283:=n0_
  clear MB
  have MB:=mb_
  clear mb_
  have BK290:=n1_
  have HB:=n2_
  have BK291:=n3_
  have GE291:=n5_
  have NB283_291:=n6_
  have NM_291:=nm_
  clear nm_
  have NB291_283:=n7_
  have NB290_291:=n8_
  have NB291_290:=n9_
  clear n0_ n1_ n2_ n3_ n4_ n5_ n6_ n7_ n8_ n9_
  clear hb hbox hg
  refine hK.out _ _ ⟨bc BK283 0 rfl,bc BK283 1 rfl,bc BK290 0 rfl,bc BK290 1 rfl⟩ (fun hHeld=>?_)
  clear hK K
  refine norm_ (a':=?_) ?_ ?_
  rotate_left
  ·show Act.put _ (some 15) _=_
   simp only[ap]
   rfl
  refine one_ (i:=14) (N:=none) (lb 15 32767) rfl rfl (one_of HT_.out (by kernel_rfl)) (by decide) (fun K hK=>?_)
  have hs73:w72.cell? ⟨gb291,0,none⟩=some (.int .i64 0):=bc BK291 0 rfl
  have hfs73:=blk_frozen BK291.out 0
  have hs74:w72.cell? ⟨gb291,1,none⟩=some (.int .i64 0):=bc BK291 1 rfl
  have hfs74:=blk_frozen BK291.out 1
  refine skip_ (w1:=?_) (by rfl) rfl ?_ ?_
  rotate_left
  ·go_simp
   rfl
  refine hK.out _ _ ⟨((cell_far (p:=⟨gb291,_,none⟩) NB283_291.out _).trans (((cell_far (p:=⟨gb291,_,none⟩) NB283_291.out _).trans (hHeld.1)))),((cell_far (p:=⟨gb291,_,none⟩) NB283_291.out _).trans (((cell_far (p:=⟨gb291,_,none⟩) NB283_291.out _).trans (hHeld.2.1)))),((cell_far (p:=⟨gb291,_,none⟩) NB290_291.out _).trans (((cell_far (p:=⟨gb291,_,none⟩) NB290_291.out _).trans (hHeld.2.2.1)))),((cell_far (p:=⟨gb291,_,none⟩) NB290_291.out _).trans (((cell_far (p:=⟨gb291,_,none⟩) NB290_291.out _).trans (hHeld.2.2.2))))⟩ (fun hHeld=>?_)
  clear hK K
  refine done_ (done_of HT_.out (by kernel_rfl)) ?_
  try go_wp2_with (first|(refine gs 113 Try.func57 #[.agg #[.int .i64 a0_0,.bool a0_1],.int .i64 ((rd_T58 l1 x64_5).f0),.int .i64 x71_6] ?_;(with_reducible refine(impl_Road_gap.calls a0_0 a0_1 ((rd_T58 l1 x64_5).f0) x71_6 t292 _ A43.out).mono ?_);rintro e w80 ⟨rfl,hb⟩;refine⟨_,rfl,?_⟩;have n0_:=Aside0.mk (blk_below (g:=gb283) (o:=.cells #[.int .i64 a0_0,.bool a0_1] 27 (0,0)) (by(with_reducible repeat(first|apply blk_drewN|apply blk_drew|apply blk_alloc));refine blk_far ?_ NB283_291.out _;(with_reducible repeat(first|apply blk_drewN|apply blk_drew|apply blk_alloc));refine blk_far ?_ NB283_291.out _;exact bm BK283.out) hb);have mb_:=Aside0.mk (map_below (g:=gm) (m:=x6_6) (by(with_reducible repeat(first|refine map_drewN ?_ _|refine map_drew ?_|refine map_alloc ?_ _));refine map_far ?_ NM_291.out _;(with_reducible repeat(first|refine map_drewN ?_ _|refine map_drew ?_|refine map_alloc ?_ _));refine map_far ?_ NM_291.out _;(with_reducible repeat(first|refine map_drewN ?_ _|refine map_drew ?_|refine map_alloc ?_ _));exact MB.out) hb);have n1_:=Aside0.mk (blk_below (g:=gb290) (o:=.cells #[.int .i64 ((rd_T58 l1 x64_5).f0),.int .i64 ((rd_T58 l1 x64_5).f1)] 58 (0,0)) (by(with_reducible repeat(first|apply blk_drewN|apply blk_drew|apply blk_alloc));refine blk_far ?_ NB290_291.out _;(with_reducible repeat(first|apply blk_drewN|apply blk_drew|apply blk_alloc));refine blk_far ?_ NB290_291.out _;exact bm BK290.out) hb);have n2_:=Aside0.mk (blk_below (g:=gb291) (o:=.cells #[.int .i64 (Go.bits .or .i64 x29_1 (ji41)),.int .i64 ji42] 76 (0,0)) (by(with_reducible repeat(first|apply blk_drewN|apply blk_drew|apply blk_alloc));refine blk_put (cs:=#[.int .i64 (Go.bits .or .i64 x29_1 (ji41)),.int .i64 0]) ?_ 1 _ rfl;(with_reducible repeat(first|apply blk_drewN|apply blk_drew|apply blk_alloc));refine blk_put (cs:=#[.int .i64 0,.int .i64 0]) ?_ 0 _ rfl;exact bm BK291.out) hb);have n3_:=Aside0.mk (below_step (h3 HB.out GE283.out GE290.out GE291.out) hb);clear BK283;clear BK290;clear BK291;clear HB;have BK283:=n0_;clear MB;have MB:=mb_;clear mb_;have BK290:=n1_;have BK291:=n2_;have HB:=n3_;clear n0_ n1_ n2_ n3_;(try clear hb);(try clear hk);(try clear hi);have hcz81_0:=bc BK291 0 rfl;have hcz81_1:=bc BK291 1 rfl)|((with_reducible refine gate_dst (N:=118) rfl ?_);refine map_get rfl (.tmp 116) (.tmp 117) rfl gm x6_6 (Go.bits .or .i64 x29_1 (ji41)) ji42 t293 false (by rfl) (by first|rfl|(simp only[hji41,hji42];rfl)) (by(with_reducible repeat(first|refine map_drewN ?_ _|refine map_drew ?_|refine map_alloc ?_ _));exact MB.out) A44.out ?_)|(at_mapUpdate;refine map_put rfl (.tmp 128) (.tmp 129) (.tmp 130) (.inl rfl) rfl gm x6_6 t296 (Go.bits .or .i64 x29_1 (ji41)) ji42 (wrap64 (t287+t292)) (by rfl) (by first|rfl|(simp only[hji41,hji42];rfl)) (by first|rfl|(simp only[hji41,hji42];rfl)) (by(with_reducible repeat(first|refine map_drewN ?_ _|refine map_drew ?_|refine map_alloc ?_ _));exact MB.out) A70.out ?_;intro wp hM hgr;have q0_:=Aside0.mk hM;have q1_:=Aside0.mk (below_put (h3 HB.out GE283.out GE290.out GE291.out) hgr GM.out);have r0_:=Aside0.mk (blk_grown (o:=(.cells #[.int .i64 a0_0,.bool a0_1] 27 (0,0))) (bm BK283.out) hgr (fun e_=>NG283.out (Option.some.inj e_)));have r1_:=Aside0.mk (blk_grown (o:=(.cells #[.int .i64 ((rd_T58 l1 x64_5).f0),.int .i64 ((rd_T58 l1 x64_5).f1)] 58 (0,0))) (bm BK290.out) hgr (fun e_=>NGM.out (Option.some.inj e_)));clear MB;clear HB;clear BK283;clear BK290;have MB:=q0_;have HB:=q1_;have BK283:=r0_;have BK290:=r1_;clear q0_ q1_ r0_ r1_;clear hM hgr))
  go_roundg kj29
  case measure=>have:=HK1.out;have:=HK2.out;have:=HJ13.out;have:=HJ19.out;have:=HK5.out;have:=HK6.out;have:=HJ29.out;omega
  case rel=>exact⟨(t296),(wrap64 (x71_6+1)),fd,H',⟨by have:=HK1.out;have:=HK2.out;have:=HJ13.out;have:=HJ19.out;have:=HK5.out;have:=HK6.out;have:=HJ29.out;omega⟩,⟨by(with_reducible repeat(first|refine map_drewN ?_ _|refine map_drew ?_|refine map_alloc ?_ _));exact MB.out⟩,⟨bm BK283.out⟩,⟨bm BK290.out⟩,⟨h3 HB.out GE283.out GE290.out GE291.out⟩⟩
 subst c45
 rw[if_pos rfl]at H
 by_cases c46: (wrap64 (t287+t292))<t293
 rotate_left
 ·rw[if_neg c46]at H
  have c46b0:decide ((wrap64 (t287+t292))<t293)=false:=decide_eq_false c46
  clear c46
  have H':=Aside0.mk H
  clear H
  try go_wp2
  have n0_:=Aside0.mk (blk_drew BK283.out)
  have mb_:=Aside0.mk (map_drew MB.out)
  have n1_:=Aside0.mk (blk_drew BK290.out)
  have n2_:=Aside0.mk (below_drew1 HB.out)
  clear BK283
  clear BK290
  clear HB
  have BK283:=n0_
  clear MB
  have MB:=mb_
  clear mb_
  have BK290:=n1_
  have HB:=n2_
  clear n0_ n1_ n2_
  refine start_ (n:=15) (S:=fun w'=>w'.cell? ⟨gb283,0,none⟩=some (.int .i64 a0_0)∧w'.cell? ⟨gb283,1,none⟩=some (.bool a0_1)∧w'.cell? ⟨gb290,0,none⟩=some (.int .i64 ((rd_T58 l1 x64_5).f0))∧w'.cell? ⟨gb290,1,none⟩=some (.int .i64 ((rd_T58 l1 x64_5).f1))) (ds:=[]) (lb 15 0) (by kernel_rfl) rfl rfl ⟨bc BK283 0 rfl,bc BK283 1 rfl,bc BK290 0 rfl,bc BK290 1 rfl⟩ (fun hHeld=>?_);refine with_tabW impl_LeastSum.tab22 impl_LeastSum.bits22 (fun HT_ HW_=>?_)
  generalize wc.drew=w59 at MB BK283 BK290 HB hHeld⊢
  refine pq 0 (N:=some 95) (lb 15 1) HT_ ?_
  refine pq 1 (N:=some 96) (lb 15 3) HT_ ?_
  refine pq 2 (N:=some 97) (lb 15 7) HT_ ?_
  refine pq 3 (N:=some 98) (lb 15 15) HT_ ?_
  refine pq 4 (N:=some 99) (lb 15 31) HT_ ?_
  refine pq 6 (N:=some 101) (lb 15 95) HT_ ?_
  refine pq 7 (N:=some 102) (lb 15 223) HT_ ?_
  refine tq 5 (N:=some 100) (lb 15 255) HT_ HW_ hHeld ?_
  refine tq 8 (N:=some 103) (lb 15 511) HT_ HW_ hHeld ?_
  refine pq 9 (N:=some 104) (lb 15 1023) HT_ ?_
  refine pq 10 (N:=some 105) (lb 15 2047) HT_ ?_
  refine pq 11 (N:=some 106) (lb 15 4095) HT_ ?_
  refine pq 12 (N:=some 107) (lb 15 8191) HT_ ?_
  refine one_ (i:=13) (N:=some 15) (lb 15 16383) rfl rfl (one_of HT_.out (by kernel_rfl)) (by decide) (fun K hK=>?_)
  refine box_step ?hg (N:=15) ?hd (cs:=#[.int .i64 0,.int .i64 0]) (t:=76) ?hr ?_;(case hd=>rfl);(case hg=>rfl);(case hr=>first|(go_simp;done)|(go_simp;rfl))
  intro gb291 hg w60 hbox hb
  have n0_:=Aside0.mk (blk_below (g:=gb283) (o:=.cells #[.int .i64 a0_0,.bool a0_1] 27 (0,0)) (bm BK283.out) hb)
  have mb_:=Aside0.mk (map_below (g:=gm) (m:=x6_6) (by(with_reducible repeat(first|refine map_drewN ?_ _|refine map_drew ?_|refine map_alloc ?_ _));exact MB.out) hb)
  have n1_:=Aside0.mk (blk_below (g:=gb290) (o:=.cells #[.int .i64 ((rd_T58 l1 x64_5).f0),.int .i64 ((rd_T58 l1 x64_5).f1)] 58 (0,0)) (bm BK290.out) hb)
  have n2_:=Aside0.mk (below_step (h2 HB.out GE283.out GE290.out) hb)
  have n3_:=Aside0.mk (hbox)
  have n4_:=Aside0.mk ((by rw[hg];exact(below_size (h2 HB.out GE283.out GE290.out)):w.heap.size≤gb291))
  have n5_:=Aside0.mk ((by rw[hg];exact(below_size (h2 HB.out GE283.out GE290.out)):w.heap.size≤gb291))
  have n6_:=Aside0.mk ((by rw[hg];exact Nat.ne_of_lt (blk_lt (g:=gb283) (o:=.cells #[.int .i64 a0_0,.bool a0_1] 27 (0,0)) (bm BK283.out)):gb283≠gb291))
  have nm_:=Aside0.mk ((by rw[hg];exact Nat.ne_of_lt (map_lt (g:=gm) (m:=x6_6) (by(with_reducible repeat(first|refine map_drewN ?_ _|refine map_drew ?_|refine map_alloc ?_ _));exact MB.out))):gm≠gb291)
  have n7_:=Aside0.mk ((by rw[hg];exact Nat.ne_of_gt (blk_lt (g:=gb283) (o:=.cells #[.int .i64 a0_0,.bool a0_1] 27 (0,0)) (bm BK283.out)):gb291≠gb283))
  have n8_:=Aside0.mk ((by rw[hg];exact Nat.ne_of_lt (blk_lt (g:=gb290) (o:=.cells #[.int .i64 ((rd_T58 l1 x64_5).f0),.int .i64 ((rd_T58 l1 x64_5).f1)] 58 (0,0)) (bm BK290.out)):gb290≠gb291))
  have n9_:=Aside0.mk ((by rw[hg];exact Nat.ne_of_gt (blk_lt (g:=gb290) (o:=.cells #[.int .i64 ((rd_T58 l1 x64_5).f0),.int .i64 ((rd_T58 l1 x64_5).f1)] 58 (0,0)) (bm BK290.out)):gb291≠gb290))
  clear BK283
  clear BK290
  clear HB
  have BK283:=n0_
  clear MB
  have MB:=mb_
  clear mb_
  have BK290:=n1_
  have HB:=n2_
  have BK291:=n3_
  have GE291:=n5_
  have NB283_291:=n6_
  have NM_291:=nm_
  clear nm_
  have NB291_283:=n7_
  have NB290_291:=n8_
  have NB291_290:=n9_
  clear n0_ n1_ n2_ n3_ n4_ n5_ n6_ n7_ n8_ n9_
  clear hb hbox hg
  refine hK.out _ _ ⟨bc BK283 0 rfl,bc BK283 1 rfl,bc BK290 0 rfl,bc BK290 1 rfl⟩ (fun hHeld=>?_)
  clear hK K
  refine norm_ (a':=?_) ?_ ?_
  rotate_left
  ·show Act.put _ (some 15) _=_
   simp only[ap]
   rfl
  refine one_ (i:=14) (N:=none) (lb 15 32767) rfl rfl (one_of HT_.out (by kernel_rfl)) (by decide) (fun K hK=>?_)
  have hs61:w60.cell? ⟨gb291,0,none⟩=some (.int .i64 0):=bc BK291 0 rfl
  have hfs61:=blk_frozen BK291.out 0
  have hs62:w60.cell? ⟨gb291,1,none⟩=some (.int .i64 0):=bc BK291 1 rfl
  have hfs62:=blk_frozen BK291.out 1
  refine skip_ (w1:=?_) (by rfl) rfl ?_ ?_
  rotate_left
  ·go_simp
   rfl
  refine hK.out _ _ ⟨((cell_far (p:=⟨gb291,_,none⟩) NB283_291.out _).trans (((cell_far (p:=⟨gb291,_,none⟩) NB283_291.out _).trans (hHeld.1)))),((cell_far (p:=⟨gb291,_,none⟩) NB283_291.out _).trans (((cell_far (p:=⟨gb291,_,none⟩) NB283_291.out _).trans (hHeld.2.1)))),((cell_far (p:=⟨gb291,_,none⟩) NB290_291.out _).trans (((cell_far (p:=⟨gb291,_,none⟩) NB290_291.out _).trans (hHeld.2.2.1)))),((cell_far (p:=⟨gb291,_,none⟩) NB290_291.out _).trans (((cell_far (p:=⟨gb291,_,none⟩) NB290_291.out _).trans (hHeld.2.2.2))))⟩ (fun hHeld=>?_)
  clear hK K
  refine done_ (done_of HT_.out (by kernel_rfl)) ?_
  try go_wp2_with (first|(refine gs 113 Try.func57 #[.agg #[.int .i64 a0_0,.bool a0_1],.int .i64 ((rd_T58 l1 x64_5).f0),.int .i64 x71_6] ?_;(with_reducible refine(impl_Road_gap.calls a0_0 a0_1 ((rd_T58 l1 x64_5).f0) x71_6 t292 _ A43.out).mono ?_);rintro e w68 ⟨rfl,hb⟩;refine⟨_,rfl,?_⟩;have n0_:=Aside0.mk (blk_below (g:=gb283) (o:=.cells #[.int .i64 a0_0,.bool a0_1] 27 (0,0)) (by(with_reducible repeat(first|apply blk_drewN|apply blk_drew|apply blk_alloc));refine blk_far ?_ NB283_291.out _;(with_reducible repeat(first|apply blk_drewN|apply blk_drew|apply blk_alloc));refine blk_far ?_ NB283_291.out _;exact bm BK283.out) hb);have mb_:=Aside0.mk (map_below (g:=gm) (m:=x6_6) (by(with_reducible repeat(first|refine map_drewN ?_ _|refine map_drew ?_|refine map_alloc ?_ _));refine map_far ?_ NM_291.out _;(with_reducible repeat(first|refine map_drewN ?_ _|refine map_drew ?_|refine map_alloc ?_ _));refine map_far ?_ NM_291.out _;(with_reducible repeat(first|refine map_drewN ?_ _|refine map_drew ?_|refine map_alloc ?_ _));exact MB.out) hb);have n1_:=Aside0.mk (blk_below (g:=gb290) (o:=.cells #[.int .i64 ((rd_T58 l1 x64_5).f0),.int .i64 ((rd_T58 l1 x64_5).f1)] 58 (0,0)) (by(with_reducible repeat(first|apply blk_drewN|apply blk_drew|apply blk_alloc));refine blk_far ?_ NB290_291.out _;(with_reducible repeat(first|apply blk_drewN|apply blk_drew|apply blk_alloc));refine blk_far ?_ NB290_291.out _;exact bm BK290.out) hb);have n2_:=Aside0.mk (blk_below (g:=gb291) (o:=.cells #[.int .i64 (Go.bits .or .i64 x29_1 (ji41)),.int .i64 ji42] 76 (0,0)) (by(with_reducible repeat(first|apply blk_drewN|apply blk_drew|apply blk_alloc));refine blk_put (cs:=#[.int .i64 (Go.bits .or .i64 x29_1 (ji41)),.int .i64 0]) ?_ 1 _ rfl;(with_reducible repeat(first|apply blk_drewN|apply blk_drew|apply blk_alloc));refine blk_put (cs:=#[.int .i64 0,.int .i64 0]) ?_ 0 _ rfl;exact bm BK291.out) hb);have n3_:=Aside0.mk (below_step (h3 HB.out GE283.out GE290.out GE291.out) hb);clear BK283;clear BK290;clear BK291;clear HB;have BK283:=n0_;clear MB;have MB:=mb_;clear mb_;have BK290:=n1_;have BK291:=n2_;have HB:=n3_;clear n0_ n1_ n2_ n3_;(try clear hb);(try clear hk);(try clear hi);have hcz69_0:=bc BK291 0 rfl;have hcz69_1:=bc BK291 1 rfl)|((with_reducible refine gate_dst (N:=118) rfl ?_);refine map_get rfl (.tmp 116) (.tmp 117) rfl gm x6_6 (Go.bits .or .i64 x29_1 (ji41)) ji42 t293 true (by rfl) (by first|rfl|(simp only[hji41,hji42];rfl)) (by(with_reducible repeat(first|refine map_drewN ?_ _|refine map_drew ?_|refine map_alloc ?_ _));exact MB.out) A44.out ?_))
  go_roundg kj29
  case measure=>have:=HK1.out;have:=HK2.out;have:=HJ13.out;have:=HJ19.out;have:=HK5.out;have:=HK6.out;have:=HJ29.out;omega
  case rel=>exact⟨(x6_6),(wrap64 (x71_6+1)),fd,H',⟨by have:=HK1.out;have:=HK2.out;have:=HJ13.out;have:=HJ19.out;have:=HK5.out;have:=HK6.out;have:=HJ29.out;omega⟩,⟨by(with_reducible repeat(first|refine map_drewN ?_ _|refine map_drew ?_|refine map_alloc ?_ _));exact MB.out⟩,⟨bm BK283.out⟩,⟨bm BK290.out⟩,⟨h3 HB.out GE283.out GE290.out GE291.out⟩⟩
 rw[if_pos c46]at H
 have c46b0:decide ((wrap64 (t287+t292))<t293)=true:=decide_eq_true c46
 clear c46
 obtain⟨t295,A47,H⟩:=bd H;(try dsimp only at H)
 have H':=Aside0.mk H
 clear H
 try go_wp2
 have n0_:=Aside0.mk (blk_drew BK283.out)
 have mb_:=Aside0.mk (map_drew MB.out)
 have n1_:=Aside0.mk (blk_drew BK290.out)
 have n2_:=Aside0.mk (below_drew1 HB.out)
 clear BK283
 clear BK290
 clear HB
 have BK283:=n0_
 clear MB
 have MB:=mb_
 clear mb_
 have BK290:=n1_
 have HB:=n2_
 clear n0_ n1_ n2_
 refine start_ (n:=15) (S:=fun w'=>w'.cell? ⟨gb283,0,none⟩=some (.int .i64 a0_0)∧w'.cell? ⟨gb283,1,none⟩=some (.bool a0_1)∧w'.cell? ⟨gb290,0,none⟩=some (.int .i64 ((rd_T58 l1 x64_5).f0))∧w'.cell? ⟨gb290,1,none⟩=some (.int .i64 ((rd_T58 l1 x64_5).f1))) (ds:=[]) (lb 15 0) (by kernel_rfl) rfl rfl ⟨bc BK283 0 rfl,bc BK283 1 rfl,bc BK290 0 rfl,bc BK290 1 rfl⟩ (fun hHeld=>?_);refine with_tabW impl_LeastSum.tab22 impl_LeastSum.bits22 (fun HT_ HW_=>?_)
 generalize wc.drew=w48 at MB BK283 BK290 HB hHeld⊢
 refine pq 0 (N:=some 95) (lb 15 1) HT_ ?_
 refine pq 1 (N:=some 96) (lb 15 3) HT_ ?_
 refine pq 2 (N:=some 97) (lb 15 7) HT_ ?_
 refine pq 3 (N:=some 98) (lb 15 15) HT_ ?_
 refine pq 4 (N:=some 99) (lb 15 31) HT_ ?_
 refine pq 6 (N:=some 101) (lb 15 95) HT_ ?_
 refine pq 7 (N:=some 102) (lb 15 223) HT_ ?_
 refine tq 5 (N:=some 100) (lb 15 255) HT_ HW_ hHeld ?_
 refine tq 8 (N:=some 103) (lb 15 511) HT_ HW_ hHeld ?_
 refine pq 9 (N:=some 104) (lb 15 1023) HT_ ?_
 refine pq 10 (N:=some 105) (lb 15 2047) HT_ ?_
 refine pq 11 (N:=some 106) (lb 15 4095) HT_ ?_
 refine pq 12 (N:=some 107) (lb 15 8191) HT_ ?_
 refine one_ (i:=13) (N:=some 15) (lb 15 16383) rfl rfl (one_of HT_.out (by kernel_rfl)) (by decide) (fun K hK=>?_)
 refine box_step ?hg (N:=15) ?hd (cs:=#[.int .i64 0,.int .i64 0]) (t:=76) ?hr ?_;(case hd=>rfl);(case hg=>rfl);(case hr=>first|(go_simp;done)|(go_simp;rfl))
 intro gb291 hg w49 hbox hb
 have n0_:=Aside0.mk (blk_below (g:=gb283) (o:=.cells #[.int .i64 a0_0,.bool a0_1] 27 (0,0)) (bm BK283.out) hb)
 have mb_:=Aside0.mk (map_below (g:=gm) (m:=x6_6) (by(with_reducible repeat(first|refine map_drewN ?_ _|refine map_drew ?_|refine map_alloc ?_ _));exact MB.out) hb)
 have n1_:=Aside0.mk (blk_below (g:=gb290) (o:=.cells #[.int .i64 ((rd_T58 l1 x64_5).f0),.int .i64 ((rd_T58 l1 x64_5).f1)] 58 (0,0)) (bm BK290.out) hb)
 have n2_:=Aside0.mk (below_step (h2 HB.out GE283.out GE290.out) hb)
 have n3_:=Aside0.mk (hbox)
 have n4_:=Aside0.mk ((by rw[hg];exact(below_size (h2 HB.out GE283.out GE290.out)):w.heap.size≤gb291))
 have n5_:=Aside0.mk ((by rw[hg];exact(below_size (h2 HB.out GE283.out GE290.out)):w.heap.size≤gb291))
 have n6_:=Aside0.mk ((by rw[hg];exact Nat.ne_of_lt (blk_lt (g:=gb283) (o:=.cells #[.int .i64 a0_0,.bool a0_1] 27 (0,0)) (bm BK283.out)):gb283≠gb291))
 have nm_:=Aside0.mk ((by rw[hg];exact Nat.ne_of_lt (map_lt (g:=gm) (m:=x6_6) (by(with_reducible repeat(first|refine map_drewN ?_ _|refine map_drew ?_|refine map_alloc ?_ _));exact MB.out))):gm≠gb291)
 have n7_:=Aside0.mk ((by rw[hg];exact Nat.ne_of_gt (blk_lt (g:=gb283) (o:=.cells #[.int .i64 a0_0,.bool a0_1] 27 (0,0)) (bm BK283.out)):gb291≠gb283))
 have n8_:=Aside0.mk ((by rw[hg];exact Nat.ne_of_lt (blk_lt (g:=gb290) (o:=.cells #[.int .i64 ((rd_T58 l1 x64_5).f0),.int .i64 ((rd_T58 l1 x64_5).f1)] 58 (0,0)) (bm BK290.out)):gb290≠gb291))
 have n9_:=Aside0.mk ((by rw[hg];exact Nat.ne_of_gt (blk_lt (g:=gb290) (o:=.cells #[.int .i64 ((rd_T58 l1 x64_5).f0),.int .i64 ((rd_T58 l1 x64_5).f1)] 58 (0,0)) (bm BK290.out)):gb291≠gb290))
 clear BK283
 clear BK290
 clear HB
 have BK283:=n0_
 clear MB
 have MB:=mb_
 clear mb_
 have BK290:=n1_
 have HB:=n2_
 have BK291:=n3_
 have GE291:=n5_
 have NB283_291:=n6_
 have NM_291:=nm_
 clear nm_
 have NB291_283:=n7_
 have NB290_291:=n8_
 have NB291_290:=n9_
 clear n0_ n1_ n2_ n3_ n4_ n5_ n6_ n7_ n8_ n9_
 clear hb hbox hg
 refine hK.out _ _ ⟨bc BK283 0 rfl,bc BK283 1 rfl,bc BK290 0 rfl,bc BK290 1 rfl⟩ (fun hHeld=>?_)
 clear hK K
 refine norm_ (a':=?_) ?_ ?_
 rotate_left
 ·show Act.put _ (some 15) _=_
  simp only[ap]
  rfl
 refine one_ (i:=14) (N:=none) (lb 15 32767) rfl rfl (one_of HT_.out (by kernel_rfl)) (by decide) (fun K hK=>?_)
 have hs50:w49.cell? ⟨gb291,0,none⟩=some (.int .i64 0):=bc BK291 0 rfl
 have hfs50:=blk_frozen BK291.out 0
 have hs51:w49.cell? ⟨gb291,1,none⟩=some (.int .i64 0):=bc BK291 1 rfl
 have hfs51:=blk_frozen BK291.out 1
 refine skip_ (w1:=?_) (by rfl) rfl ?_ ?_
 rotate_left
 ·go_simp
  rfl
 refine hK.out _ _ ⟨((cell_far (p:=⟨gb291,_,none⟩) NB283_291.out _).trans (((cell_far (p:=⟨gb291,_,none⟩) NB283_291.out _).trans (hHeld.1)))),((cell_far (p:=⟨gb291,_,none⟩) NB283_291.out _).trans (((cell_far (p:=⟨gb291,_,none⟩) NB283_291.out _).trans (hHeld.2.1)))),((cell_far (p:=⟨gb291,_,none⟩) NB290_291.out _).trans (((cell_far (p:=⟨gb291,_,none⟩) NB290_291.out _).trans (hHeld.2.2.1)))),((cell_far (p:=⟨gb291,_,none⟩) NB290_291.out _).trans (((cell_far (p:=⟨gb291,_,none⟩) NB290_291.out _).trans (hHeld.2.2.2))))⟩ (fun hHeld=>?_)
 clear hK K
 refine done_ (done_of HT_.out (by kernel_rfl)) ?_
 try go_wp2_with (first|(refine gs 113 Try.func57 #[.agg #[.int .i64 a0_0,.bool a0_1],.int .i64 ((rd_T58 l1 x64_5).f0),.int .i64 x71_6] ?_;(with_reducible refine(impl_Road_gap.calls a0_0 a0_1 ((rd_T58 l1 x64_5).f0) x71_6 t292 _ A43.out).mono ?_);rintro e w57 ⟨rfl,hb⟩;refine⟨_,rfl,?_⟩;have n0_:=Aside0.mk (blk_below (g:=gb283) (o:=.cells #[.int .i64 a0_0,.bool a0_1] 27 (0,0)) (by(with_reducible repeat(first|apply blk_drewN|apply blk_drew|apply blk_alloc));refine blk_far ?_ NB283_291.out _;(with_reducible repeat(first|apply blk_drewN|apply blk_drew|apply blk_alloc));refine blk_far ?_ NB283_291.out _;exact bm BK283.out) hb);have mb_:=Aside0.mk (map_below (g:=gm) (m:=x6_6) (by(with_reducible repeat(first|refine map_drewN ?_ _|refine map_drew ?_|refine map_alloc ?_ _));refine map_far ?_ NM_291.out _;(with_reducible repeat(first|refine map_drewN ?_ _|refine map_drew ?_|refine map_alloc ?_ _));refine map_far ?_ NM_291.out _;(with_reducible repeat(first|refine map_drewN ?_ _|refine map_drew ?_|refine map_alloc ?_ _));exact MB.out) hb);have n1_:=Aside0.mk (blk_below (g:=gb290) (o:=.cells #[.int .i64 ((rd_T58 l1 x64_5).f0),.int .i64 ((rd_T58 l1 x64_5).f1)] 58 (0,0)) (by(with_reducible repeat(first|apply blk_drewN|apply blk_drew|apply blk_alloc));refine blk_far ?_ NB290_291.out _;(with_reducible repeat(first|apply blk_drewN|apply blk_drew|apply blk_alloc));refine blk_far ?_ NB290_291.out _;exact bm BK290.out) hb);have n2_:=Aside0.mk (blk_below (g:=gb291) (o:=.cells #[.int .i64 (Go.bits .or .i64 x29_1 (ji41)),.int .i64 ji42] 76 (0,0)) (by(with_reducible repeat(first|apply blk_drewN|apply blk_drew|apply blk_alloc));refine blk_put (cs:=#[.int .i64 (Go.bits .or .i64 x29_1 (ji41)),.int .i64 0]) ?_ 1 _ rfl;(with_reducible repeat(first|apply blk_drewN|apply blk_drew|apply blk_alloc));refine blk_put (cs:=#[.int .i64 0,.int .i64 0]) ?_ 0 _ rfl;exact bm BK291.out) hb);have n3_:=Aside0.mk (below_step (h3 HB.out GE283.out GE290.out GE291.out) hb);clear BK283;clear BK290;clear BK291;clear HB;have BK283:=n0_;clear MB;have MB:=mb_;clear mb_;have BK290:=n1_;have BK291:=n2_;have HB:=n3_;clear n0_ n1_ n2_ n3_;(try clear hb);(try clear hk);(try clear hi);have hcz58_0:=bc BK291 0 rfl;have hcz58_1:=bc BK291 1 rfl)|((with_reducible refine gate_dst (N:=118) rfl ?_);refine map_get rfl (.tmp 116) (.tmp 117) rfl gm x6_6 (Go.bits .or .i64 x29_1 (ji41)) ji42 t293 true (by rfl) (by first|rfl|(simp only[hji41,hji42];rfl)) (by(with_reducible repeat(first|refine map_drewN ?_ _|refine map_drew ?_|refine map_alloc ?_ _));exact MB.out) A44.out ?_)|(at_mapUpdate;refine map_put rfl (.tmp 128) (.tmp 129) (.tmp 130) (.inl rfl) rfl gm x6_6 t295 (Go.bits .or .i64 x29_1 (ji41)) ji42 (wrap64 (t287+t292)) (by rfl) (by first|rfl|(simp only[hji41,hji42];rfl)) (by first|rfl|(simp only[hji41,hji42];rfl)) (by(with_reducible repeat(first|refine map_drewN ?_ _|refine map_drew ?_|refine map_alloc ?_ _));exact MB.out) A47.out ?_;intro wp hM hgr;have q0_:=Aside0.mk hM;have q1_:=Aside0.mk (below_put (h3 HB.out GE283.out GE290.out GE291.out) hgr GM.out);have r0_:=Aside0.mk (blk_grown (o:=(.cells #[.int .i64 a0_0,.bool a0_1] 27 (0,0))) (bm BK283.out) hgr (fun e_=>NG283.out (Option.some.inj e_)));have r1_:=Aside0.mk (blk_grown (o:=(.cells #[.int .i64 ((rd_T58 l1 x64_5).f0),.int .i64 ((rd_T58 l1 x64_5).f1)] 58 (0,0))) (bm BK290.out) hgr (fun e_=>NGM.out (Option.some.inj e_)));clear MB;clear HB;clear BK283;clear BK290;have MB:=q0_;have HB:=q1_;have BK283:=r0_;have BK290:=r1_;clear q0_ q1_ r0_ r1_;clear hM hgr))
 go_roundg kj29
 case measure=>have:=HK1.out;have:=HK2.out;have:=HJ13.out;have:=HJ19.out;have:=HK5.out;have:=HK6.out;have:=HJ29.out;omega
 case rel=>exact⟨(t295),(wrap64 (x71_6+1)),fd,H',⟨by have:=HK1.out;have:=HK2.out;have:=HJ13.out;have:=HJ19.out;have:=HK5.out;have:=HK6.out;have:=HJ29.out;omega⟩,⟨by(with_reducible repeat(first|refine map_drewN ?_ _|refine map_drew ?_|refine map_alloc ?_ _));exact MB.out⟩,⟨bm BK283.out⟩,⟨bm BK290.out⟩,⟨h3 HB.out GE283.out GE290.out GE291.out⟩⟩
end
end Go.Proofs.Ytanfamfgdgcjpaa.QFnMoves
