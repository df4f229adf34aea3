/- Functions that the law FnMoves comes to, and their walks: no condition but those named. -/
import Derived.Test.YtanfamfgdgcjpaaQFnMovesx0
namespace Go.Proofs.Ytanfamfgdgcjpaa.QFnMoves
open Go.RowKit Go.Proofs.YtanfamfgdgcjpaaW.PrintWords Go.Proofs.YtanfamfgdgcjpaaW.PrintLast Go.Proofs.YtanfamfgdgcjpaaW.PrintMore Go.Proofs.Ytanfamfgdgcjpaa.Short
attribute [local go_sem] max2_int min2_int max_two min_two max_three min_three max_four min_four
set_option linter.unusedVariables false
set_option linter.unusedSimpArgs false
section
open Kd
def spec_l1In.f (a0:Int) (a1:Int) (a2:Int):Option (Bool):=if a0≥a1 then(some (decide (a0≤a2)))else(some false)
set_option maxHeartbeats 8000000 in
set_option maxRecDepth 100000 in
theorem spec_l1In.calls (a0:Int) (a1:Int) (a2:Int) (r:Bool) (w:World) (h:spec_l1In.f a0 a1 a2=some r):
  Calls Try.prog 42 #[.int .i64 a0,.int .i64 a1,.int .i64 a2] w fun e w'=>e= .returned (.bool r)∧Drawn0 w w':=by
 unfold spec_l1In.f at h
 have H:=h
 clear h
 by_cases c4:a0≥a1
 ·rw[if_pos c4]at H
  have c4b0:decide (a1≤a0)=true:=decide_eq_true c4
  clear c4
  obtain rfl:=Option.some.inj H
  go_enter Try.func42,Try.ntmps42
  go_wp2
  go_ret
  exact⟨by first|rfl|(simp;done)|(simp[*];done),by repeat(first|exact Drawn0.refl _|apply Drawn0.step)⟩
 rw[if_neg c4]at H
 have c4b0:decide (a1≤a0)=false:=decide_eq_false c4
 clear c4
 obtain rfl:=Option.some.inj H
 go_enter Try.func42,Try.ntmps42
 go_wp2
 go_ret
 exact⟨by first|rfl|(simp;done)|(simp[*];done),by repeat(first|exact Drawn0.refl _|apply Drawn0.step)⟩
def spec_l2Road.f (a0_0:Int) (a0_1:Bool):Option (Bool):=(spec_l1In.f a0_0 2 24).bind fun t102=>(if t102=true then(if a0_1=true then(some (decide (a0_0>2)))else(some true))else(some false))
set_option maxHeartbeats 8000000 in
set_option maxRecDepth 100000 in
theorem spec_l2Road.calls (a0_0:Int) (a0_1:Bool) (r:Bool) (w:World) (h:spec_l2Road.f a0_0 a0_1=some r):
  Calls Try.prog 41 #[.agg #[.int .i64 a0_0,.bool a0_1]] w fun e w'=>e= .returned (.bool r)∧Below w.heap.size w w':=by
 have HB:=Aside0.mk (Below.refl w.heap.size w)
 unfold spec_l2Road.f at h
 have H:=h
 clear h
 obtain⟨t102,A2,H⟩:=bd H;(try dsimp only at H)
 by_cases c3:t102=true
 rotate_left
 ·replace c3:=Bool.eq_false_iff.mpr c3
  subst c3
  rw[if_neg (show ¬(false=true)by decide)]at H
  obtain rfl:=Option.some.inj H
  go_enter Try.func41,Try.ntmps41
  go_wp2_with (first|(refine bx 1 #[.int .i64 a0_0,.bool a0_1] 27 ?_;intro gb101 hg w9 hbox hb;have BK101:=ak hbox;have GE101:=gw HB hg;replace HB:=bs HB hb;clear hb hbox hg;have hcz10_0:=bc BK101 0 rfl)|(refine gs 5 Try.func42 #[.int .i64 a0_0,.int .i64 2,.int .i64 24] ?_;(with_reducible refine(spec_l1In.calls a0_0 2 24 false _ A2.out).mono ?_);rintro e w' ⟨rfl,⟨nd,rfl⟩⟩;refine⟨_,rfl,?_⟩))
  go_ret
  exact⟨fe,h1 HB.out GE101.out⟩
 subst c3
 rw[if_pos rfl]at H
 by_cases c4:a0_1=true
 ·subst c4
  rw[if_pos rfl]at H
  obtain rfl:=Option.some.inj H
  go_enter Try.func41,Try.ntmps41
  go_wp2_with (first|(refine bx 1 #[.int .i64 a0_0,.bool true] 27 ?_;intro gb101 hg w5 hbox hb;have BK101:=ak hbox;have GE101:=gw HB hg;replace HB:=bs HB hb;clear hb hbox hg;have hcz6_0:=bc BK101 0 rfl;have hcz6_1:=bc BK101 1 rfl)|(refine gs 5 Try.func42 #[.int .i64 a0_0,.int .i64 2,.int .i64 24] ?_;(with_reducible refine(spec_l1In.calls a0_0 2 24 true _ A2.out).mono ?_);rintro e w' ⟨rfl,⟨nd,rfl⟩⟩;refine⟨_,rfl,?_⟩))
  go_ret
  exact⟨fe,h1 HB.out GE101.out⟩
 replace c4:=Bool.eq_false_iff.mpr c4
 subst c4
 rw[if_neg (show ¬(false=true)by decide)]at H
 obtain rfl:=Option.some.inj H
 go_enter Try.func41,Try.ntmps41
 go_wp2_with (first|(refine bx 1 #[.int .i64 a0_0,.bool false] 27 ?_;intro gb101 hg w7 hbox hb;have BK101:=ak hbox;have GE101:=gw HB hg;replace HB:=bs HB hb;clear hb hbox hg;have hcz8_0:=bc BK101 0 rfl;have hcz8_1:=bc BK101 1 rfl)|(refine gs 5 Try.func42 #[.int .i64 a0_0,.int .i64 2,.int .i64 24] ?_;(with_reducible refine(spec_l1In.calls a0_0 2 24 true _ A2.out).mono ?_);rintro e w' ⟨rfl,⟨nd,rfl⟩⟩;refine⟨_,rfl,?_⟩))
 go_ret
 exact⟨fe,h1 HB.out GE101.out⟩
def spec_l1Most.f (a0:Int) (a1:Int):Option (Int):=if a0>a1 then(some a0)else(some a1)
set_option maxHeartbeats 8000000 in
set_option maxRecDepth 100000 in
theorem spec_l1Most.calls (a0:Int) (a1:Int) (r:Int) (w:World) (h:spec_l1Most.f a0 a1=some r):
  Calls Try.prog 43 #[.int .i64 a0,.int .i64 a1] w fun e w'=>e= .returned (.int .i64 r)∧Drawn0 w w':=by
 unfold spec_l1Most.f at h
 have H:=h
 clear h
 by_cases c3:a0>a1
 ·rw[if_pos c3]at H
  have c3b0:decide (a1<a0)=true:=decide_eq_true c3
  clear c3
  obtain rfl:=Option.some.inj H
  go_enter Try.func43,Try.ntmps43
  go_wp2
  go_ret
  exact⟨by first|rfl|(simp;done)|(simp[*];done),by repeat(first|exact Drawn0.refl _|apply Drawn0.step)⟩
 rw[if_neg c3]at H
 have c3b0:decide (a1<a0)=false:=decide_eq_false c3
 clear c3
 obtain rfl:=Option.some.inj H
 go_enter Try.func43,Try.ntmps43
 go_wp2
 go_ret
 exact⟨by first|rfl|(simp;done)|(simp[*];done),by repeat(first|exact Drawn0.refl _|apply Drawn0.step)⟩
def spec_l1Least.f (a0:Int) (a1:Int):Option (Int):=if a0<a1 then(some a0)else(some a1)
set_option maxHeartbeats 8000000 in
set_option maxRecDepth 100000 in
theorem spec_l1Least.calls (a0:Int) (a1:Int) (r:Int) (w:World) (h:spec_l1Least.f a0 a1=some r):
  Calls Try.prog 44 #[.int .i64 a0,.int .i64 a1] w fun e w'=>e= .returned (.int .i64 r)∧Drawn0 w w':=by
 unfold spec_l1Least.f at h
 have H:=h
 clear h
 by_cases c3:a0<a1
 ·rw[if_pos c3]at H
  have c3b0:decide (a0<a1)=true:=decide_eq_true c3
  clear c3
  obtain rfl:=Option.some.inj H
  go_enter Try.func44,Try.ntmps44
  go_wp2
  go_ret
  exact⟨by first|rfl|(simp;done)|(simp[*];done),by repeat(first|exact Drawn0.refl _|apply Drawn0.step)⟩
 rw[if_neg c3]at H
 have c3b0:decide (a0<a1)=false:=decide_eq_false c3
 clear c3
 obtain rfl:=Option.some.inj H
 go_enter Try.func44,Try.ntmps44
 go_wp2
 go_ret
 exact⟨by first|rfl|(simp;done)|(simp[*];done),by repeat(first|exact Drawn0.refl _|apply Drawn0.step)⟩
mutual
def spec_EvenPlaces.j0:Nat→Int→List Int→Bool→Int→Bool→Option (List Int × Bool)
 | 0,_,_,_,_,_=>none
 | k+1,x1,x6,x20,x104000,x104001=>if x20=true then(some (x6,false))else(spec_EvenPlaces.l0 k x1 x6 0 x104000 x104001)
def spec_EvenPlaces.l0:Nat→Int→List Int→Int→Int→Bool→Option (List Int × Bool)
 | 0,_,_,_,_,_=>none
 | k+1,x1,x6,x7,x104000,x104001=>if x7<x104000 then((spec_l1Least.f (wrap64 (x7+x1)) (wrap64 ((wrap64 (x104000-1))-x1))).bind fun t109=>((spec_l1Most.f 0 t109).bind fun t110=>(if x6.length<17592186044416 then(spec_EvenPlaces.l0 k x1 (x6++[t110]) (wrap64 ((wrap64 (x7+(wrap64 (2*x1))))+1)) x104000 x104001)else(none))))else(if(x6.length:Int)>6 then(some ((([]:List Int)),false))else(some (x6,true)))
end
def spec_EvenPlaces.f (k:Nat) (a0_0:Int) (a0_1:Bool) (a1:Int):Option (List Int × Bool):=(some (([]:List Int):List Int)).bind fun y104=>((spec_l2Road.f a0_0 a0_1).bind fun t107=>(if t107=true then(if a0_1=true then(spec_EvenPlaces.j0 k a1 y104 true a0_0 a0_1)else((spec_l1In.f a1 0 12).bind fun t108=>(spec_EvenPlaces.j0 k a1 y104 (!t108) a0_0 a0_1)))else(spec_EvenPlaces.j0 k a1 y104 true a0_0 a0_1)))
theorem spec_EvenPlaces.mono_l:∀ k,(∀ y0 y1 y2 y3 y4,LeO (spec_EvenPlaces.j0 k y0 y1 y2 y3 y4) (spec_EvenPlaces.j0 (k+1) y0 y1 y2 y3 y4))∧(∀ y0 y1 y2 y3 y4,LeO (spec_EvenPlaces.l0 k y0 y1 y2 y3 y4) (spec_EvenPlaces.l0 (k+1) y0 y1 y2 y3 y4))
 | 0=>by
  refine⟨?_,?_⟩<;>(intros;intro r h;simp[spec_EvenPlaces.j0,spec_EvenPlaces.l0]at h)
 | k+1=>by
  obtain⟨ih0,ih1⟩:=spec_EvenPlaces.mono_l k
  refine⟨?_,?_⟩<;>intros<;>(first|unfold spec_EvenPlaces.j0|unfold spec_EvenPlaces.l0)<;>(repeat' (with_reducible first|exact ih0 ..|exact ih1 ..|exact LeO.refl _|exact LeO.none _|refine LeO.ite ?_ ?_|refine LeO.bind ?_ (fun _=>?_)))
theorem spec_EvenPlaces.mono:∀ a0 a1 a2 k,LeO (spec_EvenPlaces.f k a0 a1 a2) (spec_EvenPlaces.f (k+1) a0 a1 a2):=by
 intro a0 a1 a2 k
 obtain⟨ih0,ih1⟩:=spec_EvenPlaces.mono_l k
 unfold spec_EvenPlaces.f
 repeat' (with_reducible first|exact ih0 ..|exact ih1 ..|exact LeO.refl _|exact LeO.none _|refine LeO.ite ?_ ?_|refine LeO.bind ?_ (fun _=>?_))
set_option maxHeartbeats 8000000 in
set_option maxRecDepth 100000 in
theorem spec_EvenPlaces.calls (k:Nat) (a0_0:Int) (a0_1:Bool) (a1:Int) (r1:List Int) (r2:Bool) (w:World) (h:spec_EvenPlaces.f k a0_0 a0_1 a1=some (r1,r2)):
  Calls Try.prog 10 #[.agg #[.int .i64 a0_0,.bool a0_1],.int .i64 a1] w fun e w'=>∃ v0_:Value,e= .returned (.tuple #[v0_,.bool r2])∧Kd.R (Kd.int .i64) 3 w' w.heap.size (fun _=>True) v0_ r1∧Below w.heap.size w w':=by
 have HB:=Aside0.mk (Below.refl w.heap.size w)
 unfold spec_EvenPlaces.f at h
 have H:=h
 clear h
 obtain⟨y104,hy104⟩:∃ y_:List Int,y_=(([]:List Int)):=⟨_,rfl⟩
 replace H: ((spec_l2Road.f a0_0 a0_1).bind fun t107=>(if t107=true then(if a0_1=true then(spec_EvenPlaces.j0 k a1 y104 true a0_0 a0_1)else((spec_l1In.f a1 0 12).bind fun t108=>(spec_EvenPlaces.j0 k a1 y104 (!t108) a0_0 a0_1)))else(spec_EvenPlaces.j0 k a1 y104 true a0_0 a0_1)))=some (r1,r2):=by subst hy104;first|(with_reducible exact H)|exact H
 have Ny104:=Aside0.mk hy104
 clear hy104
 have HC3:=Aside0.mk H
 clear H
 go_enter Try.func10,Try.ntmps10
 go_upto_region 2 with(first|(refine bx 2 #[.int .i64 a0_0,.bool a0_1] 27 ?_;intro gb103 hg w4 hbox hb;have BK103:=ak hbox;have GE103:=gw HB hg;replace HB:=bs HB hb;clear hb hbox hg)|((with_reducible refine gate_dst (N:=8) rfl ?_);refine R_lit (Kd.int .i64) _ 3 ?hg (N:=8) ?hd (xs:=([]:List Int)) (inner:=[]) (ok:=fun _=>True) (okp:=fun _=>True) ?hr ?hp (fun _ hk=>hk) trivial (Below.refl _ _) (Nat.le_refl _) (by simp) ?_;(case hd=>rfl);(case hg=>rfl);(case hr=>first|(go_simp;done)|(go_simp;rfl));(case hp=>exact(Reps.none _ _));intro v105 w5 ho6 hb hg_ hnew_;clear hg_ hnew_;(first|rw[←Ny104.out]at ho6|(simp only[Int.reduceToNat]at ho6;rw[←Ny104.out]at ho6));have HO106:=ak (R_lower ho6 (below_size (h1 HB.out GE103.out)));replace BK103:=kb BK103 hb;replace HB:=ak (below_step (h1 HB.out GE103.out) hb);clear hb ho6))
 (try simp only[ap])
 go_cut [20] (fun v20 wc=>∃ (kq:Nat) (x20_2:Bool),v20= .bool x20_2∧Aside0 (spec_EvenPlaces.j0 kq a1 y104 x20_2 a0_0 a0_1=some (r1,r2))∧Aside0 (kq≤k)∧Aside0 (Kd.R (Kd.int .i64) 3 wc w.heap.size (fun _=>True) v105 y104)∧Aside0 (wc.heap[gb103]? =some (.cells #[.int .i64 a0_0,.bool a0_1] 27 (0,0)))∧Aside0 (Below w.heap.size w wc))
 case first=>
  have H:=HC3.out
  clear HC3
  obtain⟨t107,A7,H⟩:=bd H;(try dsimp only at H)
  by_cases c8:t107=true
  rotate_left
  ·replace c8:=Bool.eq_false_iff.mpr c8
   subst c8
   rw[if_neg (show ¬(false=true)by decide)]at H
   have H':=Aside0.mk H
   clear H
   have hcz17_0:=bc BK103 0 rfl
   have hcz17_1:=bc BK103 1 rfl
   go_wp2_with (first|(refine gs 10 Try.func41 #[.agg #[.int .i64 a0_0,.bool a0_1]] ?_;(with_reducible refine(spec_l2Road.calls a0_0 a0_1 false _ A7.out).mono ?_);rintro e w18 ⟨rfl,hb⟩;refine⟨_,rfl,?_⟩;replace HO106:=rb HO106 hb;replace BK103:=kb BK103 hb;replace HB:=ak (below_step (h1 HB.out GE103.out) hb);(try clear hb);(try clear hk);(try clear hi)))
   go_meet
   case rel=>exact⟨_,(true),fd,H',⟨by first|exact Nat.le_refl _|omega⟩,⟨rm HO106.out⟩,⟨bm BK103.out⟩,⟨h1 HB.out GE103.out⟩⟩
  subst c8
  rw[if_pos rfl]at H
  by_cases c9:a0_1=true
  ·subst c9
   rw[if_pos rfl]at H
   have H':=Aside0.mk H
   clear H
   have hcz10_0:=bc BK103 0 rfl
   have hcz10_1:=bc BK103 1 rfl
   go_wp2_with (first|(refine gs 10 Try.func41 #[.agg #[.int .i64 a0_0,.bool true]] ?_;(with_reducible refine(spec_l2Road.calls a0_0 true true _ A7.out).mono ?_);rintro e w11 ⟨rfl,hb⟩;refine⟨_,rfl,?_⟩;replace HO106:=rb HO106 hb;replace BK103:=kb BK103 hb;replace HB:=ak (below_step (h1 HB.out GE103.out) hb);(try clear hb);(try clear hk);(try clear hi);have hcz12_1:=bc BK103 1 rfl))
   go_meet
   case rel=>exact⟨_,(true),fd,H',⟨by first|exact Nat.le_refl _|omega⟩,⟨rm HO106.out⟩,⟨bm BK103.out⟩,⟨h1 HB.out GE103.out⟩⟩
  replace c9:=Bool.eq_false_iff.mpr c9
  subst c9
  rw[if_neg (show ¬(false=true)by decide)]at H
  obtain⟨t108,A13,H⟩:=bd H;(try dsimp only at H)
  have H':=Aside0.mk H
  clear H
  have hcz14_0:=bc BK103 0 rfl
  have hcz14_1:=bc BK103 1 rfl
  go_wp2_with (first|(refine gs 10 Try.func41 #[.agg #[.int .i64 a0_0,.bool false]] ?_;(with_reducible refine(spec_l2Road.calls a0_0 false true _ A7.out).mono ?_);rintro e w15 ⟨rfl,hb⟩;refine⟨_,rfl,?_⟩;replace HO106:=rb HO106 hb;replace BK103:=kb BK103 hb;replace HB:=ak (below_step (h1 HB.out GE103.out) hb);(try clear hb);(try clear hk);(try clear hi);have hcz16_1:=bc BK103 1 rfl)|(go_at_call 42;(with_reducible refine(spec_l1In.calls a1 0 12 t108 _ A13.out).mono ?_);rintro e w' ⟨rfl,⟨nd,rfl⟩⟩))
  go_meet
  case rel=>exact⟨_,(!t108),fd,H',⟨by first|exact Nat.le_refl _|omega⟩,⟨rm HO106.out⟩,⟨bm BK103.out⟩,⟨h1 HB.out GE103.out⟩⟩
 clear HC3
 obtain⟨kq,x20_2,rfl,HA,HJ2,HO_6,BK103,HB⟩:=hcut
 obtain _|kj2:=kq;·cases HA.out
 obtain⟨H⟩:=HA
 simp only[spec_EvenPlaces.j0]at H
 by_cases c19:x20_2=true
 ·subst c19
  rw[if_pos rfl]at H
  simp only[Option.some.injEq,Prod.mk.injEq]at H
  obtain⟨rfl,rfl⟩:=H
  go_wp2
  go_ret2
  exact⟨_,fe,rm HO_6.out,h1 HB.out GE103.out⟩
 replace c19:=Bool.eq_false_iff.mpr c19
 subst c19
 rw[if_neg (show ¬(false=true)by decide)]at H
 have H':=Aside0.mk H
 clear H
 go_wp2
 go_loopg [6,7] kj2 (fun kq v6 v7 w'=>∃ (x6_2:List Int) (x7_2:Int),v7= .int .i64 x7_2∧Aside0 (spec_EvenPlaces.l0 kq a1 x6_2 x7_2 a0_0 a0_1=some (r1,r2))∧Aside0 (kq≤kj2)∧Aside0 (Kd.R (Kd.int .i64) 3 w' w.heap.size (fun _=>True) v6 x6_2)∧Aside0 (w'.heap[gb103]? =some (.cells #[.int .i64 a0_0,.bool a0_1] 27 (0,0)))∧Aside0 (Below w.heap.size w w'))
 case atStart=>exact⟨(y104),(0),fd,H',⟨Nat.le_refl _⟩,⟨rm HO_6.out⟩,⟨bm BK103.out⟩,⟨h1 HB.out GE103.out⟩⟩
 clear H'
 obtain⟨x6_2,x7_2,rfl,HA,HK2,HO_6,BK103,HB⟩:=hrel
 obtain _|k2:=gk;·cases HA.out
 obtain⟨H⟩:=HA
 simp only[spec_EvenPlaces.l0]at H
 by_cases c20:x7_2<a0_0
 rotate_left
 ·rw[if_neg c20]at H
  have c20b0:decide (x7_2<a0_0)=false:=decide_eq_false c20
  clear c20
  by_cases c26: (x6_2.length:Int)>6
  rotate_left
  ·rw[if_neg c26]at H
   have c26b0:decide (6<(x6_2.length:Int))=false:=decide_eq_false c26
   clear c26
   simp only[Option.some.injEq,Prod.mk.injEq]at H
   obtain⟨rfl,rfl⟩:=H
   have hcz31_0:=bc BK103 0 rfl
   obtain⟨Ao32,co32,eo32⟩:=R_slice HO_6.out
   subst eo32
   go_wp2
   go_ret2
   exact⟨_,fe,rm HO_6.out,h1 HB.out GE103.out⟩
  rw[if_pos c26]at H
  have c26b0:decide (6<(x6_2.length:Int))=true:=decide_eq_true c26
  clear c26
  generalize hy114: ([]:List Int)=y114 at H
  have Ny114:=ak hy114.symm
  clear hy114
  simp only[Option.some.injEq,Prod.mk.injEq]at H
  obtain⟨rfl,rfl⟩:=H
  have hcz27_0:=bc BK103 0 rfl
  obtain⟨Ao28,co28,eo28⟩:=R_slice HO_6.out
  subst eo28
  go_wp2_with (first|((with_reducible refine gate_dst (N:=47) rfl ?_);refine R_lit (Kd.int .i64) _ 3 ?hg (N:=47) ?hd (xs:=([]:List Int)) (inner:=[]) (ok:=fun _=>True) (okp:=fun _=>True) ?hr ?hp (fun _ hk=>hk) trivial (Below.refl _ _) (Nat.le_refl _) (by simp) ?_;(case hd=>rfl);(case hg=>rfl);(case hr=>first|(go_simp;done)|(go_simp;rfl));(case hp=>exact(Reps.none _ _));intro v115 w29 ho30 hb hg_ hnew_;clear hg_ hnew_;(first|rw[←Ny114.out]at ho30|(simp only[Int.reduceToNat]at ho30;rw[←Ny114.out]at ho30));have HO116:=ak (R_lower (R_new' ho30 (R_lt (rm HO_6.out))) (below_size (h1 HB.out GE103.out)));replace HO_6:=ak (R_elder' (rm HO_6.out) (R_base ho30) hb);replace BK103:=kb BK103 hb;replace HB:=ak (below_step (h1 HB.out GE103.out) hb);clear hb ho30))
  go_ret2
  exact⟨_,fe,rm (R_mono HO116.out (fun _ hk=>trivial)),h1 HB.out GE103.out⟩
 rw[if_pos c20]at H
 have c20b0:decide (x7_2<a0_0)=true:=decide_eq_true c20
 clear c20
 obtain⟨t109,A21,H⟩:=bd H;(try dsimp only at H)
 obtain⟨t110,A22,H⟩:=bd H;(try dsimp only at H)
 obtain⟨c23,H⟩:=gi H
 have LMc23:=Aside0.mk c23
 clear c23
 generalize hy111: (x6_2++[t110]:List Int)=y111 at H
 have Ny111:=ak hy111.symm
 clear hy111
 have H':=Aside0.mk H
 clear H
 have hcz24_0:=bc BK103 0 rfl
 go_wp2_with (first|(refine gs 40 Try.func44 #[.int .i64 (wrap64 (x7_2+a1)),.int .i64 (wrap64 ((wrap64 (a0_0-1))-a1))] ?_;(with_reducible refine(spec_l1Least.calls (wrap64 (x7_2+a1)) (wrap64 ((wrap64 (a0_0-1))-a1)) t109 _ A21.out).mono ?_);rintro e w' ⟨rfl,⟨nd,rfl⟩⟩;refine⟨_,rfl,?_⟩)|(refine gs 41 Try.func43 #[.int .i64 0,.int .i64 t109] ?_;(with_reducible refine(spec_l1Most.calls 0 t109 t110 _ A22.out).mono ?_);rintro e w' ⟨rfl,⟨nd,rfl⟩⟩;refine⟨_,rfl,?_⟩)|((with_reducible refine gate_builtin (b:=.append) (xs:=#[.tmp 31,.tmp 42]) rfl ?_);at_builtin;refine R_append (Kd.int .i64) (w0:=w) w.heap.size rfl (.tmp 31) (.tmp 42) 24 3 (.int .i64 0) 8 rfl Try.underlying24 info3 rfl (by decide) (by omega) u6 x6_2 t110 [.int .i64 t110] (fun _=>True) (fun _=>False) rfl rfl ?aP (fun _ hk=>hk.elim) ?aF ?aO ?aB ?aS ?aL ?_;(case aP=>exact rfl);(case aB=>exact(h1 HB.out GE103.out));(case aF=>exact(fun _ _=>trivial));(case aO=>exact(rm HO_6.out));(case aS=>exact(below_size (h1 HB.out GE103.out)));(case aL=>have:=LMc23.out;omega);intro v112 w25 ho hb hg hat;rw[←Ny111.out]at ho;replace BK103:=ak (blk_grown (g:=gb103) (o:=.cells #[.int .i64 a0_0,.bool a0_1] 27 (0,0)) (bm BK103.out) hg (R_ne HO_6.out BK103.out (by decide)));replace HB:=ak hb;have HO113:=ak ho;clear HO_6;clear ho hb hg hat))
 go_roundg k2
 case measure=>have:=HJ2.out;have:=HK2.out;omega
 case rel=>exact⟨(y111),(wrap64 ((wrap64 (x7_2+(wrap64 (2*a1))))+1)),fd,H',⟨by have:=HJ2.out;have:=HK2.out;omega⟩,⟨rm HO113.out⟩,⟨bm BK103.out⟩,⟨h1 HB.out GE103.out⟩⟩
def impl_within.f (a0:Int) (a1:Int) (a2:Int):Option (Bool):=if a0≥a1 then(some (decide (a0≤a2)))else(some false)
set_option maxHeartbeats 8000000 in
set_option maxRecDepth 100000 in
theorem impl_within.calls (a0:Int) (a1:Int) (a2:Int) (r:Bool) (w:World) (h:impl_within.f a0 a1 a2=some r):
  Calls Try.prog 46 #[.int .i64 a0,.int .i64 a1,.int .i64 a2] w fun e w'=>e= .returned (.bool r)∧Drawn0 w w':=by
 unfold impl_within.f at h
 have H:=h
 clear h
 by_cases c4:a0≥a1
 ·rw[if_pos c4]at H
  have c4b0:decide (a1≤a0)=true:=decide_eq_true c4
  clear c4
  obtain rfl:=Option.some.inj H
  go_enter Try.func46,Try.ntmps46
  go_wp2
  go_ret
  exact⟨by first|rfl|(simp;done)|(simp[*];done),by repeat(first|exact Drawn0.refl _|apply Drawn0.step)⟩
 rw[if_neg c4]at H
 have c4b0:decide (a1≤a0)=false:=decide_eq_false c4
 clear c4
 obtain rfl:=Option.some.inj H
 go_enter Try.func46,Try.ntmps46
 go_wp2
 go_ret
 exact⟨by first|rfl|(simp;done)|(simp[*];done),by repeat(first|exact Drawn0.refl _|apply Drawn0.step)⟩
def impl_IsRoad.f (a0_0:Int) (a0_1:Bool):Option (Bool):=(impl_within.f a0_0 2 24).bind fun t118=>(if t118=true then(if a0_1=true then(some (decide (a0_0≥3)))else(some true))else(some false))
set_option maxHeartbeats 8000000 in
set_option maxRecDepth 100000 in
theorem impl_IsRoad.calls (a0_0:Int) (a0_1:Bool) (r:Bool) (w:World) (h:impl_IsRoad.f a0_0 a0_1=some r):
  Calls Try.prog 77 #[.agg #[.int .i64 a0_0,.bool a0_1]] w fun e w'=>e= .returned (.bool r)∧Below w.heap.size w w':=by
 have HB:=Aside0.mk (Below.refl w.heap.size w)
 unfold impl_IsRoad.f at h
 have H:=h
 clear h
 obtain⟨t118,A2,H⟩:=bd H;(try dsimp only at H)
 by_cases c3:t118=true
 rotate_left
 ·replace c3:=Bool.eq_false_iff.mpr c3
  subst c3
  rw[if_neg (show ¬(false=true)by decide)]at H
  obtain rfl:=Option.some.inj H
  go_enter Try.func77,Try.ntmps77
  go_wp2_with (first|(refine bx 1 #[.int .i64 a0_0,.bool a0_1] 27 ?_;intro gb117 hg w9 hbox hb;have BK117:=ak hbox;have GE117:=gw HB hg;replace HB:=bs HB hb;clear hb hbox hg;have hcz10_0:=bc BK117 0 rfl)|(refine gs 5 Try.func46 #[.int .i64 a0_0,.int .i64 2,.int .i64 24] ?_;(with_reducible refine(impl_within.calls a0_0 2 24 false _ A2.out).mono ?_);rintro e w' ⟨rfl,⟨nd,rfl⟩⟩;refine⟨_,rfl,?_⟩))
  go_ret
  exact⟨fe,h1 HB.out GE117.out⟩
 subst c3
 rw[if_pos rfl]at H
 by_cases c4:a0_1=true
 ·subst c4
  rw[if_pos rfl]at H
  obtain rfl:=Option.some.inj H
  go_enter Try.func77,Try.ntmps77
  go_wp2_with (first|(refine bx 1 #[.int .i64 a0_0,.bool true] 27 ?_;intro gb117 hg w5 hbox hb;have BK117:=ak hbox;have GE117:=gw HB hg;replace HB:=bs HB hb;clear hb hbox hg;have hcz6_0:=bc BK117 0 rfl;have hcz6_1:=bc BK117 1 rfl)|(refine gs 5 Try.func46 #[.int .i64 a0_0,.int .i64 2,.int .i64 24] ?_;(with_reducible refine(impl_within.calls a0_0 2 24 true _ A2.out).mono ?_);rintro e w' ⟨rfl,⟨nd,rfl⟩⟩;refine⟨_,rfl,?_⟩))
  go_ret
  exact⟨fe,h1 HB.out GE117.out⟩
 replace c4:=Bool.eq_false_iff.mpr c4
 subst c4
 rw[if_neg (show ¬(false=true)by decide)]at H
 obtain rfl:=Option.some.inj H
 go_enter Try.func77,Try.ntmps77
 go_wp2_with (first|(refine bx 1 #[.int .i64 a0_0,.bool false] 27 ?_;intro gb117 hg w7 hbox hb;have BK117:=ak hbox;have GE117:=gw HB hg;replace HB:=bs HB hb;clear hb hbox hg;have hcz8_0:=bc BK117 0 rfl;have hcz8_1:=bc BK117 1 rfl)|(refine gs 5 Try.func46 #[.int .i64 a0_0,.int .i64 2,.int .i64 24] ?_;(with_reducible refine(impl_within.calls a0_0 2 24 true _ A2.out).mono ?_);rintro e w' ⟨rfl,⟨nd,rfl⟩⟩;refine⟨_,rfl,?_⟩))
 go_ret
 exact⟨fe,h1 HB.out GE117.out⟩
def impl_isLine.f (a0_0:Int) (a0_1:Bool):Option (Bool):=(impl_IsRoad.f a0_0 a0_1).bind fun t120=>(if t120=true then(some (!a0_1))else(some false))
set_option maxHeartbeats 8000000 in
set_option maxRecDepth 100000 in
theorem impl_isLine.calls (a0_0:Int) (a0_1:Bool) (r:Bool) (w:World) (h:impl_isLine.f a0_0 a0_1=some r):
  Calls Try.prog 45 #[.agg #[.int .i64 a0_0,.bool a0_1]] w fun e w'=>e= .returned (.bool r)∧Below w.heap.size w w':=by
 have HB:=Aside0.mk (Below.refl w.heap.size w)
 unfold impl_isLine.f at h
 have H:=h
 clear h
 obtain⟨t120,A2,H⟩:=bd H;(try dsimp only at H)
 by_cases c3:t120=true
 rotate_left
 ·replace c3:=Bool.eq_false_iff.mpr c3
  subst c3
  rw[if_neg (show ¬(false=true)by decide)]at H
  obtain rfl:=Option.some.inj H
  go_enter Try.func45,Try.ntmps45
  go_wp2_with (first|(refine bx 1 #[.int .i64 a0_0,.bool a0_1] 27 ?_;intro gb119 hg w8 hbox hb;have BK119:=ak hbox;have GE119:=gw HB hg;replace HB:=bs HB hb;clear hb hbox hg;have hcz9_0:=bc BK119 0 rfl;have hcz9_1:=bc BK119 1 rfl)|(refine gs 4 Try.func77 #[.agg #[.int .i64 a0_0,.bool a0_1]] ?_;(with_reducible refine(impl_IsRoad.calls a0_0 a0_1 false _ A2.out).mono ?_);rintro e w10 ⟨rfl,hb⟩;refine⟨_,rfl,?_⟩;replace BK119:=kb BK119 hb;replace HB:=ak (below_step (h1 HB.out GE119.out) hb);(try clear hb);(try clear hk);(try clear hi)))
  go_ret
  exact⟨fe,h1 HB.out GE119.out⟩
 subst c3
 rw[if_pos rfl]at H
 obtain rfl:=Option.some.inj H
 go_enter Try.func45,Try.ntmps45
 go_wp2_with (first|(refine bx 1 #[.int .i64 a0_0,.bool a0_1] 27 ?_;intro gb119 hg w4 hbox hb;have BK119:=ak hbox;have GE119:=gw HB hg;replace HB:=bs HB hb;clear hb hbox hg;have hcz5_0:=bc BK119 0 rfl;have hcz5_1:=bc BK119 1 rfl)|(refine gs 4 Try.func77 #[.agg #[.int .i64 a0_0,.bool a0_1]] ?_;(with_reducible refine(impl_IsRoad.calls a0_0 a0_1 true _ A2.out).mono ?_);rintro e w6 ⟨rfl,hb⟩;refine⟨_,rfl,?_⟩;replace BK119:=kb BK119 hb;replace HB:=ak (below_step (h1 HB.out GE119.out) hb);(try clear hb);(try clear hk);(try clear hi);have hcz7_1:=bc BK119 1 rfl))
 go_ret
 exact⟨fe,h1 HB.out GE119.out⟩
mutual
def impl_EvenPlaces.j0:Nat→Int→Bool→Int→Bool→Option (List Int × Bool)
 | 0,_,_,_,_=>none
 | k+1,x1,x17,x122000,x122001=>if x17=true then(some (([]:List Int),false))else(if(wrap64 ((wrap64 (2*x1))+1))=0 then(none)else(if(wrap64 (Int.tdiv (wrap64 ((wrap64 (x122000+(wrap64 ((wrap64 (2*x1))+1))))-1)) (wrap64 ((wrap64 (2*x1))+1))))>6 then(some (([]:List Int),false))else(impl_EvenPlaces.l0 k x1 (wrap64 ((wrap64 (2*x1))+1)) (([]:List Int)) (wrap64 (Int.tdiv (wrap64 ((wrap64 (x122000+(wrap64 ((wrap64 (2*x1))+1))))-1)) (wrap64 ((wrap64 (2*x1))+1)))) 0 x122000 x122001)))
def impl_EvenPlaces.l0:Nat→Int→Int→List Int→Int→Int→Int→Bool→Option (List Int × Bool)
 | 0,_,_,_,_,_,_,_=>none
 | k+1,x1,x6,x8,x31,x32,x122000,x122001=>if x32<x31 then(if x8.length<17592186044416 then(impl_EvenPlaces.l0 k x1 x6 (x8++[mx 0 (mn (wrap64 (x1+(wrap64 (x32*x6)))) (wrap64 ((wrap64 (x122000-1))-x1)))]) x31 (wrap64 (x32+1)) x122000 x122001)else(none))else(some (x8,true))
end
def impl_EvenPlaces.f (k:Nat) (a0_0:Int) (a0_1:Bool) (a1:Int):Option (List Int × Bool):=(impl_isLine.f a0_0 a0_1).bind fun t122=>(if t122=true then((impl_within.f a1 0 12).bind fun t123=>(impl_EvenPlaces.j0 k a1 (!t123) a0_0 a0_1))else(impl_EvenPlaces.j0 k a1 true a0_0 a0_1))
theorem impl_EvenPlaces.mono_l:∀ k,(∀ y0 y1 y2 y3,LeO (impl_EvenPlaces.j0 k y0 y1 y2 y3) (impl_EvenPlaces.j0 (k+1) y0 y1 y2 y3))∧(∀ y0 y1 y2 y3 y4 y5 y6,LeO (impl_EvenPlaces.l0 k y0 y1 y2 y3 y4 y5 y6) (impl_EvenPlaces.l0 (k+1) y0 y1 y2 y3 y4 y5 y6))
 | 0=>by
  refine⟨?_,?_⟩<;>(intros;intro r h;simp[impl_EvenPlaces.j0,impl_EvenPlaces.l0]at h)
 | k+1=>by
  obtain⟨ih0,ih1⟩:=impl_EvenPlaces.mono_l k
  refine⟨?_,?_⟩<;>intros<;>(first|unfold impl_EvenPlaces.j0|unfold impl_EvenPlaces.l0)<;>(repeat' (with_reducible first|exact ih0 ..|exact ih1 ..|exact LeO.refl _|exact LeO.none _|refine LeO.ite ?_ ?_|refine LeO.bind ?_ (fun _=>?_)))
theorem impl_EvenPlaces.mono:∀ a0 a1 a2 k,LeO (impl_EvenPlaces.f k a0 a1 a2) (impl_EvenPlaces.f (k+1) a0 a1 a2):=by
 intro a0 a1 a2 k
 obtain⟨ih0,ih1⟩:=impl_EvenPlaces.mono_l k
 unfold impl_EvenPlaces.f
 repeat' (with_reducible first|exact ih0 ..|exact ih1 ..|exact LeO.refl _|exact LeO.none _|refine LeO.ite ?_ ?_|refine LeO.bind ?_ (fun _=>?_))
set_option maxHeartbeats 8000000 in
set_option maxRecDepth 100000 in
theorem impl_EvenPlaces.calls (k:Nat) (a0_0:Int) (a0_1:Bool) (a1:Int) (r1:List Int) (r2:Bool) (w:World) (h:impl_EvenPlaces.f k a0_0 a0_1 a1=some (r1,r2)):
  Calls Try.prog 12 #[.agg #[.int .i64 a0_0,.bool a0_1],.int .i64 a1] w fun e w'=>∃ v0_:Value,e= .returned (.tuple #[v0_,.bool r2])∧Kd.R (Kd.int .i64) 3 w' w.heap.size (fun _=>True) v0_ r1∧Below w.heap.size w w':=by
 have HB:=Aside0.mk (Below.refl w.heap.size w)
 unfold impl_EvenPlaces.f at h
 have H:=h
 clear h
 have HC3:=Aside0.mk H
 clear H
 go_enter Try.func12,Try.ntmps12
 go_upto_region 1 with(first|(refine bx 2 #[.int .i64 a0_0,.bool a0_1] 27 ?_;intro gb121 hg w4 hbox hb;have BK121:=ak hbox;have GE121:=gw HB hg;replace HB:=bs HB hb;clear hb hbox hg))
 (try simp only[ap])
 go_cut [17] (fun v17 wc=>∃ (kq:Nat) (x17_2:Bool),v17= .bool x17_2∧Aside0 (impl_EvenPlaces.j0 kq a1 x17_2 a0_0 a0_1=some (r1,r2))∧Aside0 (kq≤k)∧Aside0 (wc.heap[gb121]? =some (.cells #[.int .i64 a0_0,.bool a0_1] 27 (0,0)))∧Aside0 (Below w.heap.size w wc))
 case first=>
  have H:=HC3.out
  clear HC3
  obtain⟨t122,A5,H⟩:=bd H;(try dsimp only at H)
  by_cases c6:t122=true
  rotate_left
  ·replace c6:=Bool.eq_false_iff.mpr c6
   subst c6
   rw[if_neg (show ¬(false=true)by decide)]at H
   have H':=Aside0.mk H
   clear H
   have hcz10_0:=bc BK121 0 rfl
   have hcz10_1:=bc BK121 1 rfl
   go_wp2_with (first|(refine gs 11 Try.func45 #[.agg #[.int .i64 a0_0,.bool a0_1]] ?_;(with_reducible refine(impl_isLine.calls a0_0 a0_1 false _ A5.out).mono ?_);rintro e w11 ⟨rfl,hb⟩;refine⟨_,rfl,?_⟩;replace BK121:=kb BK121 hb;replace HB:=ak (below_step (h1 HB.out GE121.out) hb);(try clear hb);(try clear hk);(try clear hi)))
   go_meet
   case rel=>exact⟨_,(true),fd,H',⟨by first|exact Nat.le_refl _|omega⟩,⟨bm BK121.out⟩,⟨h1 HB.out GE121.out⟩⟩
  subst c6
  rw[if_pos rfl]at H
  obtain⟨t123,A7,H⟩:=bd H;(try dsimp only at H)
  have H':=Aside0.mk H
  clear H
  have hcz8_0:=bc BK121 0 rfl
  have hcz8_1:=bc BK121 1 rfl
  go_wp2_with (first|(refine gs 11 Try.func45 #[.agg #[.int .i64 a0_0,.bool a0_1]] ?_;(with_reducible refine(impl_isLine.calls a0_0 a0_1 true _ A5.out).mono ?_);rintro e w9 ⟨rfl,hb⟩;refine⟨_,rfl,?_⟩;replace BK121:=kb BK121 hb;replace HB:=ak (below_step (h1 HB.out GE121.out) hb);(try clear hb);(try clear hk);(try clear hi))|(go_at_call 46;(with_reducible refine(impl_within.calls a1 0 12 t123 _ A7.out).mono ?_);rintro e w' ⟨rfl,⟨nd,rfl⟩⟩))
  go_meet
  case rel=>exact⟨_,(!t123),fd,H',⟨by first|exact Nat.le_refl _|omega⟩,⟨bm BK121.out⟩,⟨h1 HB.out GE121.out⟩⟩
 clear HC3
 obtain⟨kq,x17_2,rfl,HA,HJ2,BK121,HB⟩:=hcut
 obtain _|kj2:=kq;·cases HA.out
 obtain⟨H⟩:=HA
 simp only[impl_EvenPlaces.j0]at H
 by_cases c12:x17_2=true
 ·subst c12
  rw[if_pos rfl]at H
  simp only[Option.some.injEq,Prod.mk.injEq]at H
  obtain⟨rfl,rfl⟩:=H
  go_wp2
  go_ret2
  exact⟨_,fe,by first|exact R_nil _ _ _ _ _|exact Kd.N_nil _ _ _ _ _|exact Kd.V_nil _ _ _ _ _|exact Kd.Q_nil _ _ _ _ _|exact Kd.S_nil _ _ _ _ _,h1 HB.out GE121.out⟩
 replace c12:=Bool.eq_false_iff.mpr c12
 subst c12
 rw[if_neg (show ¬(false=true)by decide)]at H
 by_cases c13: (wrap64 ((wrap64 (2*a1))+1))=0
 ·rw[if_pos c13]at H
  exact absurd H (by simp)
 rw[if_neg c13]at H
 have c13b0: ((wrap64 ((wrap64 (2*a1))+1))==0)=false:=beq_eq_false_iff_ne.mpr c13
 have c13b1: ((wrap64 ((wrap64 (2*a1))+1)) !=0)=true:=bne_iff_ne.mpr c13
 by_cases c14: (wrap64 (Int.tdiv (wrap64 ((wrap64 (a0_0+(wrap64 ((wrap64 (2*a1))+1))))-1)) (wrap64 ((wrap64 (2*a1))+1))))>6
 ·rw[if_pos c14]at H
  have c14b0:decide (6<(wrap64 (Int.tdiv (wrap64 ((wrap64 (a0_0+(wrap64 ((wrap64 (2*a1))+1))))-1)) (wrap64 ((wrap64 (2*a1))+1)))))=true:=decide_eq_true c14
  clear c14
  simp only[Option.some.injEq,Prod.mk.injEq]at H
  obtain⟨rfl,rfl⟩:=H
  have hcz15_0:=bc BK121 0 rfl
  go_wp2
  go_ret2
  exact⟨_,fe,by first|exact R_nil _ _ _ _ _|exact Kd.N_nil _ _ _ _ _|exact Kd.V_nil _ _ _ _ _|exact Kd.Q_nil _ _ _ _ _|exact Kd.S_nil _ _ _ _ _,h1 HB.out GE121.out⟩
 rw[if_neg c14]at H
 have c14b0:decide (6<(wrap64 (Int.tdiv (wrap64 ((wrap64 (a0_0+(wrap64 ((wrap64 (2*a1))+1))))-1)) (wrap64 ((wrap64 (2*a1))+1)))))=false:=decide_eq_false c14
 clear c14
 generalize hy124: ([]:List Int)=y124 at H
 have Ny124:=ak hy124.symm
 clear hy124
 have H':=Aside0.mk H
 clear H
 have hcz16_0:=bc BK121 0 rfl
 go_wp2_with (first|((with_reducible refine gate_dst (N:=30) rfl ?_);refine R_lit (Kd.int .i64) _ 3 ?hg (N:=30) ?hd (xs:=([]:List Int)) (inner:=[]) (ok:=fun _=>True) (okp:=fun _=>True) ?hr ?hp (fun _ hk=>hk) trivial (Below.refl _ _) (Nat.le_refl _) (by simp) ?_;(case hd=>rfl);(case hg=>rfl);(case hr=>first|(go_simp;done)|(go_simp;rfl));(case hp=>exact(Reps.none _ _));intro v125 w17 ho18 hb hg_ hnew_;clear hg_ hnew_;(first|rw[←Ny124.out]at ho18|(simp only[Int.reduceToNat]at ho18;rw[←Ny124.out]at ho18));have HO126:=ak (R_lower ho18 (below_size (h1 HB.out GE121.out)));replace BK121:=kb BK121 hb;replace HB:=ak (below_step (h1 HB.out GE121.out) hb);clear hb ho18))
 go_loopg [8,32] kj2 (fun kq v8 v32 w'=>∃ (x8_2:List Int) (x32_2:Int),v32= .int .i64 x32_2∧Aside0 (impl_EvenPlaces.l0 kq a1 (wrap64 ((wrap64 (2*a1))+1)) x8_2 (wrap64 (Int.tdiv (wrap64 ((wrap64 (a0_0+(wrap64 ((wrap64 (2*a1))+1))))-1)) (wrap64 ((wrap64 (2*a1))+1)))) x32_2 a0_0 a0_1=some (r1,r2))∧Aside0 (kq≤kj2)∧Aside0 (Kd.R (Kd.int .i64) 3 w' w.heap.size (fun _=>True) v8 x8_2)∧Aside0 (w'.heap[gb121]? =some (.cells #[.int .i64 a0_0,.bool a0_1] 27 (0,0)))∧Aside0 (Below w.heap.size w w'))
 case atStart=>exact⟨(y124),(0),fd,H',⟨Nat.le_refl _⟩,⟨rm HO126.out⟩,⟨bm BK121.out⟩,⟨h1 HB.out GE121.out⟩⟩
 clear H'
 obtain⟨x8_2,x32_2,rfl,HA,HK2,HO_8,BK121,HB⟩:=hrel
 obtain _|k2:=gk;·cases HA.out
 obtain⟨H⟩:=HA
 simp only[impl_EvenPlaces.l0]at H
 by_cases c19:x32_2<(wrap64 (Int.tdiv (wrap64 ((wrap64 (a0_0+(wrap64 ((wrap64 (2*a1))+1))))-1)) (wrap64 ((wrap64 (2*a1))+1))))
 rotate_left
 ·rw[if_neg c19]at H
  have c19b0:decide (x32_2<(wrap64 (Int.tdiv (wrap64 ((wrap64 (a0_0+(wrap64 ((wrap64 (2*a1))+1))))-1)) (wrap64 ((wrap64 (2*a1))+1)))))=false:=decide_eq_false c19
  clear c19
  simp only[Option.some.injEq,Prod.mk.injEq]at H
  obtain⟨rfl,rfl⟩:=H
  go_wp2
  go_ret2
  exact⟨_,fe,rm HO_8.out,h1 HB.out GE121.out⟩
 rw[if_pos c19]at H
 have c19b0:decide (x32_2<(wrap64 (Int.tdiv (wrap64 ((wrap64 (a0_0+(wrap64 ((wrap64 (2*a1))+1))))-1)) (wrap64 ((wrap64 (2*a1))+1)))))=true:=decide_eq_true c19
 clear c19
 generalize hji20: (mn (wrap64 (a1+(wrap64 (x32_2*(wrap64 ((wrap64 (2*a1))+1)))))) (wrap64 ((wrap64 (a0_0-1))-a1)))=ji20 at H
 have hji20_: (if(wrap64 ((wrap64 (a0_0-1))-a1))<(wrap64 (a1+(wrap64 (x32_2*(wrap64 ((wrap64 (2*a1))+1))))))then(wrap64 ((wrap64 (a0_0-1))-a1))else(wrap64 (a1+(wrap64 (x32_2*(wrap64 ((wrap64 (2*a1))+1)))))))=ji20:=hji20
 generalize hji21: (mx 0 (ji20))=ji21 at H
 have hji21_: (if 0<(ji20)then(ji20)else 0)=ji21:=hji21
 obtain⟨c22,H⟩:=gi H
 have LMc22:=Aside0.mk c22
 clear c22
 generalize hy127: (x8_2++[ji21]:List Int)=y127 at H
 have Ny127:=ak hy127.symm
 clear hy127
 have H':=Aside0.mk H
 clear H
 have hcz23_0:=bc BK121 0 rfl
 go_wp2_with (first|((with_reducible refine gate_builtin (b:=.append) (xs:=#[.tmp 35,.tmp 48]) rfl ?_);at_builtin;refine R_append (Kd.int .i64) (w0:=w) w.heap.size rfl (.tmp 35) (.tmp 48) 24 3 (.int .i64 0) 8 rfl Try.underlying24 info3 rfl (by decide) (by omega) u8 x8_2 ji21 [.int .i64 ji21] (fun _=>True) (fun _=>False) rfl rfl ?aP (fun _ hk=>hk.elim) ?aF ?aO ?aB ?aS ?aL ?_;(case aP=>exact rfl);(case aB=>exact(h1 HB.out GE121.out));(case aF=>exact(fun _ _=>trivial));(case aO=>exact(rm HO_8.out));(case aS=>exact(below_size (h1 HB.out GE121.out)));(case aL=>have:=LMc22.out;omega);intro v128 w24 ho hb hg hat;rw[←Ny127.out]at ho;replace BK121:=ak (blk_grown (g:=gb121) (o:=.cells #[.int .i64 a0_0,.bool a0_1] 27 (0,0)) (bm BK121.out) hg (R_ne HO_8.out BK121.out (by decide)));replace HB:=ak hb;have HO129:=ak ho;clear HO_8;clear ho hb hg hat))
 go_roundg k2
 case measure=>have:=HJ2.out;have:=HK2.out;omega
 case rel=>exact⟨(y127),(wrap64 (x32_2+1)),fd,H',⟨by have:=HJ2.out;have:=HK2.out;omega⟩,⟨rm HO129.out⟩,⟨bm BK121.out⟩,⟨h1 HB.out GE121.out⟩⟩
def spec_l3Line.f (a0_0:Int) (a0_1:Bool) (a1:Int):Option (Bool):=(spec_l2Road.f a0_0 a0_1).bind fun t131=>(if t131=true then(if a0_1=true then(some false)else((spec_l1In.f a1 0 (wrap64 (a0_0-1))).bind fun t132=>(some t132)))else(some false))
set_option maxHeartbeats 8000000 in
set_option maxRecDepth 100000 in
theorem spec_l3Line.calls (a0_0:Int) (a0_1:Bool) (a1:Int) (r:Bool) (w:World) (h:spec_l3Line.f a0_0 a0_1 a1=some r):
  Calls Try.prog 80 #[.agg #[.int .i64 a0_0,.bool a0_1],.int .i64 a1] w fun e w'=>e= .returned (.bool r)∧Below w.heap.size w w':=by
 have HB:=Aside0.mk (Below.refl w.heap.size w)
 unfold spec_l3Line.f at h
 have H:=h
 clear h
 obtain⟨t131,A3,H⟩:=bd H;(try dsimp only at H)
 by_cases c4:t131=true
 rotate_left
 ·replace c4:=Bool.eq_false_iff.mpr c4
  subst c4
  rw[if_neg (show ¬(false=true)by decide)]at H
  obtain rfl:=Option.some.inj H
  go_enter Try.func80,Try.ntmps80
  go_wp2_with (first|(refine bx 2 #[.int .i64 a0_0,.bool a0_1] 27 ?_;intro gb130 hg w15 hbox hb;have BK130:=ak hbox;have GE130:=gw HB hg;replace HB:=bs HB hb;clear hb hbox hg;have hcz16_0:=bc BK130 0 rfl;have hcz16_1:=bc BK130 1 rfl)|(refine gs 6 Try.func41 #[.agg #[.int .i64 a0_0,.bool a0_1]] ?_;(with_reducible refine(spec_l2Road.calls a0_0 a0_1 false _ A3.out).mono ?_);rintro e w17 ⟨rfl,hb⟩;refine⟨_,rfl,?_⟩;replace BK130:=kb BK130 hb;replace HB:=ak (below_step (h1 HB.out GE130.out) hb);(try clear hb);(try clear hk);(try clear hi)))
  go_ret
  exact⟨fe,h1 HB.out GE130.out⟩
 subst c4
 rw[if_pos rfl]at H
 by_cases c5:a0_1=true
 ·subst c5
  rw[if_pos rfl]at H
  obtain rfl:=Option.some.inj H
  go_enter Try.func80,Try.ntmps80
  go_wp2_with (first|(refine bx 2 #[.int .i64 a0_0,.bool true] 27 ?_;intro gb130 hg w6 hbox hb;have BK130:=ak hbox;have GE130:=gw HB hg;replace HB:=bs HB hb;clear hb hbox hg;have hcz7_0:=bc BK130 0 rfl;have hcz7_1:=bc BK130 1 rfl)|(refine gs 6 Try.func41 #[.agg #[.int .i64 a0_0,.bool true]] ?_;(with_reducible refine(spec_l2Road.calls a0_0 true true _ A3.out).mono ?_);rintro e w8 ⟨rfl,hb⟩;refine⟨_,rfl,?_⟩;replace BK130:=kb BK130 hb;replace HB:=ak (below_step (h1 HB.out GE130.out) hb);(try clear hb);(try clear hk);(try clear hi);have hcz9_1:=bc BK130 1 rfl))
  go_ret
  exact⟨fe,h1 HB.out GE130.out⟩
 replace c5:=Bool.eq_false_iff.mpr c5
 subst c5
 rw[if_neg (show ¬(false=true)by decide)]at H
 obtain⟨t132,A10,H⟩:=bd H;(try dsimp only at H)
 obtain rfl:=Option.some.inj H
 go_enter Try.func80,Try.ntmps80
 go_wp2_with (first|(refine bx 2 #[.int .i64 a0_0,.bool false] 27 ?_;intro gb130 hg w11 hbox hb;have BK130:=ak hbox;have GE130:=gw HB hg;replace HB:=bs HB hb;clear hb hbox hg;have hcz12_0:=bc BK130 0 rfl;have hcz12_1:=bc BK130 1 rfl)|(refine gs 6 Try.func41 #[.agg #[.int .i64 a0_0,.bool false]] ?_;(with_reducible refine(spec_l2Road.calls a0_0 false true _ A3.out).mono ?_);rintro e w13 ⟨rfl,hb⟩;refine⟨_,rfl,?_⟩;replace BK130:=kb BK130 hb;replace HB:=ak (below_step (h1 HB.out GE130.out) hb);(try clear hb);(try clear hk);(try clear hi);have hcz14_0:=bc BK130 0 rfl;have hcz14_1:=bc BK130 1 rfl)|(go_at_call 42;(try simp only[Go.IntWalk.i64_left]);(with_reducible refine(spec_l1In.calls a1 0 (wrap64 (a0_0-1)) t132 _ A10.out).mono ?_);rintro e w' ⟨rfl,⟨nd,rfl⟩⟩))
 go_ret
 exact⟨fe,h1 HB.out GE130.out⟩
end
end Go.Proofs.Ytanfamfgdgcjpaa.QFnMoves
