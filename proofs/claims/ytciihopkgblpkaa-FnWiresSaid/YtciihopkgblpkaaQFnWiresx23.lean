/- Functions that the law FnWires comes to, and their walks: no condition but those named. -/
import Derived.Test.YtciihopkgblpkaaQFnWiresx0
import Derived.Test.YtciihopkgblpkaaQFnWiresx1
import Derived.Test.YtciihopkgblpkaaQFnWiresx3
import Derived.Test.YtciihopkgblpkaaQFnWiresx4
import Derived.Test.YtciihopkgblpkaaQFnWiresx5
import Derived.Test.YtciihopkgblpkaaQFnWiresx6
import Derived.Test.YtciihopkgblpkaaQFnWiresx7
import Derived.Test.YtciihopkgblpkaaQFnWiresx9
import Derived.Test.YtciihopkgblpkaaQFnWiresx10
import Derived.Test.YtciihopkgblpkaaQFnWiresx11
import Derived.Test.YtciihopkgblpkaaQFnWiresx14
import Derived.Test.YtciihopkgblpkaaQFnWiresx15
import Derived.Test.YtciihopkgblpkaaQFnWiresx22
namespace Go.Proofs.Ytciihopkgblpkaa.QFnWires
open Go.RowKit Go.Proofs.YtciihopkgblpkaaW.PrintWords Go.Proofs.YtciihopkgblpkaaW.PrintLast Go.Proofs.YtciihopkgblpkaaW.PrintMore Go.Proofs.Ytciihopkgblpkaa.Short
attribute [local go_sem] max2_int min2_int max_two min_two max_three min_three max_four min_four
set_option linter.unusedVariables false
set_option linter.unusedSimpArgs false

section
open Kd
set_option maxHeartbeats 8000000 in
set_option maxRecDepth 1000000 in
theorem laws_FnWires.calls (k : Nat) (A0 : Option Addr) (c0 : Nat) (l0 : List Int) (r : Bool) (w : World) (hr0 : Kd.C (Kd.int .u8) w A0 l0.length l0) (hc0 : l0.length ≤ c0) (h : laws_FnWires.f k l0 = some r) :
  Calls Try.prog 10 #[.slice A0 l0.length c0] w fun e w'=>e = .returned (.bool r) ∧ Below w.heap.size w w':=by
 have hu27:=Try.underlying27
 have HR0:=Aside0.mk hr0
 have HC0:=Aside0.mk hc0
 clear hr0 hc0
 have HB:=Aside0.mk (Below.refl w.heap.size w)
 have H : ((laws_rBig.f l0).bind fun t519=>(if t519 = true then (some true) else ((spec_DrawFallsOf.f k l0).bind fun bt520=>((impl_FallsOf.f k bt520.1 bt520.2.1 bt520.2.2).bind fun bt528=>((spec_FallsOf.f k bt520.1 bt520.2.1 bt520.2.2).bind fun bt535=>(if (bt528.2.2 != bt535.2.2) = true then (laws_FnWires.j0 k l0 bt528.1 bt528.2.1 bt528.2.2 true bt520.1 bt520.2.1 bt520.2.2) else ((impl_IsWire.f k bt520.1 bt520.2.1 bt520.2.2).bind fun t542=>(if (bt528.2.2 != t542) = true then (laws_FnWires.j0 k l0 bt528.1 bt528.2.1 bt528.2.2 true bt520.1 bt520.2.1 bt520.2.2) else ((laws_rInts.f k bt528.1 bt535.1).bind fun t543=>(if t543 = true then ((laws_rInts.f k bt528.2.1 bt535.2.1).bind fun t544=>(laws_FnWires.j0 k l0 bt528.1 bt528.2.1 bt528.2.2 (!t544) bt520.1 bt520.2.1 bt520.2.2)) else (laws_FnWires.j0 k l0 bt528.1 bt528.2.1 bt528.2.2 true bt520.1 bt520.2.1 bt520.2.2))))))))))) = some r:=h
 clear h
 obtain ⟨t519,A2,H⟩:=bd H;(try dsimp only at H)
 by_cases c3 : t519 = true
 ·subst c3
  rw [if_pos rfl] at H
  as_aux_lemma =>
   obtain rfl:=Option.some.inj H
   go_enter Try.func10,Try.ntmps10
   have go_:=trivial;repeat ((first|clear go_|go_quiet (first|(go_at_call 33;(with_reducible refine (laws_rBig.calls _ _ l0 true _ ?side1 ?side2 A2.out).mono ?_);(case side1=>repeat (first|exact HR0.out|(with_reducible refine C_alloc ?_ _)|(with_reducible refine C_drewN ?_ _)|(with_reducible refine C_drew ?_)));(case side2=>exact HC0.out);rintro e w' ⟨rfl,⟨nd,rfl⟩⟩;(try first|exact ⟨rfl,_,World.drewN_drewN _ _ _⟩|exact ⟨rfl,_,Eq.trans (World.drewN_drewN _ _ _) (congrArg (World.drewN _) (Nat.add_assoc _ _ _))⟩))));try go_wp2_with (first|(go_at_call 33;(with_reducible refine (laws_rBig.calls _ _ l0 true _ ?side1 ?side2 A2.out).mono ?_);(case side1=>repeat (first|exact HR0.out|(with_reducible refine C_alloc ?_ _)|(with_reducible refine C_drewN ?_ _)|(with_reducible refine C_drew ?_)));(case side2=>exact HC0.out);rintro e w' ⟨rfl,⟨nd,rfl⟩⟩;(try first|exact ⟨rfl,_,World.drewN_drewN _ _ _⟩|exact ⟨rfl,_,Eq.trans (World.drewN_drewN _ _ _) (congrArg (World.drewN _) (Nat.add_assoc _ _ _))⟩))))
   go_ret
   exact ⟨fe,hm HB.out⟩
 replace c3:=Bool.eq_false_iff.mpr c3
 subst c3
 rw [if_neg (show ¬ (false = true) by decide)] at H
 obtain ⟨⟨t520,t521,t524⟩,A4,H⟩:=bd H;(try dsimp only at H)
 obtain ⟨⟨t528,t531,t534⟩,A5,H⟩:=bd H;(try dsimp only at H)
 obtain ⟨⟨t535,t538,t541⟩,A6,H⟩:=bd H;(try dsimp only at H)
 have HC7:=Aside0.mk H
 clear H
 go_enter Try.func10,Try.ntmps10
 have go_:=trivial;repeat ((first|clear go_|go_quiet (first|(go_at_call 33;(with_reducible refine (laws_rBig.calls _ _ l0 false _ ?side1 ?side2 A2.out).mono ?_);(case side1=>repeat (first|exact HR0.out|(with_reducible refine C_alloc ?_ _)|(with_reducible refine C_drewN ?_ _)|(with_reducible refine C_drew ?_)));(case side2=>exact HC0.out);rintro e w' ⟨rfl,⟨nd,rfl⟩⟩;(try first|exact ⟨rfl,_,World.drewN_drewN _ _ _⟩|exact ⟨rfl,_,Eq.trans (World.drewN_drewN _ _ _) (congrArg (World.drewN _) (Nat.add_assoc _ _ _))⟩))));go_upto_region 6 with (first|(go_at_call 33;(with_reducible refine (laws_rBig.calls _ _ l0 false _ ?side1 ?side2 A2.out).mono ?_);(case side1=>repeat (first|exact HR0.out|(with_reducible refine C_alloc ?_ _)|(with_reducible refine C_drewN ?_ _)|(with_reducible refine C_drew ?_)));(case side2=>exact HC0.out);rintro e w' ⟨rfl,⟨nd,rfl⟩⟩;(try first|exact ⟨rfl,_,World.drewN_drewN _ _ _⟩|exact ⟨rfl,_,Eq.trans (World.drewN_drewN _ _ _) (congrArg (World.drewN _) (Nat.add_assoc _ _ _))⟩))|(go_at_call 34;(with_reducible refine (spec_DrawFallsOf.calls k _ _ l0 t520 t521 t524 _ ?side1 ?side2 A4.out).mono ?_);(case side1=>repeat (first|exact HR0.out|(with_reducible refine C_alloc ?_ _)|(with_reducible refine C_drewN ?_ _)|(with_reducible refine C_drew ?_)));(case side2=>exact HC0.out);rintro e w8 ⟨v522,v525,rfl,ho0,ho1,hb⟩;have HO523:=ak (R_lower ho0 (below_size (hm HB.out)));have HO526:=ak (R_lower ho1 (below_size (hm HB.out)));replace HB:=bs HB hb;(try clear hb);(try clear hk);(try clear hi);(try clear ho0);(try clear ho1))|((with_reducible refine gate_dst (N:=3) rfl ?_);(try (refine gate_guard (by rfl) ?_;dsimp only));refine box_event ?hg (N:=3) ?hd (cs:=#[.int .i64 0,.slice none 0 0,.slice none 0 0]) (t:=27) ?hr ?_;(case hd=>rfl);(case hg=>rfl);(case hr=>first|(go_simp;done)|(go_simp;rfl));intro gb527 hg w9 hbox hb;replace HO523:=rb HO523 hb;replace HO526:=rb HO526 hb;have BK527:=ak hbox;have GW527:=gw HB hg;have GE527:=gw HB hg;replace HB:=bs HB hb;clear hb hbox hg;have hcz10_0:=bc BK527 0 rfl;have hcz10_1:=bc BK527 1 rfl;have hcz10_2:=bc BK527 2 rfl;have hfz10_0:=bf BK527 0;have hfz10_1:=bf BK527 1;have hfz10_2:=bf BK527 2;obtain ⟨Ao11,co11,eo11⟩:=R_slice HO523.out;subst eo11;obtain ⟨Ao12,co12,eo12⟩:=R_slice HO526.out;subst eo12)|(go_at_call 30;(with_reducible refine (impl_FallsOf.calls k t520 _ _ t521 _ _ t524 t528 t531 t534 _ ?side1 ?side2 ?side3 ?side4 A5.out).mono ?_);(case side1=>refine (R_reads' (e:=3) (base:=w.heap.size) (ok:=fun k_=>ob k_ (.slice Ao12 t524.length co12)) (n:=t521.length) (c:=co11) ?_).2.2;exact (by (with_reducible repeat (first|apply R_alloc|apply R_drewN|apply R_drew));exact (R_mono (R_far (p:=⟨gb527,2,none⟩) (R_far (p:=⟨gb527,1,none⟩) (R_far (p:=⟨gb527,0,none⟩) (R_types HO523.out BK527.out (by decide)) (fun _ hk=>hk.2) (.int .i64 t520)) (fun _ hk=>hk.2) (.slice Ao11 t521.length co11)) (fun _ hk=>hk.2) (.slice Ao12 t524.length co12)) (fun _ h_=>h_.1))));(case side2=>exact (R_reads' HO523.out).2.1);(case side3=>refine (R_reads' (e:=3) (base:=w.heap.size) (ok:=fun k_=>ob k_ (.slice Ao11 t521.length co11)) (n:=t524.length) (c:=co12) ?_).2.2;exact (by (with_reducible repeat (first|apply R_alloc|apply R_drewN|apply R_drew));exact (R_mono (R_far (p:=⟨gb527,2,none⟩) (R_far (p:=⟨gb527,1,none⟩) (R_far (p:=⟨gb527,0,none⟩) (R_types HO526.out BK527.out (by decide)) (fun _ hk=>hk.2) (.int .i64 t520)) (fun _ hk=>hk.2) (.slice Ao11 t521.length co11)) (fun _ hk=>hk.2) (.slice Ao12 t524.length co12)) (fun _ h_=>h_.1))));(case side4=>exact (R_reads' HO526.out).2.1);rintro e w13 ⟨v529,v532,rfl,ho0,ho1,hb⟩;have HO530:=ak (R_lower (R_new' (R_new' ho0 (R_lt (by (with_reducible repeat (first|apply R_alloc|apply R_drewN|apply R_drew));exact (R_mono (R_far (p:=⟨gb527,2,none⟩) (R_far (p:=⟨gb527,1,none⟩) (R_far (p:=⟨gb527,0,none⟩) (R_types HO523.out BK527.out (by decide)) (fun _ hk=>hk.2) (.int .i64 t520)) (fun _ hk=>hk.2) (.slice Ao11 t521.length co11)) (fun _ hk=>hk.2) (.slice Ao12 t524.length co12)) (fun _ h_=>h_.1))))) (R_lt (by (with_reducible repeat (first|apply R_alloc|apply R_drewN|apply R_drew));exact (R_mono (R_far (p:=⟨gb527,2,none⟩) (R_far (p:=⟨gb527,1,none⟩) (R_far (p:=⟨gb527,0,none⟩) (R_types HO526.out BK527.out (by decide)) (fun _ hk=>hk.2) (.int .i64 t520)) (fun _ hk=>hk.2) (.slice Ao11 t521.length co11)) (fun _ hk=>hk.2) (.slice Ao12 t524.length co12)) (fun _ h_=>h_.1))))) (below_size (h1 HB.out GE527.out)));have HO533:=ak (R_lower (R_new' (R_new' ho1 (R_lt (by (with_reducible repeat (first|apply R_alloc|apply R_drewN|apply R_drew));exact (R_mono (R_far (p:=⟨gb527,2,none⟩) (R_far (p:=⟨gb527,1,none⟩) (R_far (p:=⟨gb527,0,none⟩) (R_types HO523.out BK527.out (by decide)) (fun _ hk=>hk.2) (.int .i64 t520)) (fun _ hk=>hk.2) (.slice Ao11 t521.length co11)) (fun _ hk=>hk.2) (.slice Ao12 t524.length co12)) (fun _ h_=>h_.1))))) (R_lt (by (with_reducible repeat (first|apply R_alloc|apply R_drewN|apply R_drew));exact (R_mono (R_far (p:=⟨gb527,2,none⟩) (R_far (p:=⟨gb527,1,none⟩) (R_far (p:=⟨gb527,0,none⟩) (R_types HO526.out BK527.out (by decide)) (fun _ hk=>hk.2) (.int .i64 t520)) (fun _ hk=>hk.2) (.slice Ao11 t521.length co11)) (fun _ hk=>hk.2) (.slice Ao12 t524.length co12)) (fun _ h_=>h_.1))))) (below_size (h1 HB.out GE527.out)));replace HO523:=ak (R_mono (R_told (R_told (R_old (by (with_reducible repeat (first|apply R_alloc|apply R_drewN|apply R_drew));exact (R_mono (R_far (p:=⟨gb527,2,none⟩) (R_far (p:=⟨gb527,1,none⟩) (R_far (p:=⟨gb527,0,none⟩) (R_types HO523.out BK527.out (by decide)) (fun _ hk=>hk.2) (.int .i64 t520)) (fun _ hk=>hk.2) (.slice Ao11 t521.length co11)) (fun _ hk=>hk.2) (.slice Ao12 t524.length co12)) (fun _ h_=>h_.1))) hb) (R_base ho0)) (R_base ho1)) (fun _ h_=>h_.1));replace HO526:=ak (R_mono (R_told (R_told (R_old (by (with_reducible repeat (first|apply R_alloc|apply R_drewN|apply R_drew));exact (R_mono (R_far (p:=⟨gb527,2,none⟩) (R_far (p:=⟨gb527,1,none⟩) (R_far (p:=⟨gb527,0,none⟩) (R_types HO526.out BK527.out (by decide)) (fun _ hk=>hk.2) (.int .i64 t520)) (fun _ hk=>hk.2) (.slice Ao11 t521.length co11)) (fun _ hk=>hk.2) (.slice Ao12 t524.length co12)) (fun _ h_=>h_.1))) hb) (R_base ho0)) (R_base ho1)) (fun _ h_=>h_.1));replace BK527:=ak (blk_below (g:=gb527) (o:=.cells #[.int .i64 t520,.slice Ao11 t521.length co11,.slice Ao12 t524.length co12] 27 (0,0)) (by (with_reducible repeat (first|apply blk_drewN|apply blk_drew|apply blk_alloc));refine blk_put (cs:=#[.int .i64 t520,.slice Ao11 t521.length co11,.slice none 0 0]) ?_ 2 _ rfl;(with_reducible repeat (first|apply blk_drewN|apply blk_drew|apply blk_alloc));refine blk_put (cs:=#[.int .i64 t520,.slice none 0 0,.slice none 0 0]) ?_ 1 _ rfl;(with_reducible repeat (first|apply blk_drewN|apply blk_drew|apply blk_alloc));refine blk_put (cs:=#[.int .i64 0,.slice none 0 0,.slice none 0 0]) ?_ 0 _ rfl;exact bm BK527.out) hb);replace HB:=ak (below_step (h1 HB.out GE527.out) hb);(try clear hb);(try clear hk);(try clear hi);(try clear ho0);(try clear ho1);have hcz14_0:=bc BK527 0 rfl;have hcz14_1:=bc BK527 1 rfl;have hcz14_2:=bc BK527 2 rfl;have hfz14_0:=bf BK527 0;have hfz14_1:=bf BK527 1;have hfz14_2:=bf BK527 2)|(go_at_call 29;(with_reducible refine (spec_FallsOf.calls k t520 _ _ t521 _ _ t524 t535 t538 t541 _ ?side1 ?side2 ?side3 ?side4 A6.out).mono ?_);(case side1=>exact cm (R_reads' HO523.out).2.2);(case side2=>exact (R_reads' HO523.out).2.1);(case side3=>exact cm (R_reads' HO526.out).2.2);(case side4=>exact (R_reads' HO526.out).2.1);rintro e w15 ⟨v536,v539,rfl,ho0,ho1,hb⟩;have HO537:=ak (R_lower (R_new' (R_new' (R_new' (R_new' ho0 (R_lt (rm HO523.out))) (R_lt (rm HO526.out))) (R_lt (rm HO530.out))) (R_lt (rm HO533.out))) (below_size (h1 HB.out GE527.out)));have HO540:=ak (R_lower (R_new' (R_new' (R_new' (R_new' ho1 (R_lt (rm HO523.out))) (R_lt (rm HO526.out))) (R_lt (rm HO530.out))) (R_lt (rm HO533.out))) (below_size (h1 HB.out GE527.out)));replace HO523:=ak (R_mono (R_told (R_told (R_old (rm HO523.out) hb) (R_base ho0)) (R_base ho1)) (fun _ h_=>h_.1));replace HO526:=ak (R_mono (R_told (R_told (R_old (rm HO526.out) hb) (R_base ho0)) (R_base ho1)) (fun _ h_=>h_.1));replace HO530:=ak (R_mono (R_told (R_told (R_old (rm HO530.out) hb) (R_base ho0)) (R_base ho1)) (fun _ h_=>h_.1));replace HO533:=ak (R_mono (R_told (R_told (R_old (rm HO533.out) hb) (R_base ho0)) (R_base ho1)) (fun _ h_=>h_.1));replace BK527:=kb BK527 hb;replace HB:=ak (below_step (h1 HB.out GE527.out) hb);(try clear hb);(try clear hk);(try clear hi);(try clear ho0);(try clear ho1))))
 (try simp only [ap])
 go_cut [83] (fun v83 wc=>∃ (kq : Nat) (x83_6 : Bool),v83 = .bool x83_6 ∧ Aside0 (laws_FnWires.j0 kq l0 t528 t531 t534 x83_6 t520 t521 t524 = some r) ∧ Aside0 (kq ≤ k) ∧ Aside0 (Kd.R (Kd.int .i64) 3 wc w.heap.size (fun k_=>ob k_ v532 ∧ ob k_ (.slice Ao11 t521.length co11) ∧ ob k_ (.slice Ao12 t524.length co12)) v529 t528) ∧ Aside0 (Kd.R (Kd.int .i64) 3 wc w.heap.size (fun k_=>ob k_ v529 ∧ ob k_ (.slice Ao11 t521.length co11) ∧ ob k_ (.slice Ao12 t524.length co12)) v532 t531) ∧ Aside0 (Kd.R (Kd.int .i64) 3 wc w.heap.size (fun k_=>ob k_ v529 ∧ ob k_ v532 ∧ ob k_ (.slice Ao12 t524.length co12)) (.slice Ao11 t521.length co11) t521) ∧ Aside0 (Kd.R (Kd.int .i64) 3 wc w.heap.size (fun k_=>ob k_ v529 ∧ ob k_ v532 ∧ ob k_ (.slice Ao11 t521.length co11)) (.slice Ao12 t524.length co12) t524) ∧ Aside0 (wc.heap[gb527]? = some (.cells #[.int .i64 t520,(.slice Ao11 t521.length co11),(.slice Ao12 t524.length co12)] 27 (0,0))) ∧ Aside0 (Below w.heap.size w wc))
 case first =>
  have H:=HC7.out
  clear HC7
  by_cases c16 : (t534 != t541) = true
  ·rw [if_pos c16] at H
   have c16b0 : (t534 != t541) = true:=c16
   (try (have c16b1 : decide (t534 = t541) = false:=by simpa using c16))
   (try (have c16b2 : (t534 == t541) = false:=by simpa using c16))
   (try (have c16b3 : ¬ (t534 = t541):=by simpa using c16))
   clear c16
   (first|rw [c16b0]|(simp only [i64_w,i32_w];rw [c16b0])|skip)
   as_aux_lemma =>
    have H':=Aside0.mk H
    clear H
    go_wp2
    repeat (go_quiet (fail);try go_wp2)
    go_meet
    case rel=>exact ⟨_,(true),fd,H',⟨by first|exact Nat.le_refl _|omega⟩,rq HO530,rq HO533,rq HO523,rq HO526,⟨bm BK527.out⟩,⟨h1 HB.out GE527.out⟩⟩
  rw [if_neg c16] at H
  have c16b0 : (t534 != t541) = false:=by simpa using c16
  (try (have c16b1 : decide (t534 = t541) = true:=by simpa using c16))
  (try (have c16b2 : (t534 == t541) = true:=by simpa using c16))
  clear c16
  (first|rw [c16b0]|(simp only [i64_w,i32_w];rw [c16b0])|skip)
  obtain ⟨t542,A17,H⟩:=bd H;(try dsimp only at H)
  by_cases c18 : (t534 != t542) = true
  ·rw [if_pos c18] at H
   have c18b0 : (t534 != t542) = true:=c18
   (try (have c18b1 : decide (t534 = t542) = false:=by simpa using c18))
   (try (have c18b2 : (t534 == t542) = false:=by simpa using c18))
   (try (have c18b3 : ¬ (t534 = t542):=by simpa using c18))
   clear c18
   as_aux_lemma =>
    have H':=Aside0.mk H
    clear H
    have hcz19_0:=bc BK527 0 rfl
    have hcz19_1:=bc BK527 1 rfl
    have hcz19_2:=bc BK527 2 rfl
    have hfz19_0:=bf BK527 0
    have hfz19_1:=bf BK527 1
    have hfz19_2:=bf BK527 2
    have go_:=trivial;repeat ((first|clear go_|go_quiet (fail));try go_wp2_with (first|(go_at_call 14;(with_reducible refine (impl_IsWire.calls k t520 _ _ t521 _ _ t524 t542 _ ?side1 ?side2 ?side3 ?side4 A17.out).mono ?_);(case side1=>exact cm (R_reads' HO523.out).2.2);(case side2=>exact (R_reads' HO523.out).2.1);(case side3=>exact cm (R_reads' HO526.out).2.2);(case side4=>exact (R_reads' HO526.out).2.1);rintro e w20 ⟨rfl,hb⟩;replace HO523:=rb HO523 hb;replace HO526:=rb HO526 hb;replace HO530:=rb HO530 hb;replace HO533:=rb HO533 hb;replace HO537:=rb HO537 hb;replace HO540:=rb HO540 hb;replace BK527:=kb BK527 hb;replace HB:=ak (below_step (h1 HB.out GE527.out) hb);(try clear hb);(try clear hk);(try clear hi))))
    go_meet
    case rel=>exact ⟨_,(true),fd,H',⟨by first|exact Nat.le_refl _|omega⟩,rq HO530,rq HO533,rq HO523,rq HO526,⟨bm BK527.out⟩,⟨h1 HB.out GE527.out⟩⟩
  rw [if_neg c18] at H
  have c18b0 : (t534 != t542) = false:=by simpa using c18
  (try (have c18b1 : decide (t534 = t542) = true:=by simpa using c18))
  (try (have c18b2 : (t534 == t542) = true:=by simpa using c18))
  clear c18
  obtain ⟨t543,A21,H⟩:=bd H;(try dsimp only at H)
  by_cases c22 : t543 = true
  rotate_left
  ·replace c22:=Bool.eq_false_iff.mpr c22
   subst c22
   rw [if_neg (show ¬ (false = true) by decide)] at H
   as_aux_lemma =>
    have H':=Aside0.mk H
    clear H
    have hcz30_0:=bc BK527 0 rfl
    have hcz30_1:=bc BK527 1 rfl
    have hcz30_2:=bc BK527 2 rfl
    have hfz30_0:=bf BK527 0
    have hfz30_1:=bf BK527 1
    have hfz30_2:=bf BK527 2
    have go_:=trivial;repeat ((first|clear go_|go_quiet (first|(go_at_call 35;(with_reducible refine (laws_rInts.calls k _ _ t528 _ _ t535 false _ ?side1 ?side2 ?side3 ?side4 A21.out).mono ?_);(case side1=>exact cm (R_reads' HO530.out).2.2);(case side2=>exact (R_reads' HO530.out).2.1);(case side3=>exact cm (R_reads' HO537.out).2.2);(case side4=>exact (R_reads' HO537.out).2.1);rintro e w' ⟨rfl,⟨nd,rfl⟩⟩;(try first|exact ⟨rfl,_,World.drewN_drewN _ _ _⟩|exact ⟨rfl,_,Eq.trans (World.drewN_drewN _ _ _) (congrArg (World.drewN _) (Nat.add_assoc _ _ _))⟩))));try go_wp2_with (first|(go_at_call 14;(with_reducible refine (impl_IsWire.calls k t520 _ _ t521 _ _ t524 t542 _ ?side1 ?side2 ?side3 ?side4 A17.out).mono ?_);(case side1=>exact cm (R_reads' HO523.out).2.2);(case side2=>exact (R_reads' HO523.out).2.1);(case side3=>exact cm (R_reads' HO526.out).2.2);(case side4=>exact (R_reads' HO526.out).2.1);rintro e w31 ⟨rfl,hb⟩;replace HO523:=rb HO523 hb;replace HO526:=rb HO526 hb;replace HO530:=rb HO530 hb;replace HO533:=rb HO533 hb;replace HO537:=rb HO537 hb;replace HO540:=rb HO540 hb;replace BK527:=kb BK527 hb;replace HB:=ak (below_step (h1 HB.out GE527.out) hb);(try clear hb);(try clear hk);(try clear hi);obtain ⟨Ao32,co32,eo32⟩:=R_slice HO530.out;subst eo32;obtain ⟨Ao33,co33,eo33⟩:=R_slice HO537.out;subst eo33)|(go_at_call 35;(with_reducible refine (laws_rInts.calls k _ _ t528 _ _ t535 false _ ?side1 ?side2 ?side3 ?side4 A21.out).mono ?_);(case side1=>exact cm (R_reads' HO530.out).2.2);(case side2=>exact (R_reads' HO530.out).2.1);(case side3=>exact cm (R_reads' HO537.out).2.2);(case side4=>exact (R_reads' HO537.out).2.1);rintro e w' ⟨rfl,⟨nd,rfl⟩⟩;(try first|exact ⟨rfl,_,World.drewN_drewN _ _ _⟩|exact ⟨rfl,_,Eq.trans (World.drewN_drewN _ _ _) (congrArg (World.drewN _) (Nat.add_assoc _ _ _))⟩))))
    go_meet
    case rel=>exact ⟨_,(true),fd,H',⟨by first|exact Nat.le_refl _|omega⟩,rq HO530,rq HO533,rq HO523,rq HO526,⟨bm BK527.out⟩,⟨h1 HB.out GE527.out⟩⟩
  subst c22
  rw [if_pos rfl] at H
  obtain ⟨t544,A23,H⟩:=bd H;(try dsimp only at H)
  as_aux_lemma =>
   have H':=Aside0.mk H
   clear H
   have hcz24_0:=bc BK527 0 rfl
   have hcz24_1:=bc BK527 1 rfl
   have hcz24_2:=bc BK527 2 rfl
   have hfz24_0:=bf BK527 0
   have hfz24_1:=bf BK527 1
   have hfz24_2:=bf BK527 2
   have go_:=trivial;repeat ((first|clear go_|go_quiet (first|(go_at_call 35;(with_reducible refine (laws_rInts.calls k _ _ t528 _ _ t535 true _ ?side1 ?side2 ?side3 ?side4 A21.out).mono ?_);(case side1=>exact cm (R_reads' HO530.out).2.2);(case side2=>exact (R_reads' HO530.out).2.1);(case side3=>exact cm (R_reads' HO537.out).2.2);(case side4=>exact (R_reads' HO537.out).2.1);rintro e w' ⟨rfl,⟨nd,rfl⟩⟩;(try first|exact ⟨rfl,_,World.drewN_drewN _ _ _⟩|exact ⟨rfl,_,Eq.trans (World.drewN_drewN _ _ _) (congrArg (World.drewN _) (Nat.add_assoc _ _ _))⟩);obtain ⟨Ao28,co28,eo28⟩:=R_slice HO533.out;subst eo28;obtain ⟨Ao29,co29,eo29⟩:=R_slice HO540.out;subst eo29)|(go_at_call 35;(with_reducible refine (laws_rInts.calls k _ _ t531 _ _ t538 t544 _ ?side1 ?side2 ?side3 ?side4 A23.out).mono ?_);(case side1=>exact cm (R_reads' HO533.out).2.2);(case side2=>exact (R_reads' HO533.out).2.1);(case side3=>exact cm (R_reads' HO540.out).2.2);(case side4=>exact (R_reads' HO540.out).2.1);rintro e w' ⟨rfl,⟨nd,rfl⟩⟩;(try first|exact ⟨rfl,_,World.drewN_drewN _ _ _⟩|exact ⟨rfl,_,Eq.trans (World.drewN_drewN _ _ _) (congrArg (World.drewN _) (Nat.add_assoc _ _ _))⟩))));try go_wp2_with (first|(go_at_call 14;(with_reducible refine (impl_IsWire.calls k t520 _ _ t521 _ _ t524 t542 _ ?side1 ?side2 ?side3 ?side4 A17.out).mono ?_);(case side1=>exact cm (R_reads' HO523.out).2.2);(case side2=>exact (R_reads' HO523.out).2.1);(case side3=>exact cm (R_reads' HO526.out).2.2);(case side4=>exact (R_reads' HO526.out).2.1);rintro e w25 ⟨rfl,hb⟩;replace HO523:=rb HO523 hb;replace HO526:=rb HO526 hb;replace HO530:=rb HO530 hb;replace HO533:=rb HO533 hb;replace HO537:=rb HO537 hb;replace HO540:=rb HO540 hb;replace BK527:=kb BK527 hb;replace HB:=ak (below_step (h1 HB.out GE527.out) hb);(try clear hb);(try clear hk);(try clear hi);obtain ⟨Ao26,co26,eo26⟩:=R_slice HO530.out;subst eo26;obtain ⟨Ao27,co27,eo27⟩:=R_slice HO537.out;subst eo27)|(go_at_call 35;(with_reducible refine (laws_rInts.calls k _ _ t528 _ _ t535 true _ ?side1 ?side2 ?side3 ?side4 A21.out).mono ?_);(case side1=>exact cm (R_reads' HO530.out).2.2);(case side2=>exact (R_reads' HO530.out).2.1);(case side3=>exact cm (R_reads' HO537.out).2.2);(case side4=>exact (R_reads' HO537.out).2.1);rintro e w' ⟨rfl,⟨nd,rfl⟩⟩;(try first|exact ⟨rfl,_,World.drewN_drewN _ _ _⟩|exact ⟨rfl,_,Eq.trans (World.drewN_drewN _ _ _) (congrArg (World.drewN _) (Nat.add_assoc _ _ _))⟩);obtain ⟨Ao28,co28,eo28⟩:=R_slice HO533.out;subst eo28;obtain ⟨Ao29,co29,eo29⟩:=R_slice HO540.out;subst eo29)|(go_at_call 35;(with_reducible refine (laws_rInts.calls k _ _ t531 _ _ t538 t544 _ ?side1 ?side2 ?side3 ?side4 A23.out).mono ?_);(case side1=>exact cm (R_reads' HO533.out).2.2);(case side2=>exact (R_reads' HO533.out).2.1);(case side3=>exact cm (R_reads' HO540.out).2.2);(case side4=>exact (R_reads' HO540.out).2.1);rintro e w' ⟨rfl,⟨nd,rfl⟩⟩;(try first|exact ⟨rfl,_,World.drewN_drewN _ _ _⟩|exact ⟨rfl,_,Eq.trans (World.drewN_drewN _ _ _) (congrArg (World.drewN _) (Nat.add_assoc _ _ _))⟩))))
   go_meet
   case rel=>exact ⟨_,(!t544),fd,H',⟨by first|exact Nat.le_refl _|omega⟩,rq HO530,rq HO533,rq HO523,rq HO526,⟨bm BK527.out⟩,⟨h1 HB.out GE527.out⟩⟩
 clear HC7
 try clear c1
 try clear c2
 try clear p2
 try clear c3
 try clear c10
 try clear c16
 try clear c16b0
 try clear c16b1
 try clear c16b2
 try clear c18
 try clear c18b0
 try clear c18b1
 try clear c18b2
 try clear c22
 try clear hcz10_0
 try clear hcz10_1
 try clear hcz10_2
 try clear hcz14_0
 try clear hcz14_1
 try clear hcz14_2
 try clear hcz19_0
 try clear hcz19_1
 try clear hcz19_2
 try clear hcz24_0
 try clear hcz24_1
 try clear hcz24_2
 try clear hcz30_0
 try clear hcz30_1
 try clear hcz30_2
 try clear hfz10_0
 try clear hfz10_1
 try clear hfz10_2
 try clear hfz14_0
 try clear hfz14_1
 try clear hfz14_2
 try clear hfz19_0
 try clear hfz19_1
 try clear hfz19_2
 try clear hfz24_0
 try clear hfz24_1
 try clear hfz24_2
 try clear hfz30_0
 try clear hfz30_1
 try clear hfz30_2
 obtain ⟨kq,x83_6,rfl,HA,HJ6,HO_4,HO_5,HO_528001,HO_528002,BK527,HB⟩:=hcut
 cases kq with
 | zero=>exact absurd HA.out (by simp [laws_FnWires.j0])
 | succ kj6 =>
  have H:=HA.out
  clear HA
  simp only [laws_FnWires.j0] at H
  by_cases c34 : x83_6 = true
  ·subst c34
   rw [if_pos rfl] at H
   as_aux_lemma =>
    obtain rfl:=Option.some.inj H
    go_wp2
    repeat (go_quiet (fail);try go_wp2)
    go_ret
    exact ⟨fe,h1 HB.out GE527.out⟩
  replace c34:=Bool.eq_false_iff.mpr c34
  subst c34
  rw [if_neg (show ¬ (false = true) by decide)] at H
  exact laws_FnWires.rest1 (by assumption) (by assumption) HR0 HC0 GE527 HO_4 HO_5 HO_528001 HO_528002 BK527 HB HJ6 H
/-- THE ONE PURE STATEMENT of laws_FnWires: yours. -/
def laws_FnWires.Pure : Prop:=∀ (l0 : List Int),l0.length ≤ maxLen → l0.length * 1 ≤ 140737488351232 → (∀ x ∈ l0,(Lit.int .u8 x).wf = true) → ∃ k,laws_FnWires.f k l0 = some true
theorem laws_FnWires.walk (P : laws_FnWires.Pure) (a0 : Option Addr) (len0 cap0 : Nat) (z0 : List Int) (w : World) (w0 : (a0 = none ∧ len0 = 0 ∧ cap0 = 0 ∧ z0 = []) ∨ ∃ x,a0 = some x ∧ len0 ≤ cap0 ∧ cap0 ≤ maxLen ∧ z0.length = cap0 ∧ (∀ i,i < z0.length → w.cell? (x.add i) = some (.int .u8 (z0.getD i 0))) ∧ ∀ n ∈ z0,(Lit.int .u8 n).wf = true) (y0 : len0 * 1 ≤ 140737488351232) :
  Calls Try.prog 10 #[.slice a0 len0 cap0] w fun e w'=>e = .returned (.bool true) ∧ Below w.heap.size w w':=by
 obtain ⟨l0,rfl,hr0,hm0,hw0,hc0⟩:=ReadsInt.ofRowC w0
 obtain ⟨k,h⟩:=P l0 hm0 y0 hw0
 refine (laws_FnWires.calls k _ _ l0 true w (C_of_reads (d:=(0 : Int)) (h1:=fun _=>rfl) hr0) hc0 h).mono ?_
 rintro e w' ⟨rfl,hd⟩
 exact ⟨rfl,hd⟩

end

end Go.Proofs.Ytciihopkgblpkaa.QFnWires
