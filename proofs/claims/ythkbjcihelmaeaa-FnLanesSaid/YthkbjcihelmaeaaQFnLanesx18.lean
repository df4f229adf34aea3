/- Functions that the law FnLanes comes to, as Lean functions, with the proof that the Go code does what they say: written by a program of this session over the kit's print. No condition but those named. -/
import Derived.Test.YthkbjcihelmaeaaQFnLanesx0
import Derived.Test.YthkbjcihelmaeaaQFnLanesx1
import Derived.Test.YthkbjcihelmaeaaQFnLanesx2
import Derived.Test.YthkbjcihelmaeaaQFnLanesx3
import Derived.Test.YthkbjcihelmaeaaQFnLanesx4
import Derived.Test.YthkbjcihelmaeaaQFnLanesx5
import Derived.Test.YthkbjcihelmaeaaQFnLanesx6
import Derived.Test.YthkbjcihelmaeaaQFnLanesx7
import Derived.Test.YthkbjcihelmaeaaQFnLanesx8
import Derived.Test.YthkbjcihelmaeaaQFnLanesx9
import Derived.Test.YthkbjcihelmaeaaQFnLanesx17
namespace Go.Proofs.Ythkbjcihelmaeaa.QFnLanes
open Go.RowKit Go.Proofs.YthkbjcihelmaeaaW.PrintWords Go.Proofs.YthkbjcihelmaeaaW.PrintLast Go.Proofs.YthkbjcihelmaeaaW.PrintMore Go.Proofs.Ythkbjcihelmaeaa.Short
attribute [local go_sem] max2_int min2_int max_two min_two max_three min_three max_four min_four   -- for this text's walks alone
set_option linter.unusedVariables false
set_option linter.unusedSimpArgs false

section
open Kd
set_option maxHeartbeats 8000000 in
set_option maxRecDepth 1000000 in
theorem laws_FnLanes.calls (k : Nat) (A0 : Option Addr) (c0 : Nat) (l0 : List Int) (r : Bool) (w : World) (hr0 : Kd.C (Kd.int .u8) w A0 l0.length l0) (hc0 : l0.length ≤ c0) (h : laws_FnLanes.f k l0 = some r) :
  Calls Try.prog 12 #[.slice A0 l0.length c0] w fun e w'=>e = .returned (.bool r) ∧ Below w.heap.size w w':=by
 have HR0:=Aside0.mk hr0
 have HC0:=Aside0.mk hc0
 clear hr0 hc0
 have HB:=Aside0.mk (Below.refl w.heap.size w)
 have H : ((laws_rBig.f l0).bind fun t400=>(if t400 = true then (some true) else ((spec_DrawTurnLane.f k l0).bind fun t401=>((impl_TurnLane.f k t401).bind fun bt404=>((spec_TurnLane.f k t401).bind fun bt409=>(if bt404.2.1 = bt409.2.1 then (if (bt404.2.2 != bt409.2.2) = true then (laws_FnLanes.j0 k l0 t401 bt404.1 bt404.2.1 bt404.2.2 true) else ((impl_IsLane.f k t401).bind fun t414=>(if (bt404.2.2 != t414) = true then (laws_FnLanes.j0 k l0 t401 bt404.1 bt404.2.1 bt404.2.2 true) else ((laws_rInts.f k bt404.1 bt409.1).bind fun t415=>(laws_FnLanes.j0 k l0 t401 bt404.1 bt404.2.1 bt404.2.2 (!t415)))))) else (laws_FnLanes.j0 k l0 t401 bt404.1 bt404.2.1 bt404.2.2 true))))))) = some r:=h
 clear h
 replace H:=Option.bind_eq_some_iff.mp H
 obtain ⟨t400,A20,H⟩:=H
 replace H : (if t400 = true then (some true) else ((spec_DrawTurnLane.f k l0).bind fun t401=>((impl_TurnLane.f k t401).bind fun bt404=>((spec_TurnLane.f k t401).bind fun bt409=>(if bt404.2.1 = bt409.2.1 then (if (bt404.2.2 != bt409.2.2) = true then (laws_FnLanes.j0 k l0 t401 bt404.1 bt404.2.1 bt404.2.2 true) else ((impl_IsLane.f k t401).bind fun t414=>(if (bt404.2.2 != t414) = true then (laws_FnLanes.j0 k l0 t401 bt404.1 bt404.2.1 bt404.2.2 true) else ((laws_rInts.f k bt404.1 bt409.1).bind fun t415=>(laws_FnLanes.j0 k l0 t401 bt404.1 bt404.2.1 bt404.2.2 (!t415)))))) else (laws_FnLanes.j0 k l0 t401 bt404.1 bt404.2.1 bt404.2.2 true)))))) = some r:=H
 have A2:=Aside0.mk A20
 clear A20
 by_cases c3 : t400 = true
 ·subst c3
  have H1 : (some true) = some r:=by rw [if_pos rfl] at H;exact H
  clear H
  have H:=H1
  clear H1
  as_aux_lemma =>
   obtain rfl:=Option.some.inj H
   go_enter Try.func12,Try.ntmps12
   go_wp2_with (first|(go_at_call 35;(with_reducible refine (laws_rBig.calls _ _ l0 true _ ?side1 ?side2 A2.out).mono ?_);(case side1=>repeat (first|exact HR0.out|(with_reducible refine C_alloc ?_ _)|(with_reducible refine C_drewN ?_ _)|(with_reducible refine C_drew ?_)));(case side2=>exact HC0.out);rintro e w' ⟨rfl,⟨nd,rfl⟩⟩;(try first|exact ⟨rfl,_,World.drewN_drewN _ _ _⟩|exact ⟨rfl,_,Eq.trans (World.drewN_drewN _ _ _) (congrArg (World.drewN _) (Nat.add_assoc _ _ _))⟩)))
   repeat (go_quiet (first|(go_at_call 35;(with_reducible refine (laws_rBig.calls _ _ l0 true _ ?side1 ?side2 A2.out).mono ?_);(case side1=>repeat (first|exact HR0.out|(with_reducible refine C_alloc ?_ _)|(with_reducible refine C_drewN ?_ _)|(with_reducible refine C_drew ?_)));(case side2=>exact HC0.out);rintro e w' ⟨rfl,⟨nd,rfl⟩⟩;(try first|exact ⟨rfl,_,World.drewN_drewN _ _ _⟩|exact ⟨rfl,_,Eq.trans (World.drewN_drewN _ _ _) (congrArg (World.drewN _) (Nat.add_assoc _ _ _))⟩)));try go_wp2_with (first|(go_at_call 35;(with_reducible refine (laws_rBig.calls _ _ l0 true _ ?side1 ?side2 A2.out).mono ?_);(case side1=>repeat (first|exact HR0.out|(with_reducible refine C_alloc ?_ _)|(with_reducible refine C_drewN ?_ _)|(with_reducible refine C_drew ?_)));(case side2=>exact HC0.out);rintro e w' ⟨rfl,⟨nd,rfl⟩⟩;(try first|exact ⟨rfl,_,World.drewN_drewN _ _ _⟩|exact ⟨rfl,_,Eq.trans (World.drewN_drewN _ _ _) (congrArg (World.drewN _) (Nat.add_assoc _ _ _))⟩))))
   go_ret
   exact ⟨by first|rfl|(simp [errW_none,errW_some] <;> rfl)|(simp [*,errW_none,errW_some] <;> rfl),hm HB.out⟩
 replace c3:=Bool.eq_false_iff.mpr c3
 subst c3
 have H1 : ((spec_DrawTurnLane.f k l0).bind fun t401=>((impl_TurnLane.f k t401).bind fun bt404=>((spec_TurnLane.f k t401).bind fun bt409=>(if bt404.2.1 = bt409.2.1 then (if (bt404.2.2 != bt409.2.2) = true then (laws_FnLanes.j0 k l0 t401 bt404.1 bt404.2.1 bt404.2.2 true) else ((impl_IsLane.f k t401).bind fun t414=>(if (bt404.2.2 != t414) = true then (laws_FnLanes.j0 k l0 t401 bt404.1 bt404.2.1 bt404.2.2 true) else ((laws_rInts.f k bt404.1 bt409.1).bind fun t415=>(laws_FnLanes.j0 k l0 t401 bt404.1 bt404.2.1 bt404.2.2 (!t415)))))) else (laws_FnLanes.j0 k l0 t401 bt404.1 bt404.2.1 bt404.2.2 true))))) = some r:=by rw [if_neg (show ¬ (false = true) by decide)] at H;exact H
 clear H
 have H:=H1
 clear H1
 replace H:=Option.bind_eq_some_iff.mp H
 obtain ⟨t401,A40,H⟩:=H
 replace H : ((impl_TurnLane.f k t401).bind fun bt404=>((spec_TurnLane.f k t401).bind fun bt409=>(if bt404.2.1 = bt409.2.1 then (if (bt404.2.2 != bt409.2.2) = true then (laws_FnLanes.j0 k l0 t401 bt404.1 bt404.2.1 bt404.2.2 true) else ((impl_IsLane.f k t401).bind fun t414=>(if (bt404.2.2 != t414) = true then (laws_FnLanes.j0 k l0 t401 bt404.1 bt404.2.1 bt404.2.2 true) else ((laws_rInts.f k bt404.1 bt409.1).bind fun t415=>(laws_FnLanes.j0 k l0 t401 bt404.1 bt404.2.1 bt404.2.2 (!t415)))))) else (laws_FnLanes.j0 k l0 t401 bt404.1 bt404.2.1 bt404.2.2 true)))) = some r:=H
 have A4:=Aside0.mk A40
 clear A40
 replace H:=Option.bind_eq_some_iff.mp H
 obtain ⟨⟨t404,t405,t406⟩,A50,H⟩:=H
 replace H : ((spec_TurnLane.f k t401).bind fun bt409=>(if t405 = bt409.2.1 then (if (t406 != bt409.2.2) = true then (laws_FnLanes.j0 k l0 t401 t404 t405 t406 true) else ((impl_IsLane.f k t401).bind fun t414=>(if (t406 != t414) = true then (laws_FnLanes.j0 k l0 t401 t404 t405 t406 true) else ((laws_rInts.f k t404 bt409.1).bind fun t415=>(laws_FnLanes.j0 k l0 t401 t404 t405 t406 (!t415)))))) else (laws_FnLanes.j0 k l0 t401 t404 t405 t406 true))) = some r:=H
 have A5:=Aside0.mk A50
 clear A50
 replace H:=Option.bind_eq_some_iff.mp H
 obtain ⟨⟨t409,t410,t411⟩,A60,H⟩:=H
 replace H : (if t405 = t410 then (if (t406 != t411) = true then (laws_FnLanes.j0 k l0 t401 t404 t405 t406 true) else ((impl_IsLane.f k t401).bind fun t414=>(if (t406 != t414) = true then (laws_FnLanes.j0 k l0 t401 t404 t405 t406 true) else ((laws_rInts.f k t404 t409).bind fun t415=>(laws_FnLanes.j0 k l0 t401 t404 t405 t406 (!t415)))))) else (laws_FnLanes.j0 k l0 t401 t404 t405 t406 true)) = some r:=H
 have A6:=Aside0.mk A60
 clear A60
 have HC7:=Aside0.mk H
 clear H
 go_enter Try.func12,Try.ntmps12
 go_upto_region 6 with (first|(go_at_call 35;(with_reducible refine (laws_rBig.calls _ _ l0 false _ ?side1 ?side2 A2.out).mono ?_);(case side1=>repeat (first|exact HR0.out|(with_reducible refine C_alloc ?_ _)|(with_reducible refine C_drewN ?_ _)|(with_reducible refine C_drew ?_)));(case side2=>exact HC0.out);rintro e w' ⟨rfl,⟨nd,rfl⟩⟩;(try first|exact ⟨rfl,_,World.drewN_drewN _ _ _⟩|exact ⟨rfl,_,Eq.trans (World.drewN_drewN _ _ _) (congrArg (World.drewN _) (Nat.add_assoc _ _ _))⟩))|(go_at_call 36;(with_reducible refine (spec_DrawTurnLane.calls k _ _ l0 t401 _ ?side1 ?side2 A4.out).mono ?_);(case side1=>repeat (first|exact HR0.out|(with_reducible refine C_alloc ?_ _)|(with_reducible refine C_drewN ?_ _)|(with_reducible refine C_drew ?_)));(case side2=>exact HC0.out);rintro e w8 ⟨v402,rfl,ho0,hb⟩;have n0_:=Aside0.mk (R_lower ho0 (below_size (hm HB.out)));have n1_:=Aside0.mk (below_step (hm HB.out) hb);clear HB;have HO403:=n0_;have HB:=n1_;clear n0_ n1_;(try clear hb);(try clear hb2);(try clear hk);(try clear hi);(try clear ho0);obtain ⟨Ao9,co9,eo9⟩:=R_slice HO403.out;subst eo9)|(go_at_call 26;(with_reducible refine (impl_TurnLane.calls k _ _ t401 t404 t405 t406 _ ?side1 ?side2 A5.out).mono ?_);(case side1=>exact cm (R_reads' HO403.out).2.2);(case side2=>exact (R_reads' HO403.out).2.1);rintro e w10 ⟨v407,rfl,ho0,hb⟩;have n0_:=Aside0.mk (R_elder' (rm HO403.out) (R_base ho0) hb);have n1_:=Aside0.mk (R_lower (R_new' ho0 (R_lt (rm HO403.out))) (below_size (hm HB.out)));have n2_:=Aside0.mk (below_step (hm HB.out) hb);clear HO403;clear HB;have HO403:=n0_;have HO408:=n1_;have HB:=n2_;clear n0_ n1_ n2_;(try clear hb);(try clear hb2);(try clear hk);(try clear hi);(try clear ho0))|(go_at_call 25;(with_reducible refine (spec_TurnLane.calls k _ _ t401 t409 t410 t411 _ ?side1 ?side2 A6.out).mono ?_);(case side1=>exact cm (R_reads' HO403.out).2.2);(case side2=>exact (R_reads' HO403.out).2.1);rintro e w11 ⟨v412,rfl,ho0,hb⟩;have n0_:=Aside0.mk (R_elder' (rm HO403.out) (R_base ho0) hb);have n1_:=Aside0.mk (R_elder' (rm HO408.out) (R_base ho0) hb);have n2_:=Aside0.mk (R_lower (R_new' (R_new' ho0 (R_lt (rm HO403.out))) (R_lt (rm HO408.out))) (below_size (hm HB.out)));have n3_:=Aside0.mk (below_step (hm HB.out) hb);clear HO403;clear HO408;clear HB;have HO403:=n0_;have HO408:=n1_;have HO413:=n2_;have HB:=n3_;clear n0_ n1_ n2_ n3_;(try clear hb);(try clear hb2);(try clear hk);(try clear hi);(try clear ho0)))
 repeat (go_quiet (first|(go_at_call 35;(with_reducible refine (laws_rBig.calls _ _ l0 false _ ?side1 ?side2 A2.out).mono ?_);(case side1=>repeat (first|exact HR0.out|(with_reducible refine C_alloc ?_ _)|(with_reducible refine C_drewN ?_ _)|(with_reducible refine C_drew ?_)));(case side2=>exact HC0.out);rintro e w' ⟨rfl,⟨nd,rfl⟩⟩;(try first|exact ⟨rfl,_,World.drewN_drewN _ _ _⟩|exact ⟨rfl,_,Eq.trans (World.drewN_drewN _ _ _) (congrArg (World.drewN _) (Nat.add_assoc _ _ _))⟩)));go_upto_region 6 with (first|(go_at_call 35;(with_reducible refine (laws_rBig.calls _ _ l0 false _ ?side1 ?side2 A2.out).mono ?_);(case side1=>repeat (first|exact HR0.out|(with_reducible refine C_alloc ?_ _)|(with_reducible refine C_drewN ?_ _)|(with_reducible refine C_drew ?_)));(case side2=>exact HC0.out);rintro e w' ⟨rfl,⟨nd,rfl⟩⟩;(try first|exact ⟨rfl,_,World.drewN_drewN _ _ _⟩|exact ⟨rfl,_,Eq.trans (World.drewN_drewN _ _ _) (congrArg (World.drewN _) (Nat.add_assoc _ _ _))⟩))|(go_at_call 36;(with_reducible refine (spec_DrawTurnLane.calls k _ _ l0 t401 _ ?side1 ?side2 A4.out).mono ?_);(case side1=>repeat (first|exact HR0.out|(with_reducible refine C_alloc ?_ _)|(with_reducible refine C_drewN ?_ _)|(with_reducible refine C_drew ?_)));(case side2=>exact HC0.out);rintro e w8 ⟨v402,rfl,ho0,hb⟩;have n0_:=Aside0.mk (R_lower ho0 (below_size (hm HB.out)));have n1_:=Aside0.mk (below_step (hm HB.out) hb);clear HB;have HO403:=n0_;have HB:=n1_;clear n0_ n1_;(try clear hb);(try clear hb2);(try clear hk);(try clear hi);(try clear ho0);obtain ⟨Ao9,co9,eo9⟩:=R_slice HO403.out;subst eo9)|(go_at_call 26;(with_reducible refine (impl_TurnLane.calls k _ _ t401 t404 t405 t406 _ ?side1 ?side2 A5.out).mono ?_);(case side1=>exact cm (R_reads' HO403.out).2.2);(case side2=>exact (R_reads' HO403.out).2.1);rintro e w10 ⟨v407,rfl,ho0,hb⟩;have n0_:=Aside0.mk (R_elder' (rm HO403.out) (R_base ho0) hb);have n1_:=Aside0.mk (R_lower (R_new' ho0 (R_lt (rm HO403.out))) (below_size (hm HB.out)));have n2_:=Aside0.mk (below_step (hm HB.out) hb);clear HO403;clear HB;have HO403:=n0_;have HO408:=n1_;have HB:=n2_;clear n0_ n1_ n2_;(try clear hb);(try clear hb2);(try clear hk);(try clear hi);(try clear ho0))|(go_at_call 25;(with_reducible refine (spec_TurnLane.calls k _ _ t401 t409 t410 t411 _ ?side1 ?side2 A6.out).mono ?_);(case side1=>exact cm (R_reads' HO403.out).2.2);(case side2=>exact (R_reads' HO403.out).2.1);rintro e w11 ⟨v412,rfl,ho0,hb⟩;have n0_:=Aside0.mk (R_elder' (rm HO403.out) (R_base ho0) hb);have n1_:=Aside0.mk (R_elder' (rm HO408.out) (R_base ho0) hb);have n2_:=Aside0.mk (R_lower (R_new' (R_new' ho0 (R_lt (rm HO403.out))) (R_lt (rm HO408.out))) (below_size (hm HB.out)));have n3_:=Aside0.mk (below_step (hm HB.out) hb);clear HO403;clear HO408;clear HB;have HO403:=n0_;have HO408:=n1_;have HO413:=n2_;have HB:=n3_;clear n0_ n1_ n2_ n3_;(try clear hb);(try clear hb2);(try clear hk);(try clear hi);(try clear ho0))))
 (try simp only [ap])
 go_cut [84] (fun v84 wc=>∃ (kq : Nat) (x84_6 : Bool),v84 = .bool x84_6 ∧ Aside0 (laws_FnLanes.j0 kq l0 t401 t404 t405 t406 x84_6 = some r) ∧ Aside0 (kq ≤ k) ∧ Aside0 (Kd.R (Kd.int .i64) 3 wc w.heap.size (fun k_=>some k_ ≠ (v407 : Value).ownBlock) (.slice Ao9 t401.length co9) t401) ∧ Aside0 (Kd.R (Kd.int .i64) 3 wc w.heap.size (fun k_=>some k_ ≠ ((.slice Ao9 t401.length co9) : Value).ownBlock) v407 t404) ∧ Aside0 (Below w.heap.size w wc))
 case first =>
  have H:=HC7.out
  clear HC7
  by_cases c12 : t405 = t410
  rotate_left
  ·rw [if_neg c12] at H
   have c12b0 : (t405 == t410) = false:=beq_eq_false_iff_ne.mpr c12
   have c12b1 : (t405 != t410) = true:=bne_iff_ne.mpr c12
   (first|rw [c12b0]|(simp only [i64_w,i32_w];rw [c12b0])|skip)
   as_aux_lemma =>
    have H':=Aside0.mk H
    clear H
    go_wp2
    repeat (go_quiet (fail);try go_wp2)
    go_meet
    case rel=>exact ⟨_,(true),(by first|rfl|(simp;done)|(simp [*];done)),H',⟨by first|omega|exact Nat.le_refl _⟩,⟨rm (R_mono HO403.out (fun _ hk=>hk.1.2))⟩,⟨rm (R_mono HO408.out (fun _ hk=>hk.1.2))⟩,⟨hm HB.out⟩⟩
  rw [if_pos c12] at H
  have c12b0 : (t405 == t410) = true:=beq_iff_eq.mpr c12
  have c12b1 : (t405 != t410) = false:=bne_eq_false_iff_eq.mpr c12
  clear c12
  (first|rw [c12b0]|(simp only [i64_w,i32_w];rw [c12b0])|skip)
  by_cases c13 : (t406 != t411) = true
  ·rw [if_pos c13] at H
   have c13b0 : (t406 != t411) = true:=c13
   (try (have c13b1 : decide (t406 = t411) = false:=by simpa using c13))
   (try (have c13b2 : (t406 == t411) = false:=by simpa using c13))
   (try (have c13b3 : ¬ (t406 = t411):=by simpa using c13))
   clear c13
   as_aux_lemma =>
    have H':=Aside0.mk H
    clear H
    go_wp2
    repeat (go_quiet (fail);try go_wp2)
    go_meet
    case rel=>exact ⟨_,(true),(by first|rfl|(simp;done)|(simp [*];done)),H',⟨by first|omega|exact Nat.le_refl _⟩,⟨rm (R_mono HO403.out (fun _ hk=>hk.1.2))⟩,⟨rm (R_mono HO408.out (fun _ hk=>hk.1.2))⟩,⟨hm HB.out⟩⟩
  rw [if_neg c13] at H
  have c13b0 : (t406 != t411) = false:=by simpa using c13
  (try (have c13b1 : decide (t406 = t411) = true:=by simpa using c13))
  (try (have c13b2 : (t406 == t411) = true:=by simpa using c13))
  clear c13
  replace H:=Option.bind_eq_some_iff.mp H
  obtain ⟨t414,A140,H⟩:=H
  replace H : (if (t406 != t414) = true then (laws_FnLanes.j0 k l0 t401 t404 t405 t406 true) else ((laws_rInts.f k t404 t409).bind fun t415=>(laws_FnLanes.j0 k l0 t401 t404 t405 t406 (!t415)))) = some r:=H
  have A14:=Aside0.mk A140
  clear A140
  by_cases c15 : (t406 != t414) = true
  ·rw [if_pos c15] at H
   have c15b0 : (t406 != t414) = true:=c15
   (try (have c15b1 : decide (t406 = t414) = false:=by simpa using c15))
   (try (have c15b2 : (t406 == t414) = false:=by simpa using c15))
   (try (have c15b3 : ¬ (t406 = t414):=by simpa using c15))
   clear c15
   as_aux_lemma =>
    have H':=Aside0.mk H
    clear H
    go_wp2_with (first|(go_at_call 15;(with_reducible refine (impl_IsLane.calls k _ _ t401 t414 _ ?side1 ?side2 A14.out).mono ?_);(case side1=>exact cm (R_reads' HO403.out).2.2);(case side2=>exact (R_reads' HO403.out).2.1);rintro e w' ⟨rfl,⟨nd,rfl⟩⟩;(try first|exact ⟨rfl,_,World.drewN_drewN _ _ _⟩|exact ⟨rfl,_,Eq.trans (World.drewN_drewN _ _ _) (congrArg (World.drewN _) (Nat.add_assoc _ _ _))⟩)))
    repeat (go_quiet (first|(go_at_call 15;(with_reducible refine (impl_IsLane.calls k _ _ t401 t414 _ ?side1 ?side2 A14.out).mono ?_);(case side1=>exact cm (R_reads' HO403.out).2.2);(case side2=>exact (R_reads' HO403.out).2.1);rintro e w' ⟨rfl,⟨nd,rfl⟩⟩;(try first|exact ⟨rfl,_,World.drewN_drewN _ _ _⟩|exact ⟨rfl,_,Eq.trans (World.drewN_drewN _ _ _) (congrArg (World.drewN _) (Nat.add_assoc _ _ _))⟩)));try go_wp2_with (first|(go_at_call 15;(with_reducible refine (impl_IsLane.calls k _ _ t401 t414 _ ?side1 ?side2 A14.out).mono ?_);(case side1=>exact cm (R_reads' HO403.out).2.2);(case side2=>exact (R_reads' HO403.out).2.1);rintro e w' ⟨rfl,⟨nd,rfl⟩⟩;(try first|exact ⟨rfl,_,World.drewN_drewN _ _ _⟩|exact ⟨rfl,_,Eq.trans (World.drewN_drewN _ _ _) (congrArg (World.drewN _) (Nat.add_assoc _ _ _))⟩))))
    go_meet
    case rel=>exact ⟨_,(true),(by first|rfl|(simp;done)|(simp [*];done)),H',⟨by first|omega|exact Nat.le_refl _⟩,⟨rm (R_mono HO403.out (fun _ hk=>hk.1.2))⟩,⟨rm (R_mono HO408.out (fun _ hk=>hk.1.2))⟩,⟨hm HB.out⟩⟩
  rw [if_neg c15] at H
  have c15b0 : (t406 != t414) = false:=by simpa using c15
  (try (have c15b1 : decide (t406 = t414) = true:=by simpa using c15))
  (try (have c15b2 : (t406 == t414) = true:=by simpa using c15))
  clear c15
  replace H:=Option.bind_eq_some_iff.mp H
  obtain ⟨t415,A160,H⟩:=H
  replace H : (laws_FnLanes.j0 k l0 t401 t404 t405 t406 (!t415)) = some r:=H
  have A16:=Aside0.mk A160
  clear A160
  as_aux_lemma =>
   have H':=Aside0.mk H
   clear H
   go_wp2_with (first|(go_at_call 15;(with_reducible refine (impl_IsLane.calls k _ _ t401 t414 _ ?side1 ?side2 A14.out).mono ?_);(case side1=>exact cm (R_reads' HO403.out).2.2);(case side2=>exact (R_reads' HO403.out).2.1);rintro e w' ⟨rfl,⟨nd,rfl⟩⟩;(try first|exact ⟨rfl,_,World.drewN_drewN _ _ _⟩|exact ⟨rfl,_,Eq.trans (World.drewN_drewN _ _ _) (congrArg (World.drewN _) (Nat.add_assoc _ _ _))⟩);obtain ⟨Ao17,co17,eo17⟩:=R_slice HO408.out;subst eo17;obtain ⟨Ao18,co18,eo18⟩:=R_slice HO413.out;subst eo18)|(go_at_call 37;(with_reducible refine (laws_rInts.calls k _ _ t404 _ _ t409 t415 _ ?side1 ?side2 ?side3 ?side4 A16.out).mono ?_);(case side1=>exact cm (R_reads' HO408.out).2.2);(case side2=>exact (R_reads' HO408.out).2.1);(case side3=>exact cm (R_reads' HO413.out).2.2);(case side4=>exact (R_reads' HO413.out).2.1);rintro e w' ⟨rfl,⟨nd,rfl⟩⟩;(try first|exact ⟨rfl,_,World.drewN_drewN _ _ _⟩|exact ⟨rfl,_,Eq.trans (World.drewN_drewN _ _ _) (congrArg (World.drewN _) (Nat.add_assoc _ _ _))⟩)))
   repeat (go_quiet (first|(go_at_call 15;(with_reducible refine (impl_IsLane.calls k _ _ t401 t414 _ ?side1 ?side2 A14.out).mono ?_);(case side1=>exact cm (R_reads' HO403.out).2.2);(case side2=>exact (R_reads' HO403.out).2.1);rintro e w' ⟨rfl,⟨nd,rfl⟩⟩;(try first|exact ⟨rfl,_,World.drewN_drewN _ _ _⟩|exact ⟨rfl,_,Eq.trans (World.drewN_drewN _ _ _) (congrArg (World.drewN _) (Nat.add_assoc _ _ _))⟩);obtain ⟨Ao17,co17,eo17⟩:=R_slice HO408.out;subst eo17;obtain ⟨Ao18,co18,eo18⟩:=R_slice HO413.out;subst eo18)|(go_at_call 37;(with_reducible refine (laws_rInts.calls k _ _ t404 _ _ t409 t415 _ ?side1 ?side2 ?side3 ?side4 A16.out).mono ?_);(case side1=>exact cm (R_reads' HO408.out).2.2);(case side2=>exact (R_reads' HO408.out).2.1);(case side3=>exact cm (R_reads' HO413.out).2.2);(case side4=>exact (R_reads' HO413.out).2.1);rintro e w' ⟨rfl,⟨nd,rfl⟩⟩;(try first|exact ⟨rfl,_,World.drewN_drewN _ _ _⟩|exact ⟨rfl,_,Eq.trans (World.drewN_drewN _ _ _) (congrArg (World.drewN _) (Nat.add_assoc _ _ _))⟩)));try go_wp2_with (first|(go_at_call 15;(with_reducible refine (impl_IsLane.calls k _ _ t401 t414 _ ?side1 ?side2 A14.out).mono ?_);(case side1=>exact cm (R_reads' HO403.out).2.2);(case side2=>exact (R_reads' HO403.out).2.1);rintro e w' ⟨rfl,⟨nd,rfl⟩⟩;(try first|exact ⟨rfl,_,World.drewN_drewN _ _ _⟩|exact ⟨rfl,_,Eq.trans (World.drewN_drewN _ _ _) (congrArg (World.drewN _) (Nat.add_assoc _ _ _))⟩);obtain ⟨Ao17,co17,eo17⟩:=R_slice HO408.out;subst eo17;obtain ⟨Ao18,co18,eo18⟩:=R_slice HO413.out;subst eo18)|(go_at_call 37;(with_reducible refine (laws_rInts.calls k _ _ t404 _ _ t409 t415 _ ?side1 ?side2 ?side3 ?side4 A16.out).mono ?_);(case side1=>exact cm (R_reads' HO408.out).2.2);(case side2=>exact (R_reads' HO408.out).2.1);(case side3=>exact cm (R_reads' HO413.out).2.2);(case side4=>exact (R_reads' HO413.out).2.1);rintro e w' ⟨rfl,⟨nd,rfl⟩⟩;(try first|exact ⟨rfl,_,World.drewN_drewN _ _ _⟩|exact ⟨rfl,_,Eq.trans (World.drewN_drewN _ _ _) (congrArg (World.drewN _) (Nat.add_assoc _ _ _))⟩))))
   go_meet
   case rel=>exact ⟨_,(!t415),(by first|rfl|(simp;done)|(simp [*];done)),H',⟨by first|omega|exact Nat.le_refl _⟩,⟨rm (R_mono HO403.out (fun _ hk=>hk.1.2))⟩,⟨rm (R_mono HO408.out (fun _ hk=>hk.1.2))⟩,⟨hm HB.out⟩⟩
 clear HC7
 try clear c1
 try clear p2
 try clear c3
 try clear c12
 try clear c12b0
 try clear c12b1
 try clear c13
 try clear c13b0
 try clear c13b1
 try clear c13b2
 try clear c15
 try clear c15b0
 try clear c15b1
 try clear c15b2
 obtain ⟨kq,x84_6,rfl,HA,HJ6,HO_3,HO_4,HB⟩:=hcut
 cases kq with
 | zero=>exact absurd HA.out (by simp [laws_FnLanes.j0])
 | succ kj6 =>
  have H:=HA.out
  clear HA
  simp only [laws_FnLanes.j0] at H
  by_cases c19 : x84_6 = true
  ·subst c19
   have H1 : (some false) = some r:=by rw [if_pos rfl] at H;exact H
   clear H
   have H:=H1
   clear H1
   as_aux_lemma =>
    obtain rfl:=Option.some.inj H
    go_wp2
    repeat (go_quiet (fail);try go_wp2)
    go_ret
    exact ⟨by first|rfl|(simp [errW_none,errW_some] <;> rfl)|(simp [*,errW_none,errW_some] <;> rfl),hm HB.out⟩
  replace c19:=Bool.eq_false_iff.mpr c19
  subst c19
  have H1 : ((impl_LastFlow.f kj6 t401).bind fun bt416=>((spec_LastFlow.f kj6 t401).bind fun bt418=>(if bt416.1 = bt418.1 then (if (bt416.2 != bt418.2) = true then (laws_FnLanes.j1 kj6 l0 t401 t404 t405 t406 true) else (laws_FnLanes.j1 kj6 l0 t401 t404 t405 t406 (bt416.2 != t406))) else (laws_FnLanes.j1 kj6 l0 t401 t404 t405 t406 true)))) = some r:=by rw [if_neg (show ¬ (false = true) by decide)] at H;exact H
  clear H
  have H:=H1
  clear H1
  exact laws_FnLanes.rest1 (by assumption) (by assumption) HR0 HC0 HO_3 HO_4 HB HJ6 H
/-- THE ONE PURE STATEMENT of laws_FnLanes: yours. -/
def laws_FnLanes.Pure : Prop:=∀ (l0 : List Int),l0.length ≤ maxLen → l0.length * 1 ≤ 140737488351232 → (∀ x ∈ l0,(Lit.int .u8 x).wf = true) → ∃ k,laws_FnLanes.f k l0 = some true
theorem laws_FnLanes.walk (P : laws_FnLanes.Pure) (a0 : Option Addr) (len0 cap0 : Nat) (z0 : List Int) (w : World) (w0 : (a0 = none ∧ len0 = 0 ∧ cap0 = 0 ∧ z0 = []) ∨ ∃ x,a0 = some x ∧ len0 ≤ cap0 ∧ cap0 ≤ maxLen ∧ z0.length = cap0 ∧ (∀ i,i < z0.length → w.cell? (x.add i) = some (.int .u8 (z0.getD i 0))) ∧ ∀ n ∈ z0,(Lit.int .u8 n).wf = true) (y0 : len0 * 1 ≤ 140737488351232) :
  Calls Try.prog 12 #[.slice a0 len0 cap0] w fun e w'=>e = .returned (.bool true) ∧ Below w.heap.size w w':=by
 obtain ⟨l0,rfl,hr0,hm0,hw0,hc0⟩:=ReadsInt.ofRowC w0
 obtain ⟨k,h⟩:=P l0 hm0 y0 hw0
 refine (laws_FnLanes.calls k _ _ l0 true w (C_of_reads (d:=(0 : Int)) (h1:=fun _=>rfl) hr0) hc0 h).mono ?_
 rintro e w' ⟨rfl,hd⟩
 exact ⟨rfl,hd⟩

end

end Go.Proofs.Ythkbjcihelmaeaa.QFnLanes
