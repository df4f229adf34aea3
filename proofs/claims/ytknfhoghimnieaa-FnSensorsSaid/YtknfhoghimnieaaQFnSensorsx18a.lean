/- Functions that the law FnSensors comes to, as Lean functions, with the proof that the Go code does what they say: written by a program of this session over the kit's print. No condition but those named. -/
import Derived.Test.YtknfhoghimnieaaQFnSensorsx0
import Derived.Test.YtknfhoghimnieaaQFnSensorsx4
import Derived.Test.YtknfhoghimnieaaQFnSensorsx5
import Derived.Test.YtknfhoghimnieaaQFnSensorsx6
import Derived.Test.YtknfhoghimnieaaQFnSensorsx7
import Derived.Test.YtknfhoghimnieaaQFnSensorsx8
import Derived.Test.YtknfhoghimnieaaQFnSensorsx9
import Derived.Test.YtknfhoghimnieaaQFnSensorsx10
import Derived.Test.YtknfhoghimnieaaQFnSensorsx12
import Derived.Test.YtknfhoghimnieaaQFnSensorsx13
import Derived.Test.YtknfhoghimnieaaQFnSensorsx14
import Derived.Test.YtknfhoghimnieaaQFnSensorsx17
import Derived.Test.YtknfhoghimnieaaQFnSensorsx18
namespace Go.Proofs.Ytknfhoghimnieaa.QFnSensors
open Go.RowKit Go.Proofs.YtknfhoghimnieaaW.PrintWords Go.Proofs.YtknfhoghimnieaaW.PrintLast Go.Proofs.YtknfhoghimnieaaW.PrintMore Go.Proofs.Ytknfhoghimnieaa.Short
attribute [local go_sem] max2_int min2_int max_two min_two max_three min_three max_four min_four   -- for this text's walks alone
set_option linter.unusedVariables false
set_option linter.unusedSimpArgs false

section
open Kd
set_option maxHeartbeats 40000000 in
set_option maxRecDepth 1000000 in
def laws_FnSensors.calls_g1 (k : Nat) (A0 : Option Addr) (c0 : Nat) (l0 : List Int) (r : Bool) (w : World) (hr0 : Kd.C (Kd.int .u8) w A0 l0.length l0) (hc0 : l0.length ≤ c0) (h : laws_FnSensors.f k l0 = some r) : {G : Prop // G → (@laws_FnSensors.calls_g0 k A0 c0 l0 r w hr0 hc0 h).1}:=by
 apply hand
 case h=>
  intro hG_
  intro hu28 HR0 HC0 A2 t470 t471 t472 A4 t476 t479 A5 t480 t483 A6 t484 t487 A7 t488 t491 A8 t492 t493 A9 t494 t495 A10 t496 t499 A11 t500 t503 A12 t504 t505 A13 t506 t507 A14 t508 A15 t511 t512 t513 A16 t517 t520 A17 t521 t524 A18 HC19 nd w20 gb475 w21 GW475 GE475 hcz22_0 hcz22_1 hfz22_0 hfz22_1 Ao23 co23 w24 v477 hcz25_0 hcz25_1 hfz25_0 hfz25_1 w26 v481 hcz27_0 hcz27_1 hfz27_0 hfz27_1 w28 v485 hcz29_0 hcz29_1 hfz29_0 hfz29_1 w30 v489 hcz31_0 hcz31_1 hfz31_0 hfz31_1 w32 hcz33_0 hcz33_1 hfz33_0 hfz33_1 w34 hcz35_0 hcz35_1 hfz35_0 hfz35_1 w36 v497 hcz37_0 hcz37_1 hfz37_0 hfz37_1 w38 v501 hcz39_0 hcz39_1 hfz39_0 hfz39_1 w40 hcz41_0 hcz41_1 hfz41_0 hfz41_1 w42 w43 Ao44 co44 w45 gb516 w46 GW516 GE516 NB475_516 NB516_475 hnb47 hnc47 hcz48_0 hcz48_1 hfz48_0 hfz48_1 Ao49 co49 w50 v518 hcz51_0 hcz51_1 hfz51_0 hfz51_1 w52 v522 HO478 HO482 HO486 HO490 HO498 HO502 HO510 HO523 HO474 HO515 HO519 BK475 BK516 HB i6_ i7_ i8_ i9_ E_
  have H:=HC19.out
  clear HC19
  by_cases c53 : (t479 != t483) = true
  ·rw [if_pos c53] at H
   have c53b0 : (t479 != t483) = true:=c53
   (try (have c53b1 : decide (t479 = t483) = false:=by simpa using c53))
   (try (have c53b2 : (t479 == t483) = false:=by simpa using c53))
   (try (have c53b3 : ¬ (t479 = t483):=by simpa using c53))
   clear c53
   (first|rw [c53b0]|(simp only [i64_w,i32_w];rw [c53b0])|skip)
   as_aux_lemma =>
    have H':=Aside0.mk H
    clear H
    go_wp2_with (exact (undef_bool (by assumption)).elim)
    go_meet
    case rel=>exact ⟨_,(true),fd,H',⟨by first|omega|exact Nat.le_refl _⟩,⟨rm (R_mono HO474.out (fun _ hk=>⟨hk.1.1.2,hk.1.2⟩))⟩,⟨rm (R_mono HO478.out (fun _ hk=>hk.1.2))⟩,⟨rm (R_mono HO486.out (fun _ hk=>trivial))⟩,⟨rm (R_mono HO498.out (fun _ hk=>hk.1.1.2))⟩,⟨rm (R_mono HO515.out (fun _ hk=>⟨hk.1.1.2,hk.1.2⟩))⟩,⟨rm (R_mono HO519.out (fun _ hk=>⟨hk.1.1.2,hk.1.2⟩))⟩,⟨bm BK475.out⟩,⟨bm BK516.out⟩,⟨h2 HB.out GE475.out GE516.out⟩⟩
  rw [if_neg c53] at H
  have c53b0 : (t479 != t483) = false:=by simpa using c53
  (try (have c53b1 : decide (t479 = t483) = true:=by simpa using c53))
  (try (have c53b2 : (t479 == t483) = true:=by simpa using c53))
  clear c53
  (first|rw [c53b0]|(simp only [i64_w,i32_w];rw [c53b0])|skip)
  replace H:=Option.bind_eq_some_iff.mp H
  obtain ⟨t525,A540,H⟩:=H
  (try dsimp only at H)
  have A54:=Aside0.mk A540
  clear A540
  by_cases c55 : t525 = true
  rotate_left
  ·replace c55:=Bool.eq_false_iff.mpr c55
   subst c55
   rw [if_neg (show ¬ (false = true) by decide)] at H
   as_aux_lemma =>
    have H':=Aside0.mk H
    clear H
    obtain ⟨Ao136,co136,eo136⟩:=R_slice HO478.out
    subst eo136
    obtain ⟨Ao137,co137,eo137⟩:=R_slice HO482.out
    subst eo137
    go_wp2_with (first|exact (undef_bool (by assumption)).elim|(go_at_call 38;(with_reducible refine (laws_vInts.calls k _ _ t476 _ _ t480 false _ ?side1 ?side2 ?side3 ?side4 A54.out).mono ?_);(case side1=>exact cm (R_reads' HO478.out).2.2);(case side2=>exact (R_reads' HO478.out).2.1);(case side3=>exact cm (R_reads' HO482.out).2.2);(case side4=>exact (R_reads' HO482.out).2.1);rintro e w' ⟨rfl,⟨nd,rfl⟩⟩))
    go_meet
    case rel=>exact ⟨_,(true),fd,H',⟨by first|omega|exact Nat.le_refl _⟩,⟨rm (R_mono HO474.out (fun _ hk=>⟨hk.1.1.2,hk.1.2⟩))⟩,⟨rm (R_mono HO478.out (fun _ hk=>hk.1.2))⟩,⟨rm (R_mono HO486.out (fun _ hk=>trivial))⟩,⟨rm (R_mono HO498.out (fun _ hk=>hk.1.1.2))⟩,⟨rm (R_mono HO515.out (fun _ hk=>⟨hk.1.1.2,hk.1.2⟩))⟩,⟨rm (R_mono HO519.out (fun _ hk=>⟨hk.1.1.2,hk.1.2⟩))⟩,⟨bm BK475.out⟩,⟨bm BK516.out⟩,⟨h2 HB.out GE475.out GE516.out⟩⟩
  subst c55
  rw [if_pos rfl] at H
  by_cases c56 : (t487 != t491) = true
  ·rw [if_pos c56] at H
   have c56b0 : (t487 != t491) = true:=c56
   (try (have c56b1 : decide (t487 = t491) = false:=by simpa using c56))
   (try (have c56b2 : (t487 == t491) = false:=by simpa using c56))
   (try (have c56b3 : ¬ (t487 = t491):=by simpa using c56))
   clear c56
   as_aux_lemma =>
    have H':=Aside0.mk H
    clear H
    obtain ⟨Ao57,co57,eo57⟩:=R_slice HO478.out
    subst eo57
    obtain ⟨Ao58,co58,eo58⟩:=R_slice HO482.out
    subst eo58
    go_wp2_with (first|exact (undef_bool (by assumption)).elim|(go_at_call 38;(with_reducible refine (laws_vInts.calls k _ _ t476 _ _ t480 true _ ?side1 ?side2 ?side3 ?side4 A54.out).mono ?_);(case side1=>exact cm (R_reads' HO478.out).2.2);(case side2=>exact (R_reads' HO478.out).2.1);(case side3=>exact cm (R_reads' HO482.out).2.2);(case side4=>exact (R_reads' HO482.out).2.1);rintro e w' ⟨rfl,⟨nd,rfl⟩⟩))
    go_meet
    case rel=>exact ⟨_,(true),fd,H',⟨by first|omega|exact Nat.le_refl _⟩,⟨rm (R_mono HO474.out (fun _ hk=>⟨hk.1.1.2,hk.1.2⟩))⟩,⟨rm (R_mono HO478.out (fun _ hk=>hk.1.2))⟩,⟨rm (R_mono HO486.out (fun _ hk=>trivial))⟩,⟨rm (R_mono HO498.out (fun _ hk=>hk.1.1.2))⟩,⟨rm (R_mono HO515.out (fun _ hk=>⟨hk.1.1.2,hk.1.2⟩))⟩,⟨rm (R_mono HO519.out (fun _ hk=>⟨hk.1.1.2,hk.1.2⟩))⟩,⟨bm BK475.out⟩,⟨bm BK516.out⟩,⟨h2 HB.out GE475.out GE516.out⟩⟩
  rw [if_neg c56] at H
  have c56b0 : (t487 != t491) = false:=by simpa using c56
  (try (have c56b1 : decide (t487 = t491) = true:=by simpa using c56))
  (try (have c56b2 : (t487 == t491) = true:=by simpa using c56))
  clear c56
  replace H:=Option.bind_eq_some_iff.mp H
  obtain ⟨t526,A590,H⟩:=H
  (try dsimp only at H)
  have A59:=Aside0.mk A590
  clear A590
  by_cases c60 : t526 = true
  rotate_left
  ·replace c60:=Bool.eq_false_iff.mpr c60
   subst c60
   rw [if_neg (show ¬ (false = true) by decide)] at H
   as_aux_lemma =>
    have H':=Aside0.mk H
    clear H
    obtain ⟨Ao132,co132,eo132⟩:=R_slice HO478.out
    subst eo132
    obtain ⟨Ao133,co133,eo133⟩:=R_slice HO482.out
    subst eo133
    go_wp2_with (first|exact (undef_bool (by assumption)).elim|(go_at_call 38;(with_reducible refine (laws_vInts.calls k _ _ t476 _ _ t480 true _ ?side1 ?side2 ?side3 ?side4 A54.out).mono ?_);(case side1=>exact cm (R_reads' HO478.out).2.2);(case side2=>exact (R_reads' HO478.out).2.1);(case side3=>exact cm (R_reads' HO482.out).2.2);(case side4=>exact (R_reads' HO482.out).2.1);rintro e w' ⟨rfl,⟨nd,rfl⟩⟩;obtain ⟨Ao134,co134,eo134⟩:=R_slice HO486.out;subst eo134;obtain ⟨Ao135,co135,eo135⟩:=R_slice HO490.out;subst eo135)|(go_at_call 39;(with_reducible refine (laws_vPairs.calls k _ _ t484 _ _ t488 false _ ?side1 ?side2 ?side3 ?side4 A59.out).mono ?_);(case side1=>exact cm (R_reads' HO486.out).2.2);(case side2=>exact (R_reads' HO486.out).2.1);(case side3=>exact cm (R_reads' HO490.out).2.2);(case side4=>exact (R_reads' HO490.out).2.1);rintro e w' ⟨rfl,⟨nd,rfl⟩⟩))
    go_meet
    case rel=>exact ⟨_,(true),fd,H',⟨by first|omega|exact Nat.le_refl _⟩,⟨rm (R_mono HO474.out (fun _ hk=>⟨hk.1.1.2,hk.1.2⟩))⟩,⟨rm (R_mono HO478.out (fun _ hk=>hk.1.2))⟩,⟨rm (R_mono HO486.out (fun _ hk=>trivial))⟩,⟨rm (R_mono HO498.out (fun _ hk=>hk.1.1.2))⟩,⟨rm (R_mono HO515.out (fun _ hk=>⟨hk.1.1.2,hk.1.2⟩))⟩,⟨rm (R_mono HO519.out (fun _ hk=>⟨hk.1.1.2,hk.1.2⟩))⟩,⟨bm BK475.out⟩,⟨bm BK516.out⟩,⟨h2 HB.out GE475.out GE516.out⟩⟩
  subst c60
  rw [if_pos rfl] at H
  by_cases c61 : t492 = t494
  rotate_left
  ·rw [if_neg c61] at H
   have c61b0 : (t492 == t494) = false:=beq_eq_false_iff_ne.mpr c61
   have c61b1 : (t492 != t494) = true:=bne_iff_ne.mpr c61
   as_aux_lemma =>
    have H':=Aside0.mk H
    clear H
    obtain ⟨Ao128,co128,eo128⟩:=R_slice HO478.out
    subst eo128
    obtain ⟨Ao129,co129,eo129⟩:=R_slice HO482.out
    subst eo129
    go_wp2_with (first|exact (undef_bool (by assumption)).elim|(go_at_call 38;(with_reducible refine (laws_vInts.calls k _ _ t476 _ _ t480 true _ ?side1 ?side2 ?side3 ?side4 A54.out).mono ?_);(case side1=>exact cm (R_reads' HO478.out).2.2);(case side2=>exact (R_reads' HO478.out).2.1);(case side3=>exact cm (R_reads' HO482.out).2.2);(case side4=>exact (R_reads' HO482.out).2.1);rintro e w' ⟨rfl,⟨nd,rfl⟩⟩;obtain ⟨Ao130,co130,eo130⟩:=R_slice HO486.out;subst eo130;obtain ⟨Ao131,co131,eo131⟩:=R_slice HO490.out;subst eo131)|(go_at_call 39;(with_reducible refine (laws_vPairs.calls k _ _ t484 _ _ t488 true _ ?side1 ?side2 ?side3 ?side4 A59.out).mono ?_);(case side1=>exact cm (R_reads' HO486.out).2.2);(case side2=>exact (R_reads' HO486.out).2.1);(case side3=>exact cm (R_reads' HO490.out).2.2);(case side4=>exact (R_reads' HO490.out).2.1);rintro e w' ⟨rfl,⟨nd,rfl⟩⟩))
    go_meet
    case rel=>exact ⟨_,(true),fd,H',⟨by first|omega|exact Nat.le_refl _⟩,⟨rm (R_mono HO474.out (fun _ hk=>⟨hk.1.1.2,hk.1.2⟩))⟩,⟨rm (R_mono HO478.out (fun _ hk=>hk.1.2))⟩,⟨rm (R_mono HO486.out (fun _ hk=>trivial))⟩,⟨rm (R_mono HO498.out (fun _ hk=>hk.1.1.2))⟩,⟨rm (R_mono HO515.out (fun _ hk=>⟨hk.1.1.2,hk.1.2⟩))⟩,⟨rm (R_mono HO519.out (fun _ hk=>⟨hk.1.1.2,hk.1.2⟩))⟩,⟨bm BK475.out⟩,⟨bm BK516.out⟩,⟨h2 HB.out GE475.out GE516.out⟩⟩
  rw [if_pos c61] at H
  have c61b0 : (t492 == t494) = true:=beq_iff_eq.mpr c61
  have c61b1 : (t492 != t494) = false:=bne_eq_false_iff_eq.mpr c61
  clear c61
  revert hu28 HR0 HC0 A2 t470 t471 t472 A4 t476 t479 A5 t480 t483 A6 t484 t487 A7 t488 t491 A8 t492 t493 A9 t494 t495 A10 t496 t499 A11 t500 t503 A12 t504 t505 A13 t506 t507 A14 t508 A15 t511 t512 t513 A16 t517 t520 A17 t521 t524 A18 nd w20 gb475 w21 GW475 GE475 hcz22_0 hcz22_1 hfz22_0 hfz22_1 Ao23 co23 w24 v477 hcz25_0 hcz25_1 hfz25_0 hfz25_1 w26 v481 hcz27_0 hcz27_1 hfz27_0 hfz27_1 w28 v485 hcz29_0 hcz29_1 hfz29_0 hfz29_1 w30 v489 hcz31_0 hcz31_1 hfz31_0 hfz31_1 w32 hcz33_0 hcz33_1 hfz33_0 hfz33_1 w34 hcz35_0 hcz35_1 hfz35_0 hfz35_1 w36 v497 hcz37_0 hcz37_1 hfz37_0 hfz37_1 w38 v501 hcz39_0 hcz39_1 hfz39_0 hfz39_1 w40 hcz41_0 hcz41_1 hfz41_0 hfz41_1 w42 w43 Ao44 co44 w45 gb516 w46 GW516 GE516 NB475_516 NB516_475 hnb47 hnc47 hcz48_0 hcz48_1 hfz48_0 hfz48_1 Ao49 co49 w50 v518 hcz51_0 hcz51_1 hfz51_0 hfz51_1 w52 v522 HO478 HO482 HO486 HO490 HO498 HO502 HO510 HO523 HO474 HO515 HO519 BK475 BK516 HB i6_ i7_ i8_ i9_ E_ c53b0 c53b1 c53b2 A54 c56b0 c56b1 c56b2 H A59 c61b0 c61b1
  exact hG_.out
end
end Go.Proofs.Ytknfhoghimnieaa.QFnSensors
