/- Functions that the law FnSensors comes to, as Lean functions, with the proof that the Go code does what they say: written by a program of this session over the kit's print. No condition but those named. -/
import Derived.Test.YtknfhoghimnieaaQFnSensorsx0
import Derived.Test.YtknfhoghimnieaaQFnSensorsx4
import Derived.Test.YtknfhoghimnieaaQFnSensorsx5
import Derived.Test.YtknfhoghimnieaaQFnSensorsx6
import Derived.Test.YtknfhoghimnieaaQFnSensorsx7
import Derived.Test.YtknfhoghimnieaaQFnSensorsx8
import Derived.Test.YtknfhoghimnieaaQFnSensorsx9
import Derived.Test.YtknfhoghimnieaaQFnSensorsx10
import Derived.Test.YtknfhoghimnieaaQFnSensorsx12
import Derived.Test.YtknfhoghimnieaaQFnSensorsx13
import Derived.Test.YtknfhoghimnieaaQFnSensorsx14
import Derived.Test.YtknfhoghimnieaaQFnSensorsx17
import Derived.Test.YtknfhoghimnieaaQFnSensorsx18a
namespace Go.Proofs.Ytknfhoghimnieaa.QFnSensors
open Go.RowKit Go.Proofs.YtknfhoghimnieaaW.PrintWords Go.Proofs.YtknfhoghimnieaaW.PrintLast Go.Proofs.YtknfhoghimnieaaW.PrintMore Go.Proofs.Ytknfhoghimnieaa.Short
attribute [local go_sem] max2_int min2_int max_two min_two max_three min_three max_four min_four   -- for this text's walks alone
set_option linter.unusedVariables false
set_option linter.unusedSimpArgs false

section
open Kd
set_option maxHeartbeats 40000000 in
set_option maxRecDepth 1000000 in
def laws_FnSensors.calls_g2 (k : Nat) (A0 : Option Addr) (c0 : Nat) (l0 : List Int) (r : Bool) (w : World) (hr0 : Kd.C (Kd.int .u8) w A0 l0.length l0) (hc0 : l0.length ≤ c0) (h : laws_FnSensors.f k l0 = some r) : {G : Prop // G → (@laws_FnSensors.calls_g1 k A0 c0 l0 r w hr0 hc0 h).1}:=by
 apply hand
 case h=>
  intro hG_
  intro hu28 HR0 HC0 A2 t470 t471 t472 A4 t476 t479 A5 t480 t483 A6 t484 t487 A7 t488 t491 A8 t492 t493 A9 t494 t495 A10 t496 t499 A11 t500 t503 A12 t504 t505 A13 t506 t507 A14 t508 A15 t511 t512 t513 A16 t517 t520 A17 t521 t524 A18 nd w20 gb475 w21 GW475 GE475 hcz22_0 hcz22_1 hfz22_0 hfz22_1 Ao23 co23 w24 v477 hcz25_0 hcz25_1 hfz25_0 hfz25_1 w26 v481 hcz27_0 hcz27_1 hfz27_0 hfz27_1 w28 v485 hcz29_0 hcz29_1 hfz29_0 hfz29_1 w30 v489 hcz31_0 hcz31_1 hfz31_0 hfz31_1 w32 hcz33_0 hcz33_1 hfz33_0 hfz33_1 w34 hcz35_0 hcz35_1 hfz35_0 hfz35_1 w36 v497 hcz37_0 hcz37_1 hfz37_0 hfz37_1 w38 v501 hcz39_0 hcz39_1 hfz39_0 hfz39_1 w40 hcz41_0 hcz41_1 hfz41_0 hfz41_1 w42 w43 Ao44 co44 w45 gb516 w46 GW516 GE516 NB475_516 NB516_475 hnb47 hnc47 hcz48_0 hcz48_1 hfz48_0 hfz48_1 Ao49 co49 w50 v518 hcz51_0 hcz51_1 hfz51_0 hfz51_1 w52 v522 HO478 HO482 HO486 HO490 HO498 HO502 HO510 HO523 HO474 HO515 HO519 BK475 BK516 HB i6_ i7_ i8_ i9_ E_ c53b0 c53b1 c53b2 A54 c56b0 c56b1 c56b2 H A59 c61b0 c61b1
  by_cases c62 : (t493 != t495) = true
  ·rw [if_pos c62] at H
   have c62b0 : (t493 != t495) = true:=c62
   (try (have c62b1 : decide (t493 = t495) = false:=by simpa using c62))
   (try (have c62b2 : (t493 == t495) = false:=by simpa using c62))
   (try (have c62b3 : ¬ (t493 = t495):=by simpa using c62))
   clear c62
   as_aux_lemma =>
    have H':=Aside0.mk H
    clear H
    obtain ⟨Ao63,co63,eo63⟩:=R_slice HO478.out
    subst eo63
    obtain ⟨Ao64,co64,eo64⟩:=R_slice HO482.out
    subst eo64
    go_wp2_with (first|exact (undef_bool (by assumption)).elim|(go_at_call 38;(with_reducible refine (laws_vInts.calls k _ _ t476 _ _ t480 true _ ?side1 ?side2 ?side3 ?side4 A54.out).mono ?_);(case side1=>exact cm (R_reads' HO478.out).2.2);(case side2=>exact (R_reads' HO478.out).2.1);(case side3=>exact cm (R_reads' HO482.out).2.2);(case side4=>exact (R_reads' HO482.out).2.1);rintro e w' ⟨rfl,⟨nd,rfl⟩⟩;obtain ⟨Ao65,co65,eo65⟩:=R_slice HO486.out;subst eo65;obtain ⟨Ao66,co66,eo66⟩:=R_slice HO490.out;subst eo66)|(go_at_call 39;(with_reducible refine (laws_vPairs.calls k _ _ t484 _ _ t488 true _ ?side1 ?side2 ?side3 ?side4 A59.out).mono ?_);(case side1=>exact cm (R_reads' HO486.out).2.2);(case side2=>exact (R_reads' HO486.out).2.1);(case side3=>exact cm (R_reads' HO490.out).2.2);(case side4=>exact (R_reads' HO490.out).2.1);rintro e w' ⟨rfl,⟨nd,rfl⟩⟩))
    go_meet
    case rel=>exact ⟨_,(true),fd,H',⟨by first|omega|exact Nat.le_refl _⟩,⟨rm (R_mono HO474.out (fun _ hk=>⟨hk.1.1.2,hk.1.2⟩))⟩,⟨rm (R_mono HO478.out (fun _ hk=>hk.1.2))⟩,⟨rm (R_mono HO486.out (fun _ hk=>trivial))⟩,⟨rm (R_mono HO498.out (fun _ hk=>hk.1.1.2))⟩,⟨rm (R_mono HO515.out (fun _ hk=>⟨hk.1.1.2,hk.1.2⟩))⟩,⟨rm (R_mono HO519.out (fun _ hk=>⟨hk.1.1.2,hk.1.2⟩))⟩,⟨bm BK475.out⟩,⟨bm BK516.out⟩,⟨h2 HB.out GE475.out GE516.out⟩⟩
  rw [if_neg c62] at H
  have c62b0 : (t493 != t495) = false:=by simpa using c62
  (try (have c62b1 : decide (t493 = t495) = true:=by simpa using c62))
  (try (have c62b2 : (t493 == t495) = true:=by simpa using c62))
  clear c62
  by_cases c67 : (t499 != t503) = true
  ·rw [if_pos c67] at H
   have c67b0 : (t499 != t503) = true:=c67
   (try (have c67b1 : decide (t499 = t503) = false:=by simpa using c67))
   (try (have c67b2 : (t499 == t503) = false:=by simpa using c67))
   (try (have c67b3 : ¬ (t499 = t503):=by simpa using c67))
   clear c67
   as_aux_lemma =>
    have H':=Aside0.mk H
    clear H
    obtain ⟨Ao68,co68,eo68⟩:=R_slice HO478.out
    subst eo68
    obtain ⟨Ao69,co69,eo69⟩:=R_slice HO482.out
    subst eo69
    go_wp2_with (first|exact (undef_bool (by assumption)).elim|(go_at_call 38;(with_reducible refine (laws_vInts.calls k _ _ t476 _ _ t480 true _ ?side1 ?side2 ?side3 ?side4 A54.out).mono ?_);(case side1=>exact cm (R_reads' HO478.out).2.2);(case side2=>exact (R_reads' HO478.out).2.1);(case side3=>exact cm (R_reads' HO482.out).2.2);(case side4=>exact (R_reads' HO482.out).2.1);rintro e w' ⟨rfl,⟨nd,rfl⟩⟩;obtain ⟨Ao70,co70,eo70⟩:=R_slice HO486.out;subst eo70;obtain ⟨Ao71,co71,eo71⟩:=R_slice HO490.out;subst eo71)|(go_at_call 39;(with_reducible refine (laws_vPairs.calls k _ _ t484 _ _ t488 true _ ?side1 ?side2 ?side3 ?side4 A59.out).mono ?_);(case side1=>exact cm (R_reads' HO486.out).2.2);(case side2=>exact (R_reads' HO486.out).2.1);(case side3=>exact cm (R_reads' HO490.out).2.2);(case side4=>exact (R_reads' HO490.out).2.1);rintro e w' ⟨rfl,⟨nd,rfl⟩⟩))
    go_meet
    case rel=>exact ⟨_,(true),fd,H',⟨by first|omega|exact Nat.le_refl _⟩,⟨rm (R_mono HO474.out (fun _ hk=>⟨hk.1.1.2,hk.1.2⟩))⟩,⟨rm (R_mono HO478.out (fun _ hk=>hk.1.2))⟩,⟨rm (R_mono HO486.out (fun _ hk=>trivial))⟩,⟨rm (R_mono HO498.out (fun _ hk=>hk.1.1.2))⟩,⟨rm (R_mono HO515.out (fun _ hk=>⟨hk.1.1.2,hk.1.2⟩))⟩,⟨rm (R_mono HO519.out (fun _ hk=>⟨hk.1.1.2,hk.1.2⟩))⟩,⟨bm BK475.out⟩,⟨bm BK516.out⟩,⟨h2 HB.out GE475.out GE516.out⟩⟩
  rw [if_neg c67] at H
  have c67b0 : (t499 != t503) = false:=by simpa using c67
  (try (have c67b1 : decide (t499 = t503) = true:=by simpa using c67))
  (try (have c67b2 : (t499 == t503) = true:=by simpa using c67))
  clear c67
  replace H:=Option.bind_eq_some_iff.mp H
  obtain ⟨t527,A720,H⟩:=H
  (try dsimp only at H)
  have A72:=Aside0.mk A720
  clear A720
  by_cases c73 : t527 = true
  rotate_left
  ·replace c73:=Bool.eq_false_iff.mpr c73
   subst c73
   rw [if_neg (show ¬ (false = true) by decide)] at H
   as_aux_lemma =>
    have H':=Aside0.mk H
    clear H
    obtain ⟨Ao122,co122,eo122⟩:=R_slice HO478.out
    subst eo122
    obtain ⟨Ao123,co123,eo123⟩:=R_slice HO482.out
    subst eo123
    go_wp2_with (first|exact (undef_bool (by assumption)).elim|(go_at_call 38;(with_reducible refine (laws_vInts.calls k _ _ t476 _ _ t480 true _ ?side1 ?side2 ?side3 ?side4 A54.out).mono ?_);(case side1=>exact cm (R_reads' HO478.out).2.2);(case side2=>exact (R_reads' HO478.out).2.1);(case side3=>exact cm (R_reads' HO482.out).2.2);(case side4=>exact (R_reads' HO482.out).2.1);rintro e w' ⟨rfl,⟨nd,rfl⟩⟩;obtain ⟨Ao124,co124,eo124⟩:=R_slice HO486.out;subst eo124;obtain ⟨Ao125,co125,eo125⟩:=R_slice HO490.out;subst eo125)|(go_at_call 39;(with_reducible refine (laws_vPairs.calls k _ _ t484 _ _ t488 true _ ?side1 ?side2 ?side3 ?side4 A59.out).mono ?_);(case side1=>exact cm (R_reads' HO486.out).2.2);(case side2=>exact (R_reads' HO486.out).2.1);(case side3=>exact cm (R_reads' HO490.out).2.2);(case side4=>exact (R_reads' HO490.out).2.1);rintro e w' ⟨rfl,⟨nd,rfl⟩⟩;obtain ⟨Ao126,co126,eo126⟩:=R_slice HO498.out;subst eo126;obtain ⟨Ao127,co127,eo127⟩:=R_slice HO502.out;subst eo127)|(go_at_call 38;(with_reducible refine (laws_vInts.calls k _ _ t496 _ _ t500 false _ ?side1 ?side2 ?side3 ?side4 A72.out).mono ?_);(case side1=>exact cm (R_reads' HO498.out).2.2);(case side2=>exact (R_reads' HO498.out).2.1);(case side3=>exact cm (R_reads' HO502.out).2.2);(case side4=>exact (R_reads' HO502.out).2.1);rintro e w' ⟨rfl,⟨nd,rfl⟩⟩))
    go_meet
    case rel=>exact ⟨_,(true),fd,H',⟨by first|omega|exact Nat.le_refl _⟩,⟨rm (R_mono HO474.out (fun _ hk=>⟨hk.1.1.2,hk.1.2⟩))⟩,⟨rm (R_mono HO478.out (fun _ hk=>hk.1.2))⟩,⟨rm (R_mono HO486.out (fun _ hk=>trivial))⟩,⟨rm (R_mono HO498.out (fun _ hk=>hk.1.1.2))⟩,⟨rm (R_mono HO515.out (fun _ hk=>⟨hk.1.1.2,hk.1.2⟩))⟩,⟨rm (R_mono HO519.out (fun _ hk=>⟨hk.1.1.2,hk.1.2⟩))⟩,⟨bm BK475.out⟩,⟨bm BK516.out⟩,⟨h2 HB.out GE475.out GE516.out⟩⟩
  subst c73
  rw [if_pos rfl] at H
  by_cases c74 : (t504 != t506) = true
  ·rw [if_pos c74] at H
   have c74b0 : (t504 != t506) = true:=c74
   (try (have c74b1 : decide (t504 = t506) = false:=by simpa using c74))
   (try (have c74b2 : (t504 == t506) = false:=by simpa using c74))
   (try (have c74b3 : ¬ (t504 = t506):=by simpa using c74))
   clear c74
   as_aux_lemma =>
    have H':=Aside0.mk H
    clear H
    obtain ⟨Ao75,co75,eo75⟩:=R_slice HO478.out
    subst eo75
    obtain ⟨Ao76,co76,eo76⟩:=R_slice HO482.out
    subst eo76
    go_wp2_with (first|exact (undef_bool (by assumption)).elim|(go_at_call 38;(with_reducible refine (laws_vInts.calls k _ _ t476 _ _ t480 true _ ?side1 ?side2 ?side3 ?side4 A54.out).mono ?_);(case side1=>exact cm (R_reads' HO478.out).2.2);(case side2=>exact (R_reads' HO478.out).2.1);(case side3=>exact cm (R_reads' HO482.out).2.2);(case side4=>exact (R_reads' HO482.out).2.1);rintro e w' ⟨rfl,⟨nd,rfl⟩⟩;obtain ⟨Ao77,co77,eo77⟩:=R_slice HO486.out;subst eo77;obtain ⟨Ao78,co78,eo78⟩:=R_slice HO490.out;subst eo78)|(go_at_call 39;(with_reducible refine (laws_vPairs.calls k _ _ t484 _ _ t488 true _ ?side1 ?side2 ?side3 ?side4 A59.out).mono ?_);(case side1=>exact cm (R_reads' HO486.out).2.2);(case side2=>exact (R_reads' HO486.out).2.1);(case side3=>exact cm (R_reads' HO490.out).2.2);(case side4=>exact (R_reads' HO490.out).2.1);rintro e w' ⟨rfl,⟨nd,rfl⟩⟩;obtain ⟨Ao79,co79,eo79⟩:=R_slice HO498.out;subst eo79;obtain ⟨Ao80,co80,eo80⟩:=R_slice HO502.out;subst eo80)|(go_at_call 38;(with_reducible refine (laws_vInts.calls k _ _ t496 _ _ t500 true _ ?side1 ?side2 ?side3 ?side4 A72.out).mono ?_);(case side1=>exact cm (R_reads' HO498.out).2.2);(case side2=>exact (R_reads' HO498.out).2.1);(case side3=>exact cm (R_reads' HO502.out).2.2);(case side4=>exact (R_reads' HO502.out).2.1);rintro e w' ⟨rfl,⟨nd,rfl⟩⟩))
    go_meet
    case rel=>exact ⟨_,(true),fd,H',⟨by first|omega|exact Nat.le_refl _⟩,⟨rm (R_mono HO474.out (fun _ hk=>⟨hk.1.1.2,hk.1.2⟩))⟩,⟨rm (R_mono HO478.out (fun _ hk=>hk.1.2))⟩,⟨rm (R_mono HO486.out (fun _ hk=>trivial))⟩,⟨rm (R_mono HO498.out (fun _ hk=>hk.1.1.2))⟩,⟨rm (R_mono HO515.out (fun _ hk=>⟨hk.1.1.2,hk.1.2⟩))⟩,⟨rm (R_mono HO519.out (fun _ hk=>⟨hk.1.1.2,hk.1.2⟩))⟩,⟨bm BK475.out⟩,⟨bm BK516.out⟩,⟨h2 HB.out GE475.out GE516.out⟩⟩
  rw [if_neg c74] at H
  have c74b0 : (t504 != t506) = false:=by simpa using c74
  (try (have c74b1 : decide (t504 = t506) = true:=by simpa using c74))
  (try (have c74b2 : (t504 == t506) = true:=by simpa using c74))
  clear c74
  by_cases c81 : (t505 != t507) = true
  ·rw [if_pos c81] at H
   have c81b0 : (t505 != t507) = true:=c81
   (try (have c81b1 : decide (t505 = t507) = false:=by simpa using c81))
   (try (have c81b2 : (t505 == t507) = false:=by simpa using c81))
   (try (have c81b3 : ¬ (t505 = t507):=by simpa using c81))
   clear c81
   as_aux_lemma =>
    have H':=Aside0.mk H
    clear H
    obtain ⟨Ao82,co82,eo82⟩:=R_slice HO478.out
    subst eo82
    obtain ⟨Ao83,co83,eo83⟩:=R_slice HO482.out
    subst eo83
    go_wp2_with (first|exact (undef_bool (by assumption)).elim|(go_at_call 38;(with_reducible refine (laws_vInts.calls k _ _ t476 _ _ t480 true _ ?side1 ?side2 ?side3 ?side4 A54.out).mono ?_);(case side1=>exact cm (R_reads' HO478.out).2.2);(case side2=>exact (R_reads' HO478.out).2.1);(case side3=>exact cm (R_reads' HO482.out).2.2);(case side4=>exact (R_reads' HO482.out).2.1);rintro e w' ⟨rfl,⟨nd,rfl⟩⟩;obtain ⟨Ao84,co84,eo84⟩:=R_slice HO486.out;subst eo84;obtain ⟨Ao85,co85,eo85⟩:=R_slice HO490.out;subst eo85)|(go_at_call 39;(with_reducible refine (laws_vPairs.calls k _ _ t484 _ _ t488 true _ ?side1 ?side2 ?side3 ?side4 A59.out).mono ?_);(case side1=>exact cm (R_reads' HO486.out).2.2);(case side2=>exact (R_reads' HO486.out).2.1);(case side3=>exact cm (R_reads' HO490.out).2.2);(case side4=>exact (R_reads' HO490.out).2.1);rintro e w' ⟨rfl,⟨nd,rfl⟩⟩;obtain ⟨Ao86,co86,eo86⟩:=R_slice HO498.out;subst eo86;obtain ⟨Ao87,co87,eo87⟩:=R_slice HO502.out;subst eo87)|(go_at_call 38;(with_reducible refine (laws_vInts.calls k _ _ t496 _ _ t500 true _ ?side1 ?side2 ?side3 ?side4 A72.out).mono ?_);(case side1=>exact cm (R_reads' HO498.out).2.2);(case side2=>exact (R_reads' HO498.out).2.1);(case side3=>exact cm (R_reads' HO502.out).2.2);(case side4=>exact (R_reads' HO502.out).2.1);rintro e w' ⟨rfl,⟨nd,rfl⟩⟩))
    go_meet
    case rel=>exact ⟨_,(true),fd,H',⟨by first|omega|exact Nat.le_refl _⟩,⟨rm (R_mono HO474.out (fun _ hk=>⟨hk.1.1.2,hk.1.2⟩))⟩,⟨rm (R_mono HO478.out (fun _ hk=>hk.1.2))⟩,⟨rm (R_mono HO486.out (fun _ hk=>trivial))⟩,⟨rm (R_mono HO498.out (fun _ hk=>hk.1.1.2))⟩,⟨rm (R_mono HO515.out (fun _ hk=>⟨hk.1.1.2,hk.1.2⟩))⟩,⟨rm (R_mono HO519.out (fun _ hk=>⟨hk.1.1.2,hk.1.2⟩))⟩,⟨bm BK475.out⟩,⟨bm BK516.out⟩,⟨h2 HB.out GE475.out GE516.out⟩⟩
  rw [if_neg c81] at H
  have c81b0 : (t505 != t507) = false:=by simpa using c81
  (try (have c81b1 : decide (t505 = t507) = true:=by simpa using c81))
  (try (have c81b2 : (t505 == t507) = true:=by simpa using c81))
  clear c81
  revert hu28 HR0 HC0 A2 t470 t471 t472 A4 t476 t479 A5 t480 t483 A6 t484 t487 A7 t488 t491 A8 t492 t493 A9 t494 t495 A10 t496 t499 A11 t500 t503 A12 t504 t505 A13 t506 t507 A14 t508 A15 t511 t512 t513 A16 t517 t520 A17 t521 t524 A18 nd w20 gb475 w21 GW475 GE475 hcz22_0 hcz22_1 hfz22_0 hfz22_1 Ao23 co23 w24 v477 hcz25_0 hcz25_1 hfz25_0 hfz25_1 w26 v481 hcz27_0 hcz27_1 hfz27_0 hfz27_1 w28 v485 hcz29_0 hcz29_1 hfz29_0 hfz29_1 w30 v489 hcz31_0 hcz31_1 hfz31_0 hfz31_1 w32 hcz33_0 hcz33_1 hfz33_0 hfz33_1 w34 hcz35_0 hcz35_1 hfz35_0 hfz35_1 w36 v497 hcz37_0 hcz37_1 hfz37_0 hfz37_1 w38 v501 hcz39_0 hcz39_1 hfz39_0 hfz39_1 w40 hcz41_0 hcz41_1 hfz41_0 hfz41_1 w42 w43 Ao44 co44 w45 gb516 w46 GW516 GE516 NB475_516 NB516_475 hnb47 hnc47 hcz48_0 hcz48_1 hfz48_0 hfz48_1 Ao49 co49 w50 v518 hcz51_0 hcz51_1 hfz51_0 hfz51_1 w52 v522 HO478 HO482 HO486 HO490 HO498 HO502 HO510 HO523 HO474 HO515 HO519 BK475 BK516 HB i6_ i7_ i8_ i9_ E_ c53b0 c53b1 c53b2 A54 c56b0 c56b1 c56b2 A59 c61b0 c61b1 c62b0 c62b1 c62b2 c67b0 c67b1 c67b2 H A72 c74b0 c74b1 c74b2 c81b0 c81b1 c81b2
  exact hG_.out
end
end Go.Proofs.Ytknfhoghimnieaa.QFnSensors
