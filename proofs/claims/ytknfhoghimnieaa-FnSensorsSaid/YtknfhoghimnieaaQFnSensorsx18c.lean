/- Functions that the law FnSensors comes to, as Lean functions, with the proof that the Go code does what they say: written by a program of this session over the kit's print. No condition but those named. -/
import Derived.Test.YtknfhoghimnieaaQFnSensorsx0
import Derived.Test.YtknfhoghimnieaaQFnSensorsx4
import Derived.Test.YtknfhoghimnieaaQFnSensorsx5
import Derived.Test.YtknfhoghimnieaaQFnSensorsx6
import Derived.Test.YtknfhoghimnieaaQFnSensorsx7
import Derived.Test.YtknfhoghimnieaaQFnSensorsx8
import Derived.Test.YtknfhoghimnieaaQFnSensorsx9
import Derived.Test.YtknfhoghimnieaaQFnSensorsx10
import Derived.Test.YtknfhoghimnieaaQFnSensorsx12
import Derived.Test.YtknfhoghimnieaaQFnSensorsx13
import Derived.Test.YtknfhoghimnieaaQFnSensorsx14
import Derived.Test.YtknfhoghimnieaaQFnSensorsx17
import Derived.Test.YtknfhoghimnieaaQFnSensorsx18b
namespace Go.Proofs.Ytknfhoghimnieaa.QFnSensors
open Go.RowKit Go.Proofs.YtknfhoghimnieaaW.PrintWords Go.Proofs.YtknfhoghimnieaaW.PrintLast Go.Proofs.YtknfhoghimnieaaW.PrintMore Go.Proofs.Ytknfhoghimnieaa.Short
attribute [local go_sem] max2_int min2_int max_two min_two max_three min_three max_four min_four   -- for this text's walks alone
set_option linter.unusedVariables false
set_option linter.unusedSimpArgs false

section
open Kd
set_option maxHeartbeats 40000000 in
set_option maxRecDepth 1000000 in
theorem laws_FnSensors.calls_g3 (k : Nat) (A0 : Option Addr) (c0 : Nat) (l0 : List Int) (r : Bool) (w : World) (hr0 : Kd.C (Kd.int .u8) w A0 l0.length l0) (hc0 : l0.length ≤ c0) (h : laws_FnSensors.f k l0 = some r) : (@laws_FnSensors.calls_g2 k A0 c0 l0 r w hr0 hc0 h).1:=by
 intro hu28 HR0 HC0 A2 t470 t471 t472 A4 t476 t479 A5 t480 t483 A6 t484 t487 A7 t488 t491 A8 t492 t493 A9 t494 t495 A10 t496 t499 A11 t500 t503 A12 t504 t505 A13 t506 t507 A14 t508 A15 t511 t512 t513 A16 t517 t520 A17 t521 t524 A18 nd w20 gb475 w21 GW475 GE475 hcz22_0 hcz22_1 hfz22_0 hfz22_1 Ao23 co23 w24 v477 hcz25_0 hcz25_1 hfz25_0 hfz25_1 w26 v481 hcz27_0 hcz27_1 hfz27_0 hfz27_1 w28 v485 hcz29_0 hcz29_1 hfz29_0 hfz29_1 w30 v489 hcz31_0 hcz31_1 hfz31_0 hfz31_1 w32 hcz33_0 hcz33_1 hfz33_0 hfz33_1 w34 hcz35_0 hcz35_1 hfz35_0 hfz35_1 w36 v497 hcz37_0 hcz37_1 hfz37_0 hfz37_1 w38 v501 hcz39_0 hcz39_1 hfz39_0 hfz39_1 w40 hcz41_0 hcz41_1 hfz41_0 hfz41_1 w42 w43 Ao44 co44 w45 gb516 w46 GW516 GE516 NB475_516 NB516_475 hnb47 hnc47 hcz48_0 hcz48_1 hfz48_0 hfz48_1 Ao49 co49 w50 v518 hcz51_0 hcz51_1 hfz51_0 hfz51_1 w52 v522 HO478 HO482 HO486 HO490 HO498 HO502 HO510 HO523 HO474 HO515 HO519 BK475 BK516 HB i6_ i7_ i8_ i9_ E_ c53b0 c53b1 c53b2 A54 c56b0 c56b1 c56b2 A59 c61b0 c61b1 c62b0 c62b1 c62b2 c67b0 c67b1 c67b2 H A72 c74b0 c74b1 c74b2 c81b0 c81b1 c81b2
 by_cases c88 : (t520 != t524) = true
 ·rw [if_pos c88] at H
  have c88b0 : (t520 != t524) = true:=c88
  (try (have c88b1 : decide (t520 = t524) = false:=by simpa using c88))
  (try (have c88b2 : (t520 == t524) = false:=by simpa using c88))
  (try (have c88b3 : ¬ (t520 = t524):=by simpa using c88))
  clear c88
  as_aux_lemma =>
   have H':=Aside0.mk H
   clear H
   obtain ⟨Ao89,co89,eo89⟩:=R_slice HO478.out
   subst eo89
   obtain ⟨Ao90,co90,eo90⟩:=R_slice HO482.out
   subst eo90
   go_wp2_with (first|exact (undef_bool (by assumption)).elim|(go_at_call 38;(with_reducible refine (laws_vInts.calls k _ _ t476 _ _ t480 true _ ?side1 ?side2 ?side3 ?side4 A54.out).mono ?_);(case side1=>exact cm (R_reads' HO478.out).2.2);(case side2=>exact (R_reads' HO478.out).2.1);(case side3=>exact cm (R_reads' HO482.out).2.2);(case side4=>exact (R_reads' HO482.out).2.1);rintro e w' ⟨rfl,⟨nd,rfl⟩⟩;obtain ⟨Ao91,co91,eo91⟩:=R_slice HO486.out;subst eo91;obtain ⟨Ao92,co92,eo92⟩:=R_slice HO490.out;subst eo92)|(go_at_call 39;(with_reducible refine (laws_vPairs.calls k _ _ t484 _ _ t488 true _ ?side1 ?side2 ?side3 ?side4 A59.out).mono ?_);(case side1=>exact cm (R_reads' HO486.out).2.2);(case side2=>exact (R_reads' HO486.out).2.1);(case side3=>exact cm (R_reads' HO490.out).2.2);(case side4=>exact (R_reads' HO490.out).2.1);rintro e w' ⟨rfl,⟨nd,rfl⟩⟩;obtain ⟨Ao93,co93,eo93⟩:=R_slice HO498.out;subst eo93;obtain ⟨Ao94,co94,eo94⟩:=R_slice HO502.out;subst eo94)|(go_at_call 38;(with_reducible refine (laws_vInts.calls k _ _ t496 _ _ t500 true _ ?side1 ?side2 ?side3 ?side4 A72.out).mono ?_);(case side1=>exact cm (R_reads' HO498.out).2.2);(case side2=>exact (R_reads' HO498.out).2.1);(case side3=>exact cm (R_reads' HO502.out).2.2);(case side4=>exact (R_reads' HO502.out).2.1);rintro e w' ⟨rfl,⟨nd,rfl⟩⟩))
   go_meet
   case rel=>exact ⟨_,(true),fd,H',⟨by first|omega|exact Nat.le_refl _⟩,⟨rm (R_mono HO474.out (fun _ hk=>⟨hk.1.1.2,hk.1.2⟩))⟩,⟨rm (R_mono HO478.out (fun _ hk=>hk.1.2))⟩,⟨rm (R_mono HO486.out (fun _ hk=>trivial))⟩,⟨rm (R_mono HO498.out (fun _ hk=>hk.1.1.2))⟩,⟨rm (R_mono HO515.out (fun _ hk=>⟨hk.1.1.2,hk.1.2⟩))⟩,⟨rm (R_mono HO519.out (fun _ hk=>⟨hk.1.1.2,hk.1.2⟩))⟩,⟨bm BK475.out⟩,⟨bm BK516.out⟩,⟨h2 HB.out GE475.out GE516.out⟩⟩
 rw [if_neg c88] at H
 have c88b0 : (t520 != t524) = false:=by simpa using c88
 (try (have c88b1 : decide (t520 = t524) = true:=by simpa using c88))
 (try (have c88b2 : (t520 == t524) = true:=by simpa using c88))
 clear c88
 replace H:=Option.bind_eq_some_iff.mp H
 obtain ⟨t528,A950,H⟩:=H
 (try dsimp only at H)
 have A95:=Aside0.mk A950
 clear A950
 by_cases c96 : t528 = true
 rotate_left
 ·replace c96:=Bool.eq_false_iff.mpr c96
  subst c96
  rw [if_neg (show ¬ (false = true) by decide)] at H
  as_aux_lemma =>
   have H':=Aside0.mk H
   clear H
   obtain ⟨Ao114,co114,eo114⟩:=R_slice HO478.out
   subst eo114
   obtain ⟨Ao115,co115,eo115⟩:=R_slice HO482.out
   subst eo115
   go_wp2_with (first|exact (undef_bool (by assumption)).elim|(go_at_call 38;(with_reducible refine (laws_vInts.calls k _ _ t476 _ _ t480 true _ ?side1 ?side2 ?side3 ?side4 A54.out).mono ?_);(case side1=>exact cm (R_reads' HO478.out).2.2);(case side2=>exact (R_reads' HO478.out).2.1);(case side3=>exact cm (R_reads' HO482.out).2.2);(case side4=>exact (R_reads' HO482.out).2.1);rintro e w' ⟨rfl,⟨nd,rfl⟩⟩;obtain ⟨Ao116,co116,eo116⟩:=R_slice HO486.out;subst eo116;obtain ⟨Ao117,co117,eo117⟩:=R_slice HO490.out;subst eo117)|(go_at_call 39;(with_reducible refine (laws_vPairs.calls k _ _ t484 _ _ t488 true _ ?side1 ?side2 ?side3 ?side4 A59.out).mono ?_);(case side1=>exact cm (R_reads' HO486.out).2.2);(case side2=>exact (R_reads' HO486.out).2.1);(case side3=>exact cm (R_reads' HO490.out).2.2);(case side4=>exact (R_reads' HO490.out).2.1);rintro e w' ⟨rfl,⟨nd,rfl⟩⟩;obtain ⟨Ao118,co118,eo118⟩:=R_slice HO498.out;subst eo118;obtain ⟨Ao119,co119,eo119⟩:=R_slice HO502.out;subst eo119)|(go_at_call 38;(with_reducible refine (laws_vInts.calls k _ _ t496 _ _ t500 true _ ?side1 ?side2 ?side3 ?side4 A72.out).mono ?_);(case side1=>exact cm (R_reads' HO498.out).2.2);(case side2=>exact (R_reads' HO498.out).2.1);(case side3=>exact cm (R_reads' HO502.out).2.2);(case side4=>exact (R_reads' HO502.out).2.1);rintro e w' ⟨rfl,⟨nd,rfl⟩⟩;obtain ⟨Ao120,co120,eo120⟩:=R_slice HO519.out;subst eo120;obtain ⟨Ao121,co121,eo121⟩:=R_slice HO523.out;subst eo121)|(go_at_call 40;(with_reducible refine (laws_vSensors.calls k _ _ t517 _ _ t521 false _ ?side1 ?side2 ?side3 ?side4 A95.out).mono ?_);(case side1=>exact cm (R_reads' HO519.out).2.2);(case side2=>exact (R_reads' HO519.out).2.1);(case side3=>exact cm (R_reads' HO523.out).2.2);(case side4=>exact (R_reads' HO523.out).2.1);rintro e w' ⟨rfl,⟨nd,rfl⟩⟩))
   go_meet
   case rel=>exact ⟨_,(true),fd,H',⟨by first|omega|exact Nat.le_refl _⟩,⟨rm (R_mono HO474.out (fun _ hk=>⟨hk.1.1.2,hk.1.2⟩))⟩,⟨rm (R_mono HO478.out (fun _ hk=>hk.1.2))⟩,⟨rm (R_mono HO486.out (fun _ hk=>trivial))⟩,⟨rm (R_mono HO498.out (fun _ hk=>hk.1.1.2))⟩,⟨rm (R_mono HO515.out (fun _ hk=>⟨hk.1.1.2,hk.1.2⟩))⟩,⟨rm (R_mono HO519.out (fun _ hk=>⟨hk.1.1.2,hk.1.2⟩))⟩,⟨bm BK475.out⟩,⟨bm BK516.out⟩,⟨h2 HB.out GE475.out GE516.out⟩⟩
 subst c96
 rw [if_pos rfl] at H
 by_cases c97 : t505 = true
 ·subst c97
  rw [if_pos rfl] at H
  as_aux_lemma =>
   have H':=Aside0.mk H
   clear H
   obtain ⟨Ao98,co98,eo98⟩:=R_slice HO478.out
   subst eo98
   obtain ⟨Ao99,co99,eo99⟩:=R_slice HO482.out
   subst eo99
   go_wp2_with (first|exact (undef_bool (by assumption)).elim|(go_at_call 38;(with_reducible refine (laws_vInts.calls k _ _ t476 _ _ t480 true _ ?side1 ?side2 ?side3 ?side4 A54.out).mono ?_);(case side1=>exact cm (R_reads' HO478.out).2.2);(case side2=>exact (R_reads' HO478.out).2.1);(case side3=>exact cm (R_reads' HO482.out).2.2);(case side4=>exact (R_reads' HO482.out).2.1);rintro e w' ⟨rfl,⟨nd,rfl⟩⟩;obtain ⟨Ao100,co100,eo100⟩:=R_slice HO486.out;subst eo100;obtain ⟨Ao101,co101,eo101⟩:=R_slice HO490.out;subst eo101)|(go_at_call 39;(with_reducible refine (laws_vPairs.calls k _ _ t484 _ _ t488 true _ ?side1 ?side2 ?side3 ?side4 A59.out).mono ?_);(case side1=>exact cm (R_reads' HO486.out).2.2);(case side2=>exact (R_reads' HO486.out).2.1);(case side3=>exact cm (R_reads' HO490.out).2.2);(case side4=>exact (R_reads' HO490.out).2.1);rintro e w' ⟨rfl,⟨nd,rfl⟩⟩;obtain ⟨Ao102,co102,eo102⟩:=R_slice HO498.out;subst eo102;obtain ⟨Ao103,co103,eo103⟩:=R_slice HO502.out;subst eo103)|(go_at_call 38;(with_reducible refine (laws_vInts.calls k _ _ t496 _ _ t500 true _ ?side1 ?side2 ?side3 ?side4 A72.out).mono ?_);(case side1=>exact cm (R_reads' HO498.out).2.2);(case side2=>exact (R_reads' HO498.out).2.1);(case side3=>exact cm (R_reads' HO502.out).2.2);(case side4=>exact (R_reads' HO502.out).2.1);rintro e w' ⟨rfl,⟨nd,rfl⟩⟩;obtain ⟨Ao104,co104,eo104⟩:=R_slice HO519.out;subst eo104;obtain ⟨Ao105,co105,eo105⟩:=R_slice HO523.out;subst eo105)|(go_at_call 40;(with_reducible refine (laws_vSensors.calls k _ _ t517 _ _ t521 true _ ?side1 ?side2 ?side3 ?side4 A95.out).mono ?_);(case side1=>exact cm (R_reads' HO519.out).2.2);(case side2=>exact (R_reads' HO519.out).2.1);(case side3=>exact cm (R_reads' HO523.out).2.2);(case side4=>exact (R_reads' HO523.out).2.1);rintro e w' ⟨rfl,⟨nd,rfl⟩⟩))
   go_meet
   case rel=>exact ⟨_,((t479 != t504)),fd,H',⟨by first|omega|exact Nat.le_refl _⟩,⟨rm (R_mono HO474.out (fun _ hk=>⟨hk.1.1.2,hk.1.2⟩))⟩,⟨rm (R_mono HO478.out (fun _ hk=>hk.1.2))⟩,⟨rm (R_mono HO486.out (fun _ hk=>trivial))⟩,⟨rm (R_mono HO498.out (fun _ hk=>hk.1.1.2))⟩,⟨rm (R_mono HO515.out (fun _ hk=>⟨hk.1.1.2,hk.1.2⟩))⟩,⟨rm (R_mono HO519.out (fun _ hk=>⟨hk.1.1.2,hk.1.2⟩))⟩,⟨bm BK475.out⟩,⟨bm BK516.out⟩,⟨h2 HB.out GE475.out GE516.out⟩⟩
 replace c97:=Bool.eq_false_iff.mpr c97
 subst c97
 rw [if_neg (show ¬ (false = true) by decide)] at H
 as_aux_lemma =>
  have H':=Aside0.mk H
  clear H
  obtain ⟨Ao106,co106,eo106⟩:=R_slice HO478.out
  subst eo106
  obtain ⟨Ao107,co107,eo107⟩:=R_slice HO482.out
  subst eo107
  go_wp2_with (first|exact (undef_bool (by assumption)).elim|(go_at_call 38;(with_reducible refine (laws_vInts.calls k _ _ t476 _ _ t480 true _ ?side1 ?side2 ?side3 ?side4 A54.out).mono ?_);(case side1=>exact cm (R_reads' HO478.out).2.2);(case side2=>exact (R_reads' HO478.out).2.1);(case side3=>exact cm (R_reads' HO482.out).2.2);(case side4=>exact (R_reads' HO482.out).2.1);rintro e w' ⟨rfl,⟨nd,rfl⟩⟩;obtain ⟨Ao108,co108,eo108⟩:=R_slice HO486.out;subst eo108;obtain ⟨Ao109,co109,eo109⟩:=R_slice HO490.out;subst eo109)|(go_at_call 39;(with_reducible refine (laws_vPairs.calls k _ _ t484 _ _ t488 true _ ?side1 ?side2 ?side3 ?side4 A59.out).mono ?_);(case side1=>exact cm (R_reads' HO486.out).2.2);(case side2=>exact (R_reads' HO486.out).2.1);(case side3=>exact cm (R_reads' HO490.out).2.2);(case side4=>exact (R_reads' HO490.out).2.1);rintro e w' ⟨rfl,⟨nd,rfl⟩⟩;obtain ⟨Ao110,co110,eo110⟩:=R_slice HO498.out;subst eo110;obtain ⟨Ao111,co111,eo111⟩:=R_slice HO502.out;subst eo111)|(go_at_call 38;(with_reducible refine (laws_vInts.calls k _ _ t496 _ _ t500 true _ ?side1 ?side2 ?side3 ?side4 A72.out).mono ?_);(case side1=>exact cm (R_reads' HO498.out).2.2);(case side2=>exact (R_reads' HO498.out).2.1);(case side3=>exact cm (R_reads' HO502.out).2.2);(case side4=>exact (R_reads' HO502.out).2.1);rintro e w' ⟨rfl,⟨nd,rfl⟩⟩;obtain ⟨Ao112,co112,eo112⟩:=R_slice HO519.out;subst eo112;obtain ⟨Ao113,co113,eo113⟩:=R_slice HO523.out;subst eo113)|(go_at_call 40;(with_reducible refine (laws_vSensors.calls k _ _ t517 _ _ t521 true _ ?side1 ?side2 ?side3 ?side4 A95.out).mono ?_);(case side1=>exact cm (R_reads' HO519.out).2.2);(case side2=>exact (R_reads' HO519.out).2.1);(case side3=>exact cm (R_reads' HO523.out).2.2);(case side4=>exact (R_reads' HO523.out).2.1);rintro e w' ⟨rfl,⟨nd,rfl⟩⟩))
  go_meet
  case rel=>exact ⟨_,((t479 != false)),fd,H',⟨by first|omega|exact Nat.le_refl _⟩,⟨rm (R_mono HO474.out (fun _ hk=>⟨hk.1.1.2,hk.1.2⟩))⟩,⟨rm (R_mono HO478.out (fun _ hk=>hk.1.2))⟩,⟨rm (R_mono HO486.out (fun _ hk=>trivial))⟩,⟨rm (R_mono HO498.out (fun _ hk=>hk.1.1.2))⟩,⟨rm (R_mono HO515.out (fun _ hk=>⟨hk.1.1.2,hk.1.2⟩))⟩,⟨rm (R_mono HO519.out (fun _ hk=>⟨hk.1.1.2,hk.1.2⟩))⟩,⟨bm BK475.out⟩,⟨bm BK516.out⟩,⟨h2 HB.out GE475.out GE516.out⟩⟩
theorem laws_FnSensors.calls (k : Nat) (A0 : Option Addr) (c0 : Nat) (l0 : List Int) (r : Bool) (w : World) (hr0 : Kd.C (Kd.int .u8) w A0 l0.length l0) (hc0 : l0.length ≤ c0) (h : laws_FnSensors.f k l0 = some r) :
  Calls Try.prog 9 #[.slice A0 l0.length c0] w fun e w'=>e = .returned (.bool r) ∧ Below w.heap.size w w':=((@laws_FnSensors.calls_g0 k A0 c0 l0 r w hr0 hc0 h).2 ((@laws_FnSensors.calls_g1 k A0 c0 l0 r w hr0 hc0 h).2 ((@laws_FnSensors.calls_g2 k A0 c0 l0 r w hr0 hc0 h).2 (@laws_FnSensors.calls_g3 k A0 c0 l0 r w hr0 hc0 h))))
/-- THE ONE PURE STATEMENT of laws_FnSensors: yours. -/
def laws_FnSensors.Pure : Prop:=∀ (l0 : List Int),l0.length ≤ maxLen → l0.length * 1 ≤ 140737488351232 → (∀ x ∈ l0,(Lit.int .u8 x).wf = true) → ∃ k,laws_FnSensors.f k l0 = some true
theorem laws_FnSensors.walk (P : laws_FnSensors.Pure) (a0 : Option Addr) (len0 cap0 : Nat) (z0 : List Int) (w : World) (w0 : (a0 = none ∧ len0 = 0 ∧ cap0 = 0 ∧ z0 = []) ∨ ∃ x,a0 = some x ∧ len0 ≤ cap0 ∧ cap0 ≤ maxLen ∧ z0.length = cap0 ∧ (∀ i,i < z0.length → w.cell? (x.add i) = some (.int .u8 (z0.getD i 0))) ∧ ∀ n ∈ z0,(Lit.int .u8 n).wf = true) (y0 : len0 * 1 ≤ 140737488351232) :
  Calls Try.prog 9 #[.slice a0 len0 cap0] w fun e w'=>e = .returned (.bool true) ∧ Below w.heap.size w w':=by
 obtain ⟨l0,rfl,hr0,hm0,hw0,hc0⟩:=ReadsInt.ofRowC w0
 obtain ⟨k,h⟩:=P l0 hm0 y0 hw0
 refine (laws_FnSensors.calls k _ _ l0 true w (C_of_reads (d:=(0 : Int)) (h1:=fun _=>rfl) hr0) hc0 h).mono ?_
 rintro e w' ⟨rfl,hd⟩
 exact ⟨rfl,hd⟩

end

end Go.Proofs.Ytknfhoghimnieaa.QFnSensors
