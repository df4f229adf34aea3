/- Functions that the law FnReaches comes to, and their walks: no condition but those named. -/
import Derived.Test.YthagkpoinjpmfaaQFnReachesx0
import Derived.Test.YthagkpoinjpmfaaQFnReachesx3
import Derived.Test.YthagkpoinjpmfaaQFnReachesx6
import Derived.Test.YthagkpoinjpmfaaQFnReachesx7
import Derived.Test.YthagkpoinjpmfaaQFnReachesx8
import Derived.Test.YthagkpoinjpmfaaQFnReachesx9
import Derived.Test.YthagkpoinjpmfaaQFnReachesx11
import Derived.Test.YthagkpoinjpmfaaQFnReachesx13
import Derived.Test.YthagkpoinjpmfaaQFnReachesx15
import Derived.Test.YthagkpoinjpmfaaQFnReachesx16
import Derived.Test.YthagkpoinjpmfaaQFnReachesx17
import Derived.Test.YthagkpoinjpmfaaQFnReachesx18
import Derived.Test.YthagkpoinjpmfaaQFnReachesx23a
namespace Go.Proofs.Ythagkpoinjpmfaa.QFnReaches
open Go.RowKit Go.Proofs.YthagkpoinjpmfaaW.PrintWords Go.Proofs.YthagkpoinjpmfaaW.PrintLast Go.Proofs.YthagkpoinjpmfaaW.PrintMore Go.Proofs.Ythagkpoinjpmfaa.Short
attribute [local go_sem] max2_int min2_int max_two min_two max_three min_three max_four min_four
set_option linter.unusedVariables false
set_option linter.unusedSimpArgs false
section
open Kd
set_option maxHeartbeats 40000000 in
set_option maxRecDepth 1000000 in
theorem laws_FnReaches.calls_g1:laws_FnReaches.calls_g2.1:=by
 intro k A0 c0 l0 r w hu28 HR0 HC0 _ A2 _ t722 t723 t724 t727 t728 A4 _ t730 t733 A5 _ t734 t737 A6 _ t738 t739 A7 _ t740 t741 A8 _ t742 t743 A9 _ t744 t745 A10 _ t746 t747 A11 _ t748 t749 A12 _ t750 t751 A13 _ t752 t753 A14 _ t754 A15 _ t757 t758 t759 t762 A16 _ t764 t765 A17 _ t766 t767 A18 _ t768 A19 _ t771 t772 t773 t776 t779 A20 _ t781 t782 A21 _ t783 t784 A22 _ nd _ w24 gb729 w25 GW729 GE729 hcz26_0 hcz26_1 hfz26_0 hfz26_1 Ao27 co27 w28 v731 hcz29_0 hcz29_1 hfz29_0 hfz29_1 w30 v735 hcz31_0 hcz31_1 hfz31_0 hfz31_1 w32 hcz33_0 hcz33_1 hfz33_0 hfz33_1 w34 hcz35_0 hcz35_1 hfz35_0 hfz35_1 w36 hcz37_0 hcz37_1 hfz37_0 hfz37_1 w38 hcz39_0 hcz39_1 hfz39_0 hfz39_1 w40 hcz41_0 hcz41_1 hfz41_0 hfz41_1 w42 hcz43_0 hcz43_1 hfz43_0 hfz43_1 w44 hcz45_0 hcz45_1 hfz45_0 hfz45_1 w46 w47 Ao48 co48 w49 gb763 w50 GW763 GE763 NB729_763 NB763_729 hnb51 hnc51 hcz52_0 hcz52_1 hfz52_0 hfz52_1 Ao53 co53 w54 hcz55_0 hcz55_1 hfz55_0 hfz55_1 w56 w57 Ao58 co58 w59 gb780 w60 GW780 GE780 NB729_780 NB780_729 NB763_780 NB780_763 hnb61 hnc61 hnb62 hnc62 hcz63_0 hcz63_1 hfz63_0 hfz63_1 Ao64 co64 Ao65 co65 _ w66 hcz67_0 hcz67_1 hfz67_0 hfz67_1 w68 HO726 HO732 HO736 HO756 HO761 HO770 HO775 HO778 BK729 BK763 BK780 HB _ _ _ _ _ _ _ _ _ c69b0 c69b1 c69b2 A70 H c72b0 c72b1 c73b0 c73b1 c73b2 c76b0 c76b1 c77b0 c77b1 c77b2 c80b0 c80b1 c81b0 c81b1 c81b2 c84b0 c84b1 c85b0 c85b1 c85b2 c88b0 c88b1
 by_cases c89: (t765 !=t767)=true
 ·rw[if_pos c89]at H
  have c89b0: (t765 !=t767)=true:=c89
  (try(have c89b1:decide (t765=t767)=false:=by simpa using c89))
  (try(have c89b2: (t765==t767)=false:=by simpa using c89))
  (try(have c89b3:¬(t765=t767):=by simpa using c89))
  clear c89
  as_aux_lemma=>
   have H':=Aside0.mk H
   clear H
   obtain⟨Ao90,co90,eo90⟩:=R_slice HO732.out
   subst eo90
   obtain⟨Ao91,co91,eo91⟩:=Kd.V_slice HO736.out
   subst eo91
   go_wp2_with (first|(go_at_call 44;(with_reducible refine(laws_vInts.calls k _ _ t730 _ _ t734 true _ ?side1 ?side2 ?side3 ?side4 A70.out).mono ?_);(case side1=>exact cm (R_reads' HO732.out).2.2);(case side2=>exact(R_reads' HO732.out).2.1);(case side3=>exact cm (Kd.V_reads' HO736.out).2.2);(case side4=>exact(Kd.V_reads' HO736.out).2.1);rintro e w' ⟨rfl,⟨nd,rfl⟩⟩))
   go_meet
   case rel=>exact⟨_,(true),fd,H',⟨by first|exact Nat.le_refl _|omega⟩,⟨rm (R_mono HO726.out (fun _ hk=>hk.2))⟩,⟨rm (R_mono HO732.out (fun _ hk=>trivial))⟩,⟨rm (R_mono HO775.out (fun _ hk=>hk.1.2))⟩,⟨bm BK729.out⟩,⟨bm BK763.out⟩,⟨bm BK780.out⟩,⟨h3 HB.out GE729.out GE763.out GE780.out⟩⟩
 rw[if_neg c89]at H
 have c89b0: (t765 !=t767)=false:=by simpa using c89
 (try(have c89b1:decide (t765=t767)=true:=by simpa using c89))
 (try(have c89b2: (t765==t767)=true:=by simpa using c89))
 clear c89
 by_cases c92:t781=t783
 rotate_left
 ·rw[if_neg c92]at H
  have c92b0: (t781==t783)=false:=beq_eq_false_iff_ne.mpr c92
  have c92b1: (t781 !=t783)=true:=bne_iff_ne.mpr c92
  as_aux_lemma=>
   have H':=Aside0.mk H
   clear H
   obtain⟨Ao104,co104,eo104⟩:=R_slice HO732.out
   subst eo104
   obtain⟨Ao105,co105,eo105⟩:=Kd.V_slice HO736.out
   subst eo105
   go_wp2_with (first|(go_at_call 44;(with_reducible refine(laws_vInts.calls k _ _ t730 _ _ t734 true _ ?side1 ?side2 ?side3 ?side4 A70.out).mono ?_);(case side1=>exact cm (R_reads' HO732.out).2.2);(case side2=>exact(R_reads' HO732.out).2.1);(case side3=>exact cm (Kd.V_reads' HO736.out).2.2);(case side4=>exact(Kd.V_reads' HO736.out).2.1);rintro e w' ⟨rfl,⟨nd,rfl⟩⟩))
   go_meet
   case rel=>exact⟨_,(true),fd,H',⟨by first|exact Nat.le_refl _|omega⟩,⟨rm (R_mono HO726.out (fun _ hk=>hk.2))⟩,⟨rm (R_mono HO732.out (fun _ hk=>trivial))⟩,⟨rm (R_mono HO775.out (fun _ hk=>hk.1.2))⟩,⟨bm BK729.out⟩,⟨bm BK763.out⟩,⟨bm BK780.out⟩,⟨h3 HB.out GE729.out GE763.out GE780.out⟩⟩
 rw[if_pos c92]at H
 have c92b0: (t781==t783)=true:=beq_iff_eq.mpr c92
 have c92b1: (t781 !=t783)=false:=bne_eq_false_iff_eq.mpr c92
 clear c92
 by_cases c93: (t782 !=t784)=true
 ·rw[if_pos c93]at H
  have c93b0: (t782 !=t784)=true:=c93
  (try(have c93b1:decide (t782=t784)=false:=by simpa using c93))
  (try(have c93b2: (t782==t784)=false:=by simpa using c93))
  (try(have c93b3:¬(t782=t784):=by simpa using c93))
  clear c93
  as_aux_lemma=>
   have H':=Aside0.mk H
   clear H
   obtain⟨Ao94,co94,eo94⟩:=R_slice HO732.out
   subst eo94
   obtain⟨Ao95,co95,eo95⟩:=Kd.V_slice HO736.out
   subst eo95
   go_wp2_with (first|(go_at_call 44;(with_reducible refine(laws_vInts.calls k _ _ t730 _ _ t734 true _ ?side1 ?side2 ?side3 ?side4 A70.out).mono ?_);(case side1=>exact cm (R_reads' HO732.out).2.2);(case side2=>exact(R_reads' HO732.out).2.1);(case side3=>exact cm (Kd.V_reads' HO736.out).2.2);(case side4=>exact(Kd.V_reads' HO736.out).2.1);rintro e w' ⟨rfl,⟨nd,rfl⟩⟩))
   go_meet
   case rel=>exact⟨_,(true),fd,H',⟨by first|exact Nat.le_refl _|omega⟩,⟨rm (R_mono HO726.out (fun _ hk=>hk.2))⟩,⟨rm (R_mono HO732.out (fun _ hk=>trivial))⟩,⟨rm (R_mono HO775.out (fun _ hk=>hk.1.2))⟩,⟨bm BK729.out⟩,⟨bm BK763.out⟩,⟨bm BK780.out⟩,⟨h3 HB.out GE729.out GE763.out GE780.out⟩⟩
 rw[if_neg c93]at H
 have c93b0: (t782 !=t784)=false:=by simpa using c93
 (try(have c93b1:decide (t782=t784)=true:=by simpa using c93))
 (try(have c93b2: (t782==t784)=true:=by simpa using c93))
 clear c93
 by_cases c96: (t733 !=t739)=true
 ·rw[if_pos c96]at H
  have c96b0: (t733 !=t739)=true:=c96
  (try(have c96b1:decide (t733=t739)=false:=by simpa using c96))
  (try(have c96b2: (t733==t739)=false:=by simpa using c96))
  (try(have c96b3:¬(t733=t739):=by simpa using c96))
  clear c96
  as_aux_lemma=>
   have H':=Aside0.mk H
   clear H
   obtain⟨Ao97,co97,eo97⟩:=R_slice HO732.out
   subst eo97
   obtain⟨Ao98,co98,eo98⟩:=Kd.V_slice HO736.out
   subst eo98
   go_wp2_with (first|(go_at_call 44;(with_reducible refine(laws_vInts.calls k _ _ t730 _ _ t734 true _ ?side1 ?side2 ?side3 ?side4 A70.out).mono ?_);(case side1=>exact cm (R_reads' HO732.out).2.2);(case side2=>exact(R_reads' HO732.out).2.1);(case side3=>exact cm (Kd.V_reads' HO736.out).2.2);(case side4=>exact(Kd.V_reads' HO736.out).2.1);rintro e w' ⟨rfl,⟨nd,rfl⟩⟩))
   go_meet
   case rel=>exact⟨_,(true),fd,H',⟨by first|exact Nat.le_refl _|omega⟩,⟨rm (R_mono HO726.out (fun _ hk=>hk.2))⟩,⟨rm (R_mono HO732.out (fun _ hk=>trivial))⟩,⟨rm (R_mono HO775.out (fun _ hk=>hk.1.2))⟩,⟨bm BK729.out⟩,⟨bm BK763.out⟩,⟨bm BK780.out⟩,⟨h3 HB.out GE729.out GE763.out GE780.out⟩⟩
 rw[if_neg c96]at H
 have c96b0: (t733 !=t739)=false:=by simpa using c96
 (try(have c96b1:decide (t733=t739)=true:=by simpa using c96))
 (try(have c96b2: (t733==t739)=true:=by simpa using c96))
 clear c96
 by_cases c99: (t733 !=t747)=true
 rotate_left
 ·rw[if_neg c99]at H
  have c99b0: (t733 !=t747)=false:=by simpa using c99
  (try(have c99b1:decide (t733=t747)=true:=by simpa using c99))
  (try(have c99b2: (t733==t747)=true:=by simpa using c99))
  clear c99
  as_aux_lemma=>
   have H':=Aside0.mk H
   clear H
   obtain⟨Ao102,co102,eo102⟩:=R_slice HO732.out
   subst eo102
   obtain⟨Ao103,co103,eo103⟩:=Kd.V_slice HO736.out
   subst eo103
   go_wp2_with (first|(go_at_call 44;(with_reducible refine(laws_vInts.calls k _ _ t730 _ _ t734 true _ ?side1 ?side2 ?side3 ?side4 A70.out).mono ?_);(case side1=>exact cm (R_reads' HO732.out).2.2);(case side2=>exact(R_reads' HO732.out).2.1);(case side3=>exact cm (Kd.V_reads' HO736.out).2.2);(case side4=>exact(Kd.V_reads' HO736.out).2.1);rintro e w' ⟨rfl,⟨nd,rfl⟩⟩))
   go_meet
   case rel=>exact⟨_,((t733 !=t751)),fd,H',⟨by first|exact Nat.le_refl _|omega⟩,⟨rm (R_mono HO726.out (fun _ hk=>hk.2))⟩,⟨rm (R_mono HO732.out (fun _ hk=>trivial))⟩,⟨rm (R_mono HO775.out (fun _ hk=>hk.1.2))⟩,⟨bm BK729.out⟩,⟨bm BK763.out⟩,⟨bm BK780.out⟩,⟨h3 HB.out GE729.out GE763.out GE780.out⟩⟩
 rw[if_pos c99]at H
 have c99b0: (t733 !=t747)=true:=c99
 (try(have c99b1:decide (t733=t747)=false:=by simpa using c99))
 (try(have c99b2: (t733==t747)=false:=by simpa using c99))
 (try(have c99b3:¬(t733=t747):=by simpa using c99))
 clear c99
 as_aux_lemma=>
  have H':=Aside0.mk H
  clear H
  obtain⟨Ao100,co100,eo100⟩:=R_slice HO732.out
  subst eo100
  obtain⟨Ao101,co101,eo101⟩:=Kd.V_slice HO736.out
  subst eo101
  go_wp2_with (first|(go_at_call 44;(with_reducible refine(laws_vInts.calls k _ _ t730 _ _ t734 true _ ?side1 ?side2 ?side3 ?side4 A70.out).mono ?_);(case side1=>exact cm (R_reads' HO732.out).2.2);(case side2=>exact(R_reads' HO732.out).2.1);(case side3=>exact cm (Kd.V_reads' HO736.out).2.2);(case side4=>exact(Kd.V_reads' HO736.out).2.1);rintro e w' ⟨rfl,⟨nd,rfl⟩⟩))
  go_meet
  case rel=>exact⟨_,(true),fd,H',⟨by first|exact Nat.le_refl _|omega⟩,⟨rm (R_mono HO726.out (fun _ hk=>hk.2))⟩,⟨rm (R_mono HO732.out (fun _ hk=>trivial))⟩,⟨rm (R_mono HO775.out (fun _ hk=>hk.1.2))⟩,⟨bm BK729.out⟩,⟨bm BK763.out⟩,⟨bm BK780.out⟩,⟨h3 HB.out GE729.out GE763.out GE780.out⟩⟩
end
end Go.Proofs.Ythagkpoinjpmfaa.QFnReaches
