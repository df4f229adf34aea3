/- Functions that the law FnReaches comes to, and their walks: no condition but those named. -/
import Derived.Test.YthagkpoinjpmfaaQFnReachesx0
import Derived.Test.YthagkpoinjpmfaaQFnReachesx3
import Derived.Test.YthagkpoinjpmfaaQFnReachesx6
import Derived.Test.YthagkpoinjpmfaaQFnReachesx7
import Derived.Test.YthagkpoinjpmfaaQFnReachesx8
import Derived.Test.YthagkpoinjpmfaaQFnReachesx9
import Derived.Test.YthagkpoinjpmfaaQFnReachesx11
import Derived.Test.YthagkpoinjpmfaaQFnReachesx13
import Derived.Test.YthagkpoinjpmfaaQFnReachesx15
import Derived.Test.YthagkpoinjpmfaaQFnReachesx16
import Derived.Test.YthagkpoinjpmfaaQFnReachesx17
import Derived.Test.YthagkpoinjpmfaaQFnReachesx18
import Derived.Test.YthagkpoinjpmfaaQFnReachesx23
namespace Go.Proofs.Ythagkpoinjpmfaa.QFnReaches
open Go.RowKit Go.Proofs.YthagkpoinjpmfaaW.PrintWords Go.Proofs.YthagkpoinjpmfaaW.PrintLast Go.Proofs.YthagkpoinjpmfaaW.PrintMore Go.Proofs.Ythagkpoinjpmfaa.Short
attribute [local go_sem] max2_int min2_int max_two min_two max_three min_three max_four min_four
set_option linter.unusedVariables false
set_option linter.unusedSimpArgs false
section
open Kd
set_option maxHeartbeats 40000000 in
set_option maxRecDepth 1000000 in
def laws_FnReaches.calls_g2: {G:Prop// G→laws_FnReaches.calls_g.1.1}:=by
 apply hand1
 case h=>
  intro hG0_
  intro k A0 c0 l0 r w hu28 HR0 HC0 i2_0_ A2 i2_1_ t722 t723 t724 t727 t728 A4 i2_2_ t730 t733 A5 i2_3_ t734 t737 A6 i2_4_ t738 t739 A7 i2_5_ t740 t741 A8 i2_6_ t742 t743 A9 i2_7_ t744 t745 A10 i2_8_ t746 t747 A11 i2_9_ t748 t749 A12 i2_10_ t750 t751 A13 i2_11_ t752 t753 A14 i2_12_ t754 A15 i2_13_ t757 t758 t759 t762 A16 i2_14_ t764 t765 A17 i2_15_ t766 t767 A18 i2_16_ t768 A19 i2_17_ t771 t772 t773 t776 t779 A20 i2_18_ t781 t782 A21 i2_19_ t783 t784 A22 i2_20_ nd i2_21_ w24 gb729 w25 GW729 GE729 hcz26_0 hcz26_1 hfz26_0 hfz26_1 Ao27 co27 w28 v731 hcz29_0 hcz29_1 hfz29_0 hfz29_1 w30 v735 hcz31_0 hcz31_1 hfz31_0 hfz31_1 w32 hcz33_0 hcz33_1 hfz33_0 hfz33_1 w34 hcz35_0 hcz35_1 hfz35_0 hfz35_1 w36 hcz37_0 hcz37_1 hfz37_0 hfz37_1 w38 hcz39_0 hcz39_1 hfz39_0 hfz39_1 w40 hcz41_0 hcz41_1 hfz41_0 hfz41_1 w42 hcz43_0 hcz43_1 hfz43_0 hfz43_1 w44 hcz45_0 hcz45_1 hfz45_0 hfz45_1 w46 w47 Ao48 co48 w49 gb763 w50 GW763 GE763 NB729_763 NB763_729 hnb51 hnc51 hcz52_0 hcz52_1 hfz52_0 hfz52_1 Ao53 co53 w54 hcz55_0 hcz55_1 hfz55_0 hfz55_1 w56 w57 Ao58 co58 w59 gb780 w60 GW780 GE780 NB729_780 NB780_729 NB763_780 NB780_763 hnb61 hnc61 hnb62 hnc62 hcz63_0 hcz63_1 hfz63_0 hfz63_1 Ao64 co64 Ao65 co65 i2_22_ w66 hcz67_0 hcz67_1 hfz67_0 hfz67_1 w68 HO726 HO732 HO736 HO756 HO761 HO770 HO775 HO778 BK729 BK763 BK780 HB i2_23_ i2_24_ i2_25_ i2_26_ i2_27_ i2_28_ i2_29_ i2_30_ i2_31_ c69b0 c69b1 c69b2 A70 H c72b0 c72b1 c73b0 c73b1 c73b2 c76b0 c76b1
  by_cases c77: (t743 !=t745)=true
  ·rw[if_pos c77]at H
   have c77b0: (t743 !=t745)=true:=c77
   (try(have c77b1:decide (t743=t745)=false:=by simpa using c77))
   (try(have c77b2: (t743==t745)=false:=by simpa using c77))
   (try(have c77b3:¬(t743=t745):=by simpa using c77))
   clear c77
   as_aux_lemma=>
    have H':=Aside0.mk H
    clear H
    obtain⟨Ao78,co78,eo78⟩:=R_slice HO732.out
    subst eo78
    obtain⟨Ao79,co79,eo79⟩:=Kd.V_slice HO736.out
    subst eo79
    go_wp2_with (first|(go_at_call 44;(with_reducible refine(laws_vInts.calls k _ _ t730 _ _ t734 true _ ?side1 ?side2 ?side3 ?side4 A70.out).mono ?_);(case side1=>exact cm (R_reads' HO732.out).2.2);(case side2=>exact(R_reads' HO732.out).2.1);(case side3=>exact cm (Kd.V_reads' HO736.out).2.2);(case side4=>exact(Kd.V_reads' HO736.out).2.1);rintro e w' ⟨rfl,⟨nd,rfl⟩⟩))
    go_meet
    case rel=>exact⟨_,(true),fd,H',⟨by first|exact Nat.le_refl _|omega⟩,⟨rm (R_mono HO726.out (fun _ hk=>hk.2))⟩,⟨rm (R_mono HO732.out (fun _ hk=>trivial))⟩,⟨rm (R_mono HO775.out (fun _ hk=>hk.1.2))⟩,⟨bm BK729.out⟩,⟨bm BK763.out⟩,⟨bm BK780.out⟩,⟨h3 HB.out GE729.out GE763.out GE780.out⟩⟩
  rw[if_neg c77]at H
  have c77b0: (t743 !=t745)=false:=by simpa using c77
  (try(have c77b1:decide (t743=t745)=true:=by simpa using c77))
  (try(have c77b2: (t743==t745)=true:=by simpa using c77))
  clear c77
  by_cases c80:t746=t748
  rotate_left
  ·rw[if_neg c80]at H
   have c80b0: (t746==t748)=false:=beq_eq_false_iff_ne.mpr c80
   have c80b1: (t746 !=t748)=true:=bne_iff_ne.mpr c80
   as_aux_lemma=>
    have H':=Aside0.mk H
    clear H
    obtain⟨Ao110,co110,eo110⟩:=R_slice HO732.out
    subst eo110
    obtain⟨Ao111,co111,eo111⟩:=Kd.V_slice HO736.out
    subst eo111
    go_wp2_with (first|(go_at_call 44;(with_reducible refine(laws_vInts.calls k _ _ t730 _ _ t734 true _ ?side1 ?side2 ?side3 ?side4 A70.out).mono ?_);(case side1=>exact cm (R_reads' HO732.out).2.2);(case side2=>exact(R_reads' HO732.out).2.1);(case side3=>exact cm (Kd.V_reads' HO736.out).2.2);(case side4=>exact(Kd.V_reads' HO736.out).2.1);rintro e w' ⟨rfl,⟨nd,rfl⟩⟩))
    go_meet
    case rel=>exact⟨_,(true),fd,H',⟨by first|exact Nat.le_refl _|omega⟩,⟨rm (R_mono HO726.out (fun _ hk=>hk.2))⟩,⟨rm (R_mono HO732.out (fun _ hk=>trivial))⟩,⟨rm (R_mono HO775.out (fun _ hk=>hk.1.2))⟩,⟨bm BK729.out⟩,⟨bm BK763.out⟩,⟨bm BK780.out⟩,⟨h3 HB.out GE729.out GE763.out GE780.out⟩⟩
  rw[if_pos c80]at H
  have c80b0: (t746==t748)=true:=beq_iff_eq.mpr c80
  have c80b1: (t746 !=t748)=false:=bne_eq_false_iff_eq.mpr c80
  clear c80
  by_cases c81: (t747 !=t749)=true
  ·rw[if_pos c81]at H
   have c81b0: (t747 !=t749)=true:=c81
   (try(have c81b1:decide (t747=t749)=false:=by simpa using c81))
   (try(have c81b2: (t747==t749)=false:=by simpa using c81))
   (try(have c81b3:¬(t747=t749):=by simpa using c81))
   clear c81
   as_aux_lemma=>
    have H':=Aside0.mk H
    clear H
    obtain⟨Ao82,co82,eo82⟩:=R_slice HO732.out
    subst eo82
    obtain⟨Ao83,co83,eo83⟩:=Kd.V_slice HO736.out
    subst eo83
    go_wp2_with (first|(go_at_call 44;(with_reducible refine(laws_vInts.calls k _ _ t730 _ _ t734 true _ ?side1 ?side2 ?side3 ?side4 A70.out).mono ?_);(case side1=>exact cm (R_reads' HO732.out).2.2);(case side2=>exact(R_reads' HO732.out).2.1);(case side3=>exact cm (Kd.V_reads' HO736.out).2.2);(case side4=>exact(Kd.V_reads' HO736.out).2.1);rintro e w' ⟨rfl,⟨nd,rfl⟩⟩))
    go_meet
    case rel=>exact⟨_,(true),fd,H',⟨by first|exact Nat.le_refl _|omega⟩,⟨rm (R_mono HO726.out (fun _ hk=>hk.2))⟩,⟨rm (R_mono HO732.out (fun _ hk=>trivial))⟩,⟨rm (R_mono HO775.out (fun _ hk=>hk.1.2))⟩,⟨bm BK729.out⟩,⟨bm BK763.out⟩,⟨bm BK780.out⟩,⟨h3 HB.out GE729.out GE763.out GE780.out⟩⟩
  rw[if_neg c81]at H
  have c81b0: (t747 !=t749)=false:=by simpa using c81
  (try(have c81b1:decide (t747=t749)=true:=by simpa using c81))
  (try(have c81b2: (t747==t749)=true:=by simpa using c81))
  clear c81
  by_cases c84:t750=t752
  rotate_left
  ·rw[if_neg c84]at H
   have c84b0: (t750==t752)=false:=beq_eq_false_iff_ne.mpr c84
   have c84b1: (t750 !=t752)=true:=bne_iff_ne.mpr c84
   as_aux_lemma=>
    have H':=Aside0.mk H
    clear H
    obtain⟨Ao108,co108,eo108⟩:=R_slice HO732.out
    subst eo108
    obtain⟨Ao109,co109,eo109⟩:=Kd.V_slice HO736.out
    subst eo109
    go_wp2_with (first|(go_at_call 44;(with_reducible refine(laws_vInts.calls k _ _ t730 _ _ t734 true _ ?side1 ?side2 ?side3 ?side4 A70.out).mono ?_);(case side1=>exact cm (R_reads' HO732.out).2.2);(case side2=>exact(R_reads' HO732.out).2.1);(case side3=>exact cm (Kd.V_reads' HO736.out).2.2);(case side4=>exact(Kd.V_reads' HO736.out).2.1);rintro e w' ⟨rfl,⟨nd,rfl⟩⟩))
    go_meet
    case rel=>exact⟨_,(true),fd,H',⟨by first|exact Nat.le_refl _|omega⟩,⟨rm (R_mono HO726.out (fun _ hk=>hk.2))⟩,⟨rm (R_mono HO732.out (fun _ hk=>trivial))⟩,⟨rm (R_mono HO775.out (fun _ hk=>hk.1.2))⟩,⟨bm BK729.out⟩,⟨bm BK763.out⟩,⟨bm BK780.out⟩,⟨h3 HB.out GE729.out GE763.out GE780.out⟩⟩
  rw[if_pos c84]at H
  have c84b0: (t750==t752)=true:=beq_iff_eq.mpr c84
  have c84b1: (t750 !=t752)=false:=bne_eq_false_iff_eq.mpr c84
  clear c84
  by_cases c85: (t751 !=t753)=true
  ·rw[if_pos c85]at H
   have c85b0: (t751 !=t753)=true:=c85
   (try(have c85b1:decide (t751=t753)=false:=by simpa using c85))
   (try(have c85b2: (t751==t753)=false:=by simpa using c85))
   (try(have c85b3:¬(t751=t753):=by simpa using c85))
   clear c85
   as_aux_lemma=>
    have H':=Aside0.mk H
    clear H
    obtain⟨Ao86,co86,eo86⟩:=R_slice HO732.out
    subst eo86
    obtain⟨Ao87,co87,eo87⟩:=Kd.V_slice HO736.out
    subst eo87
    go_wp2_with (first|(go_at_call 44;(with_reducible refine(laws_vInts.calls k _ _ t730 _ _ t734 true _ ?side1 ?side2 ?side3 ?side4 A70.out).mono ?_);(case side1=>exact cm (R_reads' HO732.out).2.2);(case side2=>exact(R_reads' HO732.out).2.1);(case side3=>exact cm (Kd.V_reads' HO736.out).2.2);(case side4=>exact(Kd.V_reads' HO736.out).2.1);rintro e w' ⟨rfl,⟨nd,rfl⟩⟩))
    go_meet
    case rel=>exact⟨_,(true),fd,H',⟨by first|exact Nat.le_refl _|omega⟩,⟨rm (R_mono HO726.out (fun _ hk=>hk.2))⟩,⟨rm (R_mono HO732.out (fun _ hk=>trivial))⟩,⟨rm (R_mono HO775.out (fun _ hk=>hk.1.2))⟩,⟨bm BK729.out⟩,⟨bm BK763.out⟩,⟨bm BK780.out⟩,⟨h3 HB.out GE729.out GE763.out GE780.out⟩⟩
  rw[if_neg c85]at H
  have c85b0: (t751 !=t753)=false:=by simpa using c85
  (try(have c85b1:decide (t751=t753)=true:=by simpa using c85))
  (try(have c85b2: (t751==t753)=true:=by simpa using c85))
  clear c85
  by_cases c88:t764=t766
  rotate_left
  ·rw[if_neg c88]at H
   have c88b0: (t764==t766)=false:=beq_eq_false_iff_ne.mpr c88
   have c88b1: (t764 !=t766)=true:=bne_iff_ne.mpr c88
   as_aux_lemma=>
    have H':=Aside0.mk H
    clear H
    obtain⟨Ao106,co106,eo106⟩:=R_slice HO732.out
    subst eo106
    obtain⟨Ao107,co107,eo107⟩:=Kd.V_slice HO736.out
    subst eo107
    go_wp2_with (first|(go_at_call 44;(with_reducible refine(laws_vInts.calls k _ _ t730 _ _ t734 true _ ?side1 ?side2 ?side3 ?side4 A70.out).mono ?_);(case side1=>exact cm (R_reads' HO732.out).2.2);(case side2=>exact(R_reads' HO732.out).2.1);(case side3=>exact cm (Kd.V_reads' HO736.out).2.2);(case side4=>exact(Kd.V_reads' HO736.out).2.1);rintro e w' ⟨rfl,⟨nd,rfl⟩⟩))
    go_meet
    case rel=>exact⟨_,(true),fd,H',⟨by first|exact Nat.le_refl _|omega⟩,⟨rm (R_mono HO726.out (fun _ hk=>hk.2))⟩,⟨rm (R_mono HO732.out (fun _ hk=>trivial))⟩,⟨rm (R_mono HO775.out (fun _ hk=>hk.1.2))⟩,⟨bm BK729.out⟩,⟨bm BK763.out⟩,⟨bm BK780.out⟩,⟨h3 HB.out GE729.out GE763.out GE780.out⟩⟩
  rw[if_pos c88]at H
  have c88b0: (t764==t766)=true:=beq_iff_eq.mpr c88
  have c88b1: (t764 !=t766)=false:=bne_eq_false_iff_eq.mpr c88
  clear c88
  revert k A0 c0 l0 r w hu28 HR0 HC0 i2_0_ A2 i2_1_ t722 t723 t724 t727 t728 A4 i2_2_ t730 t733 A5 i2_3_ t734 t737 A6 i2_4_ t738 t739 A7 i2_5_ t740 t741 A8 i2_6_ t742 t743 A9 i2_7_ t744 t745 A10 i2_8_ t746 t747 A11 i2_9_ t748 t749 A12 i2_10_ t750 t751 A13 i2_11_ t752 t753 A14 i2_12_ t754 A15 i2_13_ t757 t758 t759 t762 A16 i2_14_ t764 t765 A17 i2_15_ t766 t767 A18 i2_16_ t768 A19 i2_17_ t771 t772 t773 t776 t779 A20 i2_18_ t781 t782 A21 i2_19_ t783 t784 A22 i2_20_ nd i2_21_ w24 gb729 w25 GW729 GE729 hcz26_0 hcz26_1 hfz26_0 hfz26_1 Ao27 co27 w28 v731 hcz29_0 hcz29_1 hfz29_0 hfz29_1 w30 v735 hcz31_0 hcz31_1 hfz31_0 hfz31_1 w32 hcz33_0 hcz33_1 hfz33_0 hfz33_1 w34 hcz35_0 hcz35_1 hfz35_0 hfz35_1 w36 hcz37_0 hcz37_1 hfz37_0 hfz37_1 w38 hcz39_0 hcz39_1 hfz39_0 hfz39_1 w40 hcz41_0 hcz41_1 hfz41_0 hfz41_1 w42 hcz43_0 hcz43_1 hfz43_0 hfz43_1 w44 hcz45_0 hcz45_1 hfz45_0 hfz45_1 w46 w47 Ao48 co48 w49 gb763 w50 GW763 GE763 NB729_763 NB763_729 hnb51 hnc51 hcz52_0 hcz52_1 hfz52_0 hfz52_1 Ao53 co53 w54 hcz55_0 hcz55_1 hfz55_0 hfz55_1 w56 w57 Ao58 co58 w59 gb780 w60 GW780 GE780 NB729_780 NB780_729 NB763_780 NB780_763 hnb61 hnc61 hnb62 hnc62 hcz63_0 hcz63_1 hfz63_0 hfz63_1 Ao64 co64 Ao65 co65 i2_22_ w66 hcz67_0 hcz67_1 hfz67_0 hfz67_1 w68 HO726 HO732 HO736 HO756 HO761 HO770 HO775 HO778 BK729 BK763 BK780 HB i2_23_ i2_24_ i2_25_ i2_26_ i2_27_ i2_28_ i2_29_ i2_30_ i2_31_ c69b0 c69b1 c69b2 A70 H c72b0 c72b1 c73b0 c73b1 c73b2 c76b0 c76b1 c77b0 c77b1 c77b2 c80b0 c80b1 c81b0 c81b1 c81b2 c84b0 c84b1 c85b0 c85b1 c85b2 c88b0 c88b1
  apply hG0_.out
end
end Go.Proofs.Ythagkpoinjpmfaa.QFnReaches
