/- Functions that the law FnMoves comes to, and their walks: no condition but those named. -/
import Derived.Test.YtanfamfgdgcjpaaQFnMovesx0
import Derived.Test.YtanfamfgdgcjpaaQFnMovesx2
import Derived.Test.YtanfamfgdgcjpaaQFnMovesx3
import Derived.Test.YtanfamfgdgcjpaaQFnMovesx5
import Derived.Test.YtanfamfgdgcjpaaQFnMovesx6
import Derived.Test.YtanfamfgdgcjpaaQFnMovesx10
import Derived.Test.YtanfamfgdgcjpaaQFnMovesx12
import Derived.Test.YtanfamfgdgcjpaaQFnMovesx17
import Derived.Test.YtanfamfgdgcjpaaQFnMovesx19
import Derived.Test.YtanfamfgdgcjpaaQFnMovesx21
import Derived.Test.YtanfamfgdgcjpaaQFnMovesx22
import Derived.Test.YtanfamfgdgcjpaaQFnMovesx25
import Derived.Test.YtanfamfgdgcjpaaQFnMovesx30
namespace Go.Proofs.Ytanfamfgdgcjpaa.QFnMoves
open Go.RowKit Go.Proofs.YtanfamfgdgcjpaaW.PrintWords Go.Proofs.YtanfamfgdgcjpaaW.PrintLast Go.Proofs.YtanfamfgdgcjpaaW.PrintMore Go.Proofs.Ytanfamfgdgcjpaa.Short
attribute [local go_sem] max2_int min2_int max_two min_two max_three min_three max_four min_four
set_option linter.unusedVariables false
set_option linter.unusedSimpArgs false
section
open Kd
set_option maxHeartbeats 40000000 in
set_option maxRecDepth 1000000 in
def laws_FnMoves.calls_g2: {G:Prop// G→laws_FnMoves.calls_g.1.1}:=by
 apply hand1
 case h=>
  intro hG0_
  intro k A0 c0 l0 r w hu27 hu58 HR0 HC0 i2_0_ A2 i2_1_ t687 t688 t689 t692 A4 i2_2_ t694 t695 A5 i2_3_ t696 t697 A6 i2_4_ t698 t699 A7 i2_5_ t700 t701 A8 i2_6_ t702 t703 A9 i2_7_ t704 t705 A10 i2_8_ t706 t707 A11 i2_9_ t708 t709 A12 i2_10_ t710 A13 i2_11_ t713 t714 t715 t718 A14 i2_12_ t722 t725 t726 t727 A15 i2_13_ t728 t731 t732 t733 A16 i2_14_ t734 A17 i2_15_ t737 t738 t739 A18 i2_16_ t741 t744 A19 i2_17_ t745 t748 A20 i2_18_ nd w22 gb693 w23 GW693 GE693 hcz24_0 hcz24_1 hfz24_0 hfz24_1 Ao25 co25 w26 hcz27_0 hcz27_1 hfz27_0 hfz27_1 w28 hcz29_0 hcz29_1 hfz29_0 hfz29_1 w30 hcz31_0 hcz31_1 hfz31_0 hfz31_1 w32 hcz33_0 hcz33_1 hfz33_0 hfz33_1 w34 hcz35_0 hcz35_1 hfz35_0 hfz35_1 w36 hcz37_0 hcz37_1 hfz37_0 hfz37_1 w38 hcz39_0 hcz39_1 hfz39_0 hfz39_1 w40 w41 Ao42 co42 w43 gb721 w44 GW721 GE721 NB693_721 NB721_693 hnb45 hnc45 hcz46_0 hcz46_1 hfz46_0 hfz46_1 Ao47 co47 Ao48 co48 w49 v723 hcz50_0 hcz50_1 hfz50_0 hfz50_1 w51 v729 w52 Ao53 co53 w54 gb740 w55 GW740 GE740 NB693_740 NB740_693 NB721_740 NB740_721 hnb56 hnc56 hnb57 hnc57 hcz58_0 hcz58_1 hfz58_0 hfz58_1 w59 v742 hcz60_0 hcz60_1 hfz60_0 hfz60_1 w61 v746 HO691 HO712 HO717 HO724 HO730 HO736 HO747 HO720 HO743 BK693 BK721 BK740 HB i2_19_ i2_20_ i2_21_ i2_22_ i2_23_ i2_24_ i2_25_ i2_26_ H c62b0 c62b1 c62b2 c63b0 c63b1 c63b2 c64b0 c64b1 c64b2 c65b0 c65b1 c65b2
  by_cases c66:t702=t704
  rotate_left
  ·rw[if_neg c66]at H
   have c66b0: (t702==t704)=false:=beq_eq_false_iff_ne.mpr c66
   have c66b1: (t702 !=t704)=true:=bne_iff_ne.mpr c66
   as_aux_lemma=>
    have H':=Aside0.mk H
    clear H
    go_wp2
    repeat(go_quiet (fail);try go_wp2)
    go_meet
    case rel=>exact⟨_,(true),fd,H',⟨by first|exact Nat.le_refl _|omega⟩,⟨rm (R_mono HO691.out (fun _ hk=>⟨hk.1.1.2,hk.1.2⟩))⟩,⟨rm (R_mono HO717.out (fun _ hk=>⟨hk.1.1.2,hk.1.2⟩))⟩,⟨rm (R_mono HO724.out (fun _ hk=>⟨hk.1.1.2,hk.1.2⟩))⟩,⟨rm (R_mono HO743.out (fun _ hk=>trivial))⟩,⟨bm BK693.out⟩,⟨bm BK721.out⟩,⟨bm BK740.out⟩,⟨h3 HB.out GE693.out GE721.out GE740.out⟩⟩
  rw[if_pos c66]at H
  have c66b0: (t702==t704)=true:=beq_iff_eq.mpr c66
  have c66b1: (t702 !=t704)=false:=bne_eq_false_iff_eq.mpr c66
  clear c66
  by_cases c67: (t703 !=t705)=true
  ·rw[if_pos c67]at H
   have c67b0: (t703 !=t705)=true:=c67
   (try(have c67b1:decide (t703=t705)=false:=by simpa using c67))
   (try(have c67b2: (t703==t705)=false:=by simpa using c67))
   (try(have c67b3:¬(t703=t705):=by simpa using c67))
   clear c67
   as_aux_lemma=>
    have H':=Aside0.mk H
    clear H
    go_wp2
    repeat(go_quiet (fail);try go_wp2)
    go_meet
    case rel=>exact⟨_,(true),fd,H',⟨by first|exact Nat.le_refl _|omega⟩,⟨rm (R_mono HO691.out (fun _ hk=>⟨hk.1.1.2,hk.1.2⟩))⟩,⟨rm (R_mono HO717.out (fun _ hk=>⟨hk.1.1.2,hk.1.2⟩))⟩,⟨rm (R_mono HO724.out (fun _ hk=>⟨hk.1.1.2,hk.1.2⟩))⟩,⟨rm (R_mono HO743.out (fun _ hk=>trivial))⟩,⟨bm BK693.out⟩,⟨bm BK721.out⟩,⟨bm BK740.out⟩,⟨h3 HB.out GE693.out GE721.out GE740.out⟩⟩
  rw[if_neg c67]at H
  have c67b0: (t703 !=t705)=false:=by simpa using c67
  (try(have c67b1:decide (t703=t705)=true:=by simpa using c67))
  (try(have c67b2: (t703==t705)=true:=by simpa using c67))
  clear c67
  by_cases c68:t706=t708
  rotate_left
  ·rw[if_neg c68]at H
   have c68b0: (t706==t708)=false:=beq_eq_false_iff_ne.mpr c68
   have c68b1: (t706 !=t708)=true:=bne_iff_ne.mpr c68
   as_aux_lemma=>
    have H':=Aside0.mk H
    clear H
    go_wp2
    repeat(go_quiet (fail);try go_wp2)
    go_meet
    case rel=>exact⟨_,(true),fd,H',⟨by first|exact Nat.le_refl _|omega⟩,⟨rm (R_mono HO691.out (fun _ hk=>⟨hk.1.1.2,hk.1.2⟩))⟩,⟨rm (R_mono HO717.out (fun _ hk=>⟨hk.1.1.2,hk.1.2⟩))⟩,⟨rm (R_mono HO724.out (fun _ hk=>⟨hk.1.1.2,hk.1.2⟩))⟩,⟨rm (R_mono HO743.out (fun _ hk=>trivial))⟩,⟨bm BK693.out⟩,⟨bm BK721.out⟩,⟨bm BK740.out⟩,⟨h3 HB.out GE693.out GE721.out GE740.out⟩⟩
  rw[if_pos c68]at H
  have c68b0: (t706==t708)=true:=beq_iff_eq.mpr c68
  have c68b1: (t706 !=t708)=false:=bne_eq_false_iff_eq.mpr c68
  clear c68
  by_cases c69: (t707 !=t709)=true
  ·rw[if_pos c69]at H
   have c69b0: (t707 !=t709)=true:=c69
   (try(have c69b1:decide (t707=t709)=false:=by simpa using c69))
   (try(have c69b2: (t707==t709)=false:=by simpa using c69))
   (try(have c69b3:¬(t707=t709):=by simpa using c69))
   clear c69
   as_aux_lemma=>
    have H':=Aside0.mk H
    clear H
    go_wp2
    repeat(go_quiet (fail);try go_wp2)
    go_meet
    case rel=>exact⟨_,(true),fd,H',⟨by first|exact Nat.le_refl _|omega⟩,⟨rm (R_mono HO691.out (fun _ hk=>⟨hk.1.1.2,hk.1.2⟩))⟩,⟨rm (R_mono HO717.out (fun _ hk=>⟨hk.1.1.2,hk.1.2⟩))⟩,⟨rm (R_mono HO724.out (fun _ hk=>⟨hk.1.1.2,hk.1.2⟩))⟩,⟨rm (R_mono HO743.out (fun _ hk=>trivial))⟩,⟨bm BK693.out⟩,⟨bm BK721.out⟩,⟨bm BK740.out⟩,⟨h3 HB.out GE693.out GE721.out GE740.out⟩⟩
  rw[if_neg c69]at H
  have c69b0: (t707 !=t709)=false:=by simpa using c69
  (try(have c69b1:decide (t707=t709)=true:=by simpa using c69))
  (try(have c69b2: (t707==t709)=true:=by simpa using c69))
  clear c69
  by_cases c70: (t727 !=t733)=true
  ·rw[if_pos c70]at H
   have c70b0: (t727 !=t733)=true:=c70
   (try(have c70b1:decide (t727=t733)=false:=by simpa using c70))
   (try(have c70b2: (t727==t733)=false:=by simpa using c70))
   (try(have c70b3:¬(t727=t733):=by simpa using c70))
   clear c70
   as_aux_lemma=>
    have H':=Aside0.mk H
    clear H
    go_wp2
    repeat(go_quiet (fail);try go_wp2)
    go_meet
    case rel=>exact⟨_,(true),fd,H',⟨by first|exact Nat.le_refl _|omega⟩,⟨rm (R_mono HO691.out (fun _ hk=>⟨hk.1.1.2,hk.1.2⟩))⟩,⟨rm (R_mono HO717.out (fun _ hk=>⟨hk.1.1.2,hk.1.2⟩))⟩,⟨rm (R_mono HO724.out (fun _ hk=>⟨hk.1.1.2,hk.1.2⟩))⟩,⟨rm (R_mono HO743.out (fun _ hk=>trivial))⟩,⟨bm BK693.out⟩,⟨bm BK721.out⟩,⟨bm BK740.out⟩,⟨h3 HB.out GE693.out GE721.out GE740.out⟩⟩
  rw[if_neg c70]at H
  have c70b0: (t727 !=t733)=false:=by simpa using c70
  (try(have c70b1:decide (t727=t733)=true:=by simpa using c70))
  (try(have c70b2: (t727==t733)=true:=by simpa using c70))
  clear c70
  by_cases c71:t725=t731
  rotate_left
  ·rw[if_neg c71]at H
   have c71b0: (t725==t731)=false:=beq_eq_false_iff_ne.mpr c71
   have c71b1: (t725 !=t731)=true:=bne_iff_ne.mpr c71
   as_aux_lemma=>
    have H':=Aside0.mk H
    clear H
    go_wp2
    repeat(go_quiet (fail);try go_wp2)
    go_meet
    case rel=>exact⟨_,(true),fd,H',⟨by first|exact Nat.le_refl _|omega⟩,⟨rm (R_mono HO691.out (fun _ hk=>⟨hk.1.1.2,hk.1.2⟩))⟩,⟨rm (R_mono HO717.out (fun _ hk=>⟨hk.1.1.2,hk.1.2⟩))⟩,⟨rm (R_mono HO724.out (fun _ hk=>⟨hk.1.1.2,hk.1.2⟩))⟩,⟨rm (R_mono HO743.out (fun _ hk=>trivial))⟩,⟨bm BK693.out⟩,⟨bm BK721.out⟩,⟨bm BK740.out⟩,⟨h3 HB.out GE693.out GE721.out GE740.out⟩⟩
  rw[if_pos c71]at H
  have c71b0: (t725==t731)=true:=beq_iff_eq.mpr c71
  have c71b1: (t725 !=t731)=false:=bne_eq_false_iff_eq.mpr c71
  clear c71
  revert k A0 c0 l0 r w hu27 hu58 HR0 HC0 i2_0_ A2 i2_1_ t687 t688 t689 t692 A4 i2_2_ t694 t695 A5 i2_3_ t696 t697 A6 i2_4_ t698 t699 A7 i2_5_ t700 t701 A8 i2_6_ t702 t703 A9 i2_7_ t704 t705 A10 i2_8_ t706 t707 A11 i2_9_ t708 t709 A12 i2_10_ t710 A13 i2_11_ t713 t714 t715 t718 A14 i2_12_ t722 t725 t726 t727 A15 i2_13_ t728 t731 t732 t733 A16 i2_14_ t734 A17 i2_15_ t737 t738 t739 A18 i2_16_ t741 t744 A19 i2_17_ t745 t748 A20 i2_18_ nd w22 gb693 w23 GW693 GE693 hcz24_0 hcz24_1 hfz24_0 hfz24_1 Ao25 co25 w26 hcz27_0 hcz27_1 hfz27_0 hfz27_1 w28 hcz29_0 hcz29_1 hfz29_0 hfz29_1 w30 hcz31_0 hcz31_1 hfz31_0 hfz31_1 w32 hcz33_0 hcz33_1 hfz33_0 hfz33_1 w34 hcz35_0 hcz35_1 hfz35_0 hfz35_1 w36 hcz37_0 hcz37_1 hfz37_0 hfz37_1 w38 hcz39_0 hcz39_1 hfz39_0 hfz39_1 w40 w41 Ao42 co42 w43 gb721 w44 GW721 GE721 NB693_721 NB721_693 hnb45 hnc45 hcz46_0 hcz46_1 hfz46_0 hfz46_1 Ao47 co47 Ao48 co48 w49 v723 hcz50_0 hcz50_1 hfz50_0 hfz50_1 w51 v729 w52 Ao53 co53 w54 gb740 w55 GW740 GE740 NB693_740 NB740_693 NB721_740 NB740_721 hnb56 hnc56 hnb57 hnc57 hcz58_0 hcz58_1 hfz58_0 hfz58_1 w59 v742 hcz60_0 hcz60_1 hfz60_0 hfz60_1 w61 v746 HO691 HO712 HO717 HO724 HO730 HO736 HO747 HO720 HO743 BK693 BK721 BK740 HB i2_19_ i2_20_ i2_21_ i2_22_ i2_23_ i2_24_ i2_25_ i2_26_ H c62b0 c62b1 c62b2 c63b0 c63b1 c63b2 c64b0 c64b1 c64b2 c65b0 c65b1 c65b2 c66b0 c66b1 c67b0 c67b1 c67b2 c68b0 c68b1 c69b0 c69b1 c69b2 c70b0 c70b1 c70b2 c71b0 c71b1
  apply hG0_.out
end
end Go.Proofs.Ytanfamfgdgcjpaa.QFnMoves
