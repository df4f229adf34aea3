/- Functions that the law FnRelays comes to, and their walks: no condition but those named. -/
import Derived.Test.YthagkpoinjpmfaaQFnRelaysx0
import Derived.Test.YthagkpoinjpmfaaQFnRelaysx3
import Derived.Test.YthagkpoinjpmfaaQFnRelaysx6
import Derived.Test.YthagkpoinjpmfaaQFnRelaysx8
import Derived.Test.YthagkpoinjpmfaaQFnRelaysx9
import Derived.Test.YthagkpoinjpmfaaQFnRelaysx10
import Derived.Test.YthagkpoinjpmfaaQFnRelaysx12
import Derived.Test.YthagkpoinjpmfaaQFnRelaysx16
import Derived.Test.YthagkpoinjpmfaaQFnRelaysx17
import Derived.Test.YthagkpoinjpmfaaQFnRelaysx18
import Derived.Test.YthagkpoinjpmfaaQFnRelaysx22
namespace Go.Proofs.Ythagkpoinjpmfaa.QFnRelays
open Go.RowKit Go.Proofs.YthagkpoinjpmfaaW.PrintWords Go.Proofs.YthagkpoinjpmfaaW.PrintLast Go.Proofs.YthagkpoinjpmfaaW.PrintMore Go.Proofs.Ythagkpoinjpmfaa.Short
attribute [local go_sem] max2_int min2_int max_two min_two max_three min_three max_four min_four
set_option linter.unusedVariables false
set_option linter.unusedSimpArgs false
section
open Kd
set_option maxHeartbeats 40000000 in
set_option maxRecDepth 1000000 in
def laws_FnRelays.calls_g2: {G:Prop// G→laws_FnRelays.calls_g.1.1}:=by
 apply hand1
 case h=>
  intro hG0_
  intro k A0 c0 l0 r w hu28 hu63 HR0 HC0 i2_0_ A2 i2_1_ t635 t636 t637 t640 t641 t642 A4 i2_2_ t646 t647 A5 i2_3_ t648 t649 A6 i2_4_ t650 t651 A7 i2_5_ t652 t653 A8 i2_6_ t654 t655 A9 i2_7_ t656 t657 A10 i2_8_ t658 A11 i2_9_ t661 t662 t663 t664 t665 t666 A12 i2_10_ t669 t670 A13 i2_11_ t671 t672 A14 i2_12_ t673 A15 i2_13_ t676 t677 t678 A16 i2_14_ t682 t683 A17 i2_15_ t684 t685 A18 i2_16_ nd i2_17_ w20 gb645 w21 GW645 GE645 hcz22_0 hcz22_1 hfz22_0 hfz22_1 Ao23 co23 Ao24 co24 w25 hcz26_0 hcz26_1 hfz26_0 hfz26_1 w27 hcz28_0 hcz28_1 hfz28_0 hfz28_1 w29 hcz30_0 hcz30_1 hfz30_0 hfz30_1 w31 hcz32_0 hcz32_1 hfz32_0 hfz32_1 w33 hcz34_0 hcz34_1 hfz34_0 hfz34_1 w35 w36 Ao37 co37 w38 gb667 w39 GW667 GE667 NB645_667 NB667_645 gb668 w40 GW668 GE668 NB645_668 NB668_645 NB667_668 NB668_667 hnb41 hnc41 hnb42 hnc42 hcz43_0 hcz43_1 hfz43_0 hfz43_1 hnb44 hnc44 hcz45_0 hcz45_1 hcz45_2 hfz45_0 hfz45_1 hfz45_2 w46 hcz47_0 hcz47_1 hfz47_0 hfz47_1 hcz48_0 hcz48_1 hcz48_2 hfz48_0 hfz48_1 hfz48_2 w49 w50 Ao51 co51 w52 gb681 w53 GW681 GE681 NB645_681 NB681_645 NB667_681 NB681_667 NB668_681 NB681_668 hnb54 hnc54 hnb55 hnc55 hnb56 hnc56 hcz57_0 hcz57_1 hfz57_0 hfz57_1 Ao58 co58 w59 hcz60_0 hcz60_1 hfz60_0 hfz60_1 w61 HO639 HO644 HO660 HO675 HO680 BK645 BK667 BK668 BK681 HB i2_18_ i2_19_ i2_20_ i2_21_ i2_22_ i2_23_ i2_24_ i2_25_ H c62b0 c62b1 c62b2 c63b0 c63b1 c63b2 c64b0 c64b1
  by_cases c65: (t651 !=t653)=true
  ·rw[if_pos c65]at H
   have c65b0: (t651 !=t653)=true:=c65
   (try(have c65b1:decide (t651=t653)=false:=by simpa using c65))
   (try(have c65b2: (t651==t653)=false:=by simpa using c65))
   (try(have c65b3:¬(t651=t653):=by simpa using c65))
   clear c65
   as_aux_lemma=>
    have H':=Aside0.mk H
    clear H
    go_wp2
    go_meet
    case rel=>exact⟨_,(true),fd,H',⟨by first|exact Nat.le_refl _|omega⟩,⟨rm (R_mono HO639.out (fun _ hk=>hk.1.2))⟩,⟨rm HO644.out⟩,⟨bm BK645.out⟩,⟨bm BK667.out⟩,⟨bm BK668.out⟩,⟨bm BK681.out⟩,⟨by repeat(first|(with_reducible first|exact HB.out|apply below_alloc|apply pw_below_drewN|apply below_drew1|refine below_set ?_ GE645.out|refine below_set ?_ GE667.out|refine below_set ?_ GE668.out|refine below_set ?_ GE681.out)|exact HB.out)⟩⟩
  rw[if_neg c65]at H
  have c65b0: (t651 !=t653)=false:=by simpa using c65
  (try(have c65b1:decide (t651=t653)=true:=by simpa using c65))
  (try(have c65b2: (t651==t653)=true:=by simpa using c65))
  clear c65
  by_cases c66:t654=t656
  rotate_left
  ·rw[if_neg c66]at H
   have c66b0: (t654==t656)=false:=beq_eq_false_iff_ne.mpr c66
   have c66b1: (t654 !=t656)=true:=bne_iff_ne.mpr c66
   as_aux_lemma=>
    have H':=Aside0.mk H
    clear H
    go_wp2
    go_meet
    case rel=>exact⟨_,(true),fd,H',⟨by first|exact Nat.le_refl _|omega⟩,⟨rm (R_mono HO639.out (fun _ hk=>hk.1.2))⟩,⟨rm HO644.out⟩,⟨bm BK645.out⟩,⟨bm BK667.out⟩,⟨bm BK668.out⟩,⟨bm BK681.out⟩,⟨by repeat(first|(with_reducible first|exact HB.out|apply below_alloc|apply pw_below_drewN|apply below_drew1|refine below_set ?_ GE645.out|refine below_set ?_ GE667.out|refine below_set ?_ GE668.out|refine below_set ?_ GE681.out)|exact HB.out)⟩⟩
  rw[if_pos c66]at H
  have c66b0: (t654==t656)=true:=beq_iff_eq.mpr c66
  have c66b1: (t654 !=t656)=false:=bne_eq_false_iff_eq.mpr c66
  clear c66
  by_cases c67: (t655 !=t657)=true
  ·rw[if_pos c67]at H
   have c67b0: (t655 !=t657)=true:=c67
   (try(have c67b1:decide (t655=t657)=false:=by simpa using c67))
   (try(have c67b2: (t655==t657)=false:=by simpa using c67))
   (try(have c67b3:¬(t655=t657):=by simpa using c67))
   clear c67
   as_aux_lemma=>
    have H':=Aside0.mk H
    clear H
    go_wp2
    go_meet
    case rel=>exact⟨_,(true),fd,H',⟨by first|exact Nat.le_refl _|omega⟩,⟨rm (R_mono HO639.out (fun _ hk=>hk.1.2))⟩,⟨rm HO644.out⟩,⟨bm BK645.out⟩,⟨bm BK667.out⟩,⟨bm BK668.out⟩,⟨bm BK681.out⟩,⟨by repeat(first|(with_reducible first|exact HB.out|apply below_alloc|apply pw_below_drewN|apply below_drew1|refine below_set ?_ GE645.out|refine below_set ?_ GE667.out|refine below_set ?_ GE668.out|refine below_set ?_ GE681.out)|exact HB.out)⟩⟩
  rw[if_neg c67]at H
  have c67b0: (t655 !=t657)=false:=by simpa using c67
  (try(have c67b1:decide (t655=t657)=true:=by simpa using c67))
  (try(have c67b2: (t655==t657)=true:=by simpa using c67))
  clear c67
  by_cases c68:t669=t671
  rotate_left
  ·rw[if_neg c68]at H
   have c68b0: (t669==t671)=false:=beq_eq_false_iff_ne.mpr c68
   have c68b1: (t669 !=t671)=true:=bne_iff_ne.mpr c68
   as_aux_lemma=>
    have H':=Aside0.mk H
    clear H
    go_wp2
    go_meet
    case rel=>exact⟨_,(true),fd,H',⟨by first|exact Nat.le_refl _|omega⟩,⟨rm (R_mono HO639.out (fun _ hk=>hk.1.2))⟩,⟨rm HO644.out⟩,⟨bm BK645.out⟩,⟨bm BK667.out⟩,⟨bm BK668.out⟩,⟨bm BK681.out⟩,⟨by repeat(first|(with_reducible first|exact HB.out|apply below_alloc|apply pw_below_drewN|apply below_drew1|refine below_set ?_ GE645.out|refine below_set ?_ GE667.out|refine below_set ?_ GE668.out|refine below_set ?_ GE681.out)|exact HB.out)⟩⟩
  rw[if_pos c68]at H
  have c68b0: (t669==t671)=true:=beq_iff_eq.mpr c68
  have c68b1: (t669 !=t671)=false:=bne_eq_false_iff_eq.mpr c68
  clear c68
  by_cases c69: (t670 !=t672)=true
  ·rw[if_pos c69]at H
   have c69b0: (t670 !=t672)=true:=c69
   (try(have c69b1:decide (t670=t672)=false:=by simpa using c69))
   (try(have c69b2: (t670==t672)=false:=by simpa using c69))
   (try(have c69b3:¬(t670=t672):=by simpa using c69))
   clear c69
   as_aux_lemma=>
    have H':=Aside0.mk H
    clear H
    go_wp2
    go_meet
    case rel=>exact⟨_,(true),fd,H',⟨by first|exact Nat.le_refl _|omega⟩,⟨rm (R_mono HO639.out (fun _ hk=>hk.1.2))⟩,⟨rm HO644.out⟩,⟨bm BK645.out⟩,⟨bm BK667.out⟩,⟨bm BK668.out⟩,⟨bm BK681.out⟩,⟨by repeat(first|(with_reducible first|exact HB.out|apply below_alloc|apply pw_below_drewN|apply below_drew1|refine below_set ?_ GE645.out|refine below_set ?_ GE667.out|refine below_set ?_ GE668.out|refine below_set ?_ GE681.out)|exact HB.out)⟩⟩
  rw[if_neg c69]at H
  have c69b0: (t670 !=t672)=false:=by simpa using c69
  (try(have c69b1:decide (t670=t672)=true:=by simpa using c69))
  (try(have c69b2: (t670==t672)=true:=by simpa using c69))
  clear c69
  revert k A0 c0 l0 r w hu28 hu63 HR0 HC0 i2_0_ A2 i2_1_ t635 t636 t637 t640 t641 t642 A4 i2_2_ t646 t647 A5 i2_3_ t648 t649 A6 i2_4_ t650 t651 A7 i2_5_ t652 t653 A8 i2_6_ t654 t655 A9 i2_7_ t656 t657 A10 i2_8_ t658 A11 i2_9_ t661 t662 t663 t664 t665 t666 A12 i2_10_ t669 t670 A13 i2_11_ t671 t672 A14 i2_12_ t673 A15 i2_13_ t676 t677 t678 A16 i2_14_ t682 t683 A17 i2_15_ t684 t685 A18 i2_16_ nd i2_17_ w20 gb645 w21 GW645 GE645 hcz22_0 hcz22_1 hfz22_0 hfz22_1 Ao23 co23 Ao24 co24 w25 hcz26_0 hcz26_1 hfz26_0 hfz26_1 w27 hcz28_0 hcz28_1 hfz28_0 hfz28_1 w29 hcz30_0 hcz30_1 hfz30_0 hfz30_1 w31 hcz32_0 hcz32_1 hfz32_0 hfz32_1 w33 hcz34_0 hcz34_1 hfz34_0 hfz34_1 w35 w36 Ao37 co37 w38 gb667 w39 GW667 GE667 NB645_667 NB667_645 gb668 w40 GW668 GE668 NB645_668 NB668_645 NB667_668 NB668_667 hnb41 hnc41 hnb42 hnc42 hcz43_0 hcz43_1 hfz43_0 hfz43_1 hnb44 hnc44 hcz45_0 hcz45_1 hcz45_2 hfz45_0 hfz45_1 hfz45_2 w46 hcz47_0 hcz47_1 hfz47_0 hfz47_1 hcz48_0 hcz48_1 hcz48_2 hfz48_0 hfz48_1 hfz48_2 w49 w50 Ao51 co51 w52 gb681 w53 GW681 GE681 NB645_681 NB681_645 NB667_681 NB681_667 NB668_681 NB681_668 hnb54 hnc54 hnb55 hnc55 hnb56 hnc56 hcz57_0 hcz57_1 hfz57_0 hfz57_1 Ao58 co58 w59 hcz60_0 hcz60_1 hfz60_0 hfz60_1 w61 HO639 HO644 HO660 HO675 HO680 BK645 BK667 BK668 BK681 HB i2_18_ i2_19_ i2_20_ i2_21_ i2_22_ i2_23_ i2_24_ i2_25_ H c62b0 c62b1 c62b2 c63b0 c63b1 c63b2 c64b0 c64b1 c65b0 c65b1 c65b2 c66b0 c66b1 c67b0 c67b1 c67b2 c68b0 c68b1 c69b0 c69b1 c69b2
  apply hG0_.out
end
end Go.Proofs.Ythagkpoinjpmfaa.QFnRelays
