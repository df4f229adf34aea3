/- Functions that the law FnRelays comes to, and their walks: no condition but those named. -/
import Derived.Test.YthagkpoinjpmfaaQFnRelaysx0
import Derived.Test.YthagkpoinjpmfaaQFnRelaysx3
import Derived.Test.YthagkpoinjpmfaaQFnRelaysx6
import Derived.Test.YthagkpoinjpmfaaQFnRelaysx8
import Derived.Test.YthagkpoinjpmfaaQFnRelaysx9
import Derived.Test.YthagkpoinjpmfaaQFnRelaysx10
import Derived.Test.YthagkpoinjpmfaaQFnRelaysx12
import Derived.Test.YthagkpoinjpmfaaQFnRelaysx16
import Derived.Test.YthagkpoinjpmfaaQFnRelaysx17
import Derived.Test.YthagkpoinjpmfaaQFnRelaysx18
import Derived.Test.YthagkpoinjpmfaaQFnRelaysx22a
namespace Go.Proofs.Ythagkpoinjpmfaa.QFnRelays
open Go.RowKit Go.Proofs.YthagkpoinjpmfaaW.PrintWords Go.Proofs.YthagkpoinjpmfaaW.PrintLast Go.Proofs.YthagkpoinjpmfaaW.PrintMore Go.Proofs.Ythagkpoinjpmfaa.Short
attribute [local go_sem] max2_int min2_int max_two min_two max_three min_three max_four min_four
set_option linter.unusedVariables false
set_option linter.unusedSimpArgs false
section
open Kd
set_option maxHeartbeats 40000000 in
set_option maxRecDepth 1000000 in
theorem laws_FnRelays.calls_g1:laws_FnRelays.calls_g2.1:=by
 intro k A0 c0 l0 r w hu28 hu63 HR0 HC0 _ A2 _ t635 t636 t637 t640 t641 t642 A4 _ t646 t647 A5 _ t648 t649 A6 _ t650 t651 A7 _ t652 t653 A8 _ t654 t655 A9 _ t656 t657 A10 _ t658 A11 _ t661 t662 t663 t664 t665 t666 A12 _ t669 t670 A13 _ t671 t672 A14 _ t673 A15 _ t676 t677 t678 A16 _ t682 t683 A17 _ t684 t685 A18 _ nd _ w20 gb645 w21 GW645 GE645 hcz22_0 hcz22_1 hfz22_0 hfz22_1 Ao23 co23 Ao24 co24 w25 hcz26_0 hcz26_1 hfz26_0 hfz26_1 w27 hcz28_0 hcz28_1 hfz28_0 hfz28_1 w29 hcz30_0 hcz30_1 hfz30_0 hfz30_1 w31 hcz32_0 hcz32_1 hfz32_0 hfz32_1 w33 hcz34_0 hcz34_1 hfz34_0 hfz34_1 w35 w36 Ao37 co37 w38 gb667 w39 GW667 GE667 NB645_667 NB667_645 gb668 w40 GW668 GE668 NB645_668 NB668_645 NB667_668 NB668_667 hnb41 hnc41 hnb42 hnc42 hcz43_0 hcz43_1 hfz43_0 hfz43_1 hnb44 hnc44 hcz45_0 hcz45_1 hcz45_2 hfz45_0 hfz45_1 hfz45_2 w46 hcz47_0 hcz47_1 hfz47_0 hfz47_1 hcz48_0 hcz48_1 hcz48_2 hfz48_0 hfz48_1 hfz48_2 w49 w50 Ao51 co51 w52 gb681 w53 GW681 GE681 NB645_681 NB681_645 NB667_681 NB681_667 NB668_681 NB681_668 hnb54 hnc54 hnb55 hnc55 hnb56 hnc56 hcz57_0 hcz57_1 hfz57_0 hfz57_1 Ao58 co58 w59 hcz60_0 hcz60_1 hfz60_0 hfz60_1 w61 HO639 HO644 HO660 HO675 HO680 BK645 BK667 BK668 BK681 HB _ _ _ _ _ _ _ _ H c62b0 c62b1 c62b2 c63b0 c63b1 c63b2 c64b0 c64b1 c65b0 c65b1 c65b2 c66b0 c66b1 c67b0 c67b1 c67b2 c68b0 c68b1 c69b0 c69b1 c69b2
 by_cases c70: (t682 !=t684)=true
 ·rw[if_pos c70]at H
  have c70b0: (t682 !=t684)=true:=c70
  (try(have c70b1:decide (t682=t684)=false:=by simpa using c70))
  (try(have c70b2: (t682==t684)=false:=by simpa using c70))
  (try(have c70b3:¬(t682=t684):=by simpa using c70))
  clear c70
  as_aux_lemma=>
   have H':=Aside0.mk H
   clear H
   go_wp2
   go_meet
   case rel=>exact⟨_,(true),fd,H',⟨by first|exact Nat.le_refl _|omega⟩,⟨rm (R_mono HO639.out (fun _ hk=>hk.1.2))⟩,⟨rm HO644.out⟩,⟨bm BK645.out⟩,⟨bm BK667.out⟩,⟨bm BK668.out⟩,⟨bm BK681.out⟩,⟨by repeat(first|(with_reducible first|exact HB.out|apply below_alloc|apply pw_below_drewN|apply below_drew1|refine below_set ?_ GE645.out|refine below_set ?_ GE667.out|refine below_set ?_ GE668.out|refine below_set ?_ GE681.out)|exact HB.out)⟩⟩
 rw[if_neg c70]at H
 have c70b0: (t682 !=t684)=false:=by simpa using c70
 (try(have c70b1:decide (t682=t684)=true:=by simpa using c70))
 (try(have c70b2: (t682==t684)=true:=by simpa using c70))
 clear c70
 by_cases c71: (t683 !=t685)=true
 ·rw[if_pos c71]at H
  have c71b0: (t683 !=t685)=true:=c71
  (try(have c71b1:decide (t683=t685)=false:=by simpa using c71))
  (try(have c71b2: (t683==t685)=false:=by simpa using c71))
  (try(have c71b3:¬(t683=t685):=by simpa using c71))
  clear c71
  as_aux_lemma=>
   have H':=Aside0.mk H
   clear H
   go_wp2
   go_meet
   case rel=>exact⟨_,(true),fd,H',⟨by first|exact Nat.le_refl _|omega⟩,⟨rm (R_mono HO639.out (fun _ hk=>hk.1.2))⟩,⟨rm HO644.out⟩,⟨bm BK645.out⟩,⟨bm BK667.out⟩,⟨bm BK668.out⟩,⟨bm BK681.out⟩,⟨by repeat(first|(with_reducible first|exact HB.out|apply below_alloc|apply pw_below_drewN|apply below_drew1|refine below_set ?_ GE645.out|refine below_set ?_ GE667.out|refine below_set ?_ GE668.out|refine below_set ?_ GE681.out)|exact HB.out)⟩⟩
 rw[if_neg c71]at H
 have c71b0: (t683 !=t685)=false:=by simpa using c71
 (try(have c71b1:decide (t683=t685)=true:=by simpa using c71))
 (try(have c71b2: (t683==t685)=true:=by simpa using c71))
 clear c71
 by_cases c72: (t651 !=t655)=true
 ·rw[if_pos c72]at H
  have c72b0: (t651 !=t655)=true:=c72
  (try(have c72b1:decide (t651=t655)=false:=by simpa using c72))
  (try(have c72b2: (t651==t655)=false:=by simpa using c72))
  (try(have c72b3:¬(t651=t655):=by simpa using c72))
  clear c72
  as_aux_lemma=>
   have H':=Aside0.mk H
   clear H
   go_wp2
   go_meet
   case rel=>exact⟨_,(true),fd,H',⟨by first|exact Nat.le_refl _|omega⟩,⟨rm (R_mono HO639.out (fun _ hk=>hk.1.2))⟩,⟨rm HO644.out⟩,⟨bm BK645.out⟩,⟨bm BK667.out⟩,⟨bm BK668.out⟩,⟨bm BK681.out⟩,⟨by repeat(first|(with_reducible first|exact HB.out|apply below_alloc|apply pw_below_drewN|apply below_drew1|refine below_set ?_ GE645.out|refine below_set ?_ GE667.out|refine below_set ?_ GE668.out|refine below_set ?_ GE681.out)|exact HB.out)⟩⟩
 rw[if_neg c72]at H
 have c72b0: (t651 !=t655)=false:=by simpa using c72
 (try(have c72b1:decide (t651=t655)=true:=by simpa using c72))
 (try(have c72b2: (t651==t655)=true:=by simpa using c72))
 clear c72
 by_cases c73:t647=true
 ·subst c73
  rw[if_pos rfl]at H
  as_aux_lemma=>
   have H':=Aside0.mk H
   clear H
   go_wp2
   go_meet
   case rel=>exact⟨_,((t651 !=t646)),fd,H',⟨by first|exact Nat.le_refl _|omega⟩,⟨rm (R_mono HO639.out (fun _ hk=>hk.1.2))⟩,⟨rm HO644.out⟩,⟨bm BK645.out⟩,⟨bm BK667.out⟩,⟨bm BK668.out⟩,⟨bm BK681.out⟩,⟨by repeat(first|(with_reducible first|exact HB.out|apply below_alloc|apply pw_below_drewN|apply below_drew1|refine below_set ?_ GE645.out|refine below_set ?_ GE667.out|refine below_set ?_ GE668.out|refine below_set ?_ GE681.out)|exact HB.out)⟩⟩
 replace c73:=Bool.eq_false_iff.mpr c73
 subst c73
 rw[if_neg (show ¬(false=true)by decide)]at H
 as_aux_lemma=>
  have H':=Aside0.mk H
  clear H
  go_wp2
  go_meet
  case rel=>exact⟨_,((t651 !=false)),fd,H',⟨by first|exact Nat.le_refl _|omega⟩,⟨rm (R_mono HO639.out (fun _ hk=>hk.1.2))⟩,⟨rm HO644.out⟩,⟨bm BK645.out⟩,⟨bm BK667.out⟩,⟨bm BK668.out⟩,⟨bm BK681.out⟩,⟨by repeat(first|(with_reducible first|exact HB.out|apply below_alloc|apply pw_below_drewN|apply below_drew1|refine below_set ?_ GE645.out|refine below_set ?_ GE667.out|refine below_set ?_ GE668.out|refine below_set ?_ GE681.out)|exact HB.out)⟩⟩
end
end Go.Proofs.Ythagkpoinjpmfaa.QFnRelays
