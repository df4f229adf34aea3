/- Functions that the law FnMoves comes to, and their walks: no condition but those named. -/
import Derived.Test.YtanfamfgdgcjpaaQFnMovesx0
import Derived.Test.YtanfamfgdgcjpaaQFnMovesx2
import Derived.Test.YtanfamfgdgcjpaaQFnMovesx3
import Derived.Test.YtanfamfgdgcjpaaQFnMovesx5
import Derived.Test.YtanfamfgdgcjpaaQFnMovesx6
import Derived.Test.YtanfamfgdgcjpaaQFnMovesx10
import Derived.Test.YtanfamfgdgcjpaaQFnMovesx12
import Derived.Test.YtanfamfgdgcjpaaQFnMovesx17
import Derived.Test.YtanfamfgdgcjpaaQFnMovesx19
import Derived.Test.YtanfamfgdgcjpaaQFnMovesx21
import Derived.Test.YtanfamfgdgcjpaaQFnMovesx22
import Derived.Test.YtanfamfgdgcjpaaQFnMovesx25
import Derived.Test.YtanfamfgdgcjpaaQFnMovesx30a
namespace Go.Proofs.Ytanfamfgdgcjpaa.QFnMoves
open Go.RowKit Go.Proofs.YtanfamfgdgcjpaaW.PrintWords Go.Proofs.YtanfamfgdgcjpaaW.PrintLast Go.Proofs.YtanfamfgdgcjpaaW.PrintMore Go.Proofs.Ytanfamfgdgcjpaa.Short
attribute [local go_sem] max2_int min2_int max_two min_two max_three min_three max_four min_four
set_option linter.unusedVariables false
set_option linter.unusedSimpArgs false
section
open Kd
set_option maxHeartbeats 40000000 in
set_option maxRecDepth 1000000 in
theorem laws_FnMoves.calls_g1:laws_FnMoves.calls_g2.1:=by
 intro k A0 c0 l0 r w hu27 hu58 HR0 HC0 _ A2 _ t687 t688 t689 t692 A4 _ t694 t695 A5 _ t696 t697 A6 _ t698 t699 A7 _ t700 t701 A8 _ t702 t703 A9 _ t704 t705 A10 _ t706 t707 A11 _ t708 t709 A12 _ t710 A13 _ t713 t714 t715 t718 A14 _ t722 t725 t726 t727 A15 _ t728 t731 t732 t733 A16 _ t734 A17 _ t737 t738 t739 A18 _ t741 t744 A19 _ t745 t748 A20 _ nd w22 gb693 w23 GW693 GE693 hcz24_0 hcz24_1 hfz24_0 hfz24_1 Ao25 co25 w26 hcz27_0 hcz27_1 hfz27_0 hfz27_1 w28 hcz29_0 hcz29_1 hfz29_0 hfz29_1 w30 hcz31_0 hcz31_1 hfz31_0 hfz31_1 w32 hcz33_0 hcz33_1 hfz33_0 hfz33_1 w34 hcz35_0 hcz35_1 hfz35_0 hfz35_1 w36 hcz37_0 hcz37_1 hfz37_0 hfz37_1 w38 hcz39_0 hcz39_1 hfz39_0 hfz39_1 w40 w41 Ao42 co42 w43 gb721 w44 GW721 GE721 NB693_721 NB721_693 hnb45 hnc45 hcz46_0 hcz46_1 hfz46_0 hfz46_1 Ao47 co47 Ao48 co48 w49 v723 hcz50_0 hcz50_1 hfz50_0 hfz50_1 w51 v729 w52 Ao53 co53 w54 gb740 w55 GW740 GE740 NB693_740 NB740_693 NB721_740 NB740_721 hnb56 hnc56 hnb57 hnc57 hcz58_0 hcz58_1 hfz58_0 hfz58_1 w59 v742 hcz60_0 hcz60_1 hfz60_0 hfz60_1 w61 v746 HO691 HO712 HO717 HO724 HO730 HO736 HO747 HO720 HO743 BK693 BK721 BK740 HB _ _ _ _ _ _ _ _ H c62b0 c62b1 c62b2 c63b0 c63b1 c63b2 c64b0 c64b1 c64b2 c65b0 c65b1 c65b2 c66b0 c66b1 c67b0 c67b1 c67b2 c68b0 c68b1 c69b0 c69b1 c69b2 c70b0 c70b1 c70b2 c71b0 c71b1
 by_cases c72:t726=t732
 rotate_left
 ·rw[if_neg c72]at H
  have c72b0: (t726==t732)=false:=beq_eq_false_iff_ne.mpr c72
  have c72b1: (t726 !=t732)=true:=bne_iff_ne.mpr c72
  as_aux_lemma=>
   have H':=Aside0.mk H
   clear H
   go_wp2
   repeat(go_quiet (fail);try go_wp2)
   go_meet
   case rel=>exact⟨_,(true),fd,H',⟨by first|exact Nat.le_refl _|omega⟩,⟨rm (R_mono HO691.out (fun _ hk=>⟨hk.1.1.2,hk.1.2⟩))⟩,⟨rm (R_mono HO717.out (fun _ hk=>⟨hk.1.1.2,hk.1.2⟩))⟩,⟨rm (R_mono HO724.out (fun _ hk=>⟨hk.1.1.2,hk.1.2⟩))⟩,⟨rm (R_mono HO743.out (fun _ hk=>trivial))⟩,⟨bm BK693.out⟩,⟨bm BK721.out⟩,⟨bm BK740.out⟩,⟨h3 HB.out GE693.out GE721.out GE740.out⟩⟩
 rw[if_pos c72]at H
 have c72b0: (t726==t732)=true:=beq_iff_eq.mpr c72
 have c72b1: (t726 !=t732)=false:=bne_eq_false_iff_eq.mpr c72
 clear c72
 obtain⟨t749,A73,H⟩:=bd H;(try dsimp only at H)
 by_cases c74:t749=true
 rotate_left
 ·replace c74:=Bool.eq_false_iff.mpr c74
  subst c74
  rw[if_neg (show ¬(false=true)by decide)]at H
  as_aux_lemma=>
   have H':=Aside0.mk H
   clear H
   obtain⟨Ao93,co93,eo93⟩:=R_slice HO724.out
   subst eo93
   obtain⟨Ao94,co94,eo94⟩:=R_slice HO730.out
   subst eo94
   have go_:=trivial;repeat((first|clear go_|go_quiet (first|(go_at_call 37;(with_reducible refine(laws_vSensors.calls k _ _ t722 _ _ t728 false _ ?side1 ?side2 ?side3 ?side4 A73.out).mono ?_);(case side1=>exact cm (R_reads' HO724.out).2.2);(case side2=>exact(R_reads' HO724.out).2.1);(case side3=>exact cm (R_reads' HO730.out).2.2);(case side4=>exact(R_reads' HO730.out).2.1);rintro e w' ⟨rfl,⟨nd,rfl⟩⟩;(try first|exact⟨rfl,_,World.drewN_drewN _ _ _⟩|exact⟨rfl,_,Eq.trans (World.drewN_drewN _ _ _) (congrArg (World.drewN _) (Nat.add_assoc _ _ _))⟩))));try go_wp2_with (first|(go_at_call 37;(with_reducible refine(laws_vSensors.calls k _ _ t722 _ _ t728 false _ ?side1 ?side2 ?side3 ?side4 A73.out).mono ?_);(case side1=>exact cm (R_reads' HO724.out).2.2);(case side2=>exact(R_reads' HO724.out).2.1);(case side3=>exact cm (R_reads' HO730.out).2.2);(case side4=>exact(R_reads' HO730.out).2.1);rintro e w' ⟨rfl,⟨nd,rfl⟩⟩;(try first|exact⟨rfl,_,World.drewN_drewN _ _ _⟩|exact⟨rfl,_,Eq.trans (World.drewN_drewN _ _ _) (congrArg (World.drewN _) (Nat.add_assoc _ _ _))⟩))))
   go_meet
   case rel=>exact⟨_,(true),fd,H',⟨by first|exact Nat.le_refl _|omega⟩,⟨rm (R_mono HO691.out (fun _ hk=>⟨hk.1.1.2,hk.1.2⟩))⟩,⟨rm (R_mono HO717.out (fun _ hk=>⟨hk.1.1.2,hk.1.2⟩))⟩,⟨rm (R_mono HO724.out (fun _ hk=>⟨hk.1.1.2,hk.1.2⟩))⟩,⟨rm (R_mono HO743.out (fun _ hk=>trivial))⟩,⟨bm BK693.out⟩,⟨bm BK721.out⟩,⟨bm BK740.out⟩,⟨h3 HB.out GE693.out GE721.out GE740.out⟩⟩
 subst c74
 rw[if_pos rfl]at H
 by_cases c75: (t744 !=t748)=true
 ·rw[if_pos c75]at H
  have c75b0: (t744 !=t748)=true:=c75
  (try(have c75b1:decide (t744=t748)=false:=by simpa using c75))
  (try(have c75b2: (t744==t748)=false:=by simpa using c75))
  (try(have c75b3:¬(t744=t748):=by simpa using c75))
  clear c75
  as_aux_lemma=>
   have H':=Aside0.mk H
   clear H
   obtain⟨Ao76,co76,eo76⟩:=R_slice HO724.out
   subst eo76
   obtain⟨Ao77,co77,eo77⟩:=R_slice HO730.out
   subst eo77
   have go_:=trivial;repeat((first|clear go_|go_quiet (first|(go_at_call 37;(with_reducible refine(laws_vSensors.calls k _ _ t722 _ _ t728 true _ ?side1 ?side2 ?side3 ?side4 A73.out).mono ?_);(case side1=>exact cm (R_reads' HO724.out).2.2);(case side2=>exact(R_reads' HO724.out).2.1);(case side3=>exact cm (R_reads' HO730.out).2.2);(case side4=>exact(R_reads' HO730.out).2.1);rintro e w' ⟨rfl,⟨nd,rfl⟩⟩;(try first|exact⟨rfl,_,World.drewN_drewN _ _ _⟩|exact⟨rfl,_,Eq.trans (World.drewN_drewN _ _ _) (congrArg (World.drewN _) (Nat.add_assoc _ _ _))⟩))));try go_wp2_with (first|(go_at_call 37;(with_reducible refine(laws_vSensors.calls k _ _ t722 _ _ t728 true _ ?side1 ?side2 ?side3 ?side4 A73.out).mono ?_);(case side1=>exact cm (R_reads' HO724.out).2.2);(case side2=>exact(R_reads' HO724.out).2.1);(case side3=>exact cm (R_reads' HO730.out).2.2);(case side4=>exact(R_reads' HO730.out).2.1);rintro e w' ⟨rfl,⟨nd,rfl⟩⟩;(try first|exact⟨rfl,_,World.drewN_drewN _ _ _⟩|exact⟨rfl,_,Eq.trans (World.drewN_drewN _ _ _) (congrArg (World.drewN _) (Nat.add_assoc _ _ _))⟩))))
   go_meet
   case rel=>exact⟨_,(true),fd,H',⟨by first|exact Nat.le_refl _|omega⟩,⟨rm (R_mono HO691.out (fun _ hk=>⟨hk.1.1.2,hk.1.2⟩))⟩,⟨rm (R_mono HO717.out (fun _ hk=>⟨hk.1.1.2,hk.1.2⟩))⟩,⟨rm (R_mono HO724.out (fun _ hk=>⟨hk.1.1.2,hk.1.2⟩))⟩,⟨rm (R_mono HO743.out (fun _ hk=>trivial))⟩,⟨bm BK693.out⟩,⟨bm BK721.out⟩,⟨bm BK740.out⟩,⟨h3 HB.out GE693.out GE721.out GE740.out⟩⟩
 rw[if_neg c75]at H
 have c75b0: (t744 !=t748)=false:=by simpa using c75
 (try(have c75b1:decide (t744=t748)=true:=by simpa using c75))
 (try(have c75b2: (t744==t748)=true:=by simpa using c75))
 clear c75
 obtain⟨t750,A78,H⟩:=bd H;(try dsimp only at H)
 by_cases c79:t750=true
 rotate_left
 ·replace c79:=Bool.eq_false_iff.mpr c79
  subst c79
  rw[if_neg (show ¬(false=true)by decide)]at H
  as_aux_lemma=>
   have H':=Aside0.mk H
   clear H
   obtain⟨Ao89,co89,eo89⟩:=R_slice HO724.out
   subst eo89
   obtain⟨Ao90,co90,eo90⟩:=R_slice HO730.out
   subst eo90
   have go_:=trivial;repeat((first|clear go_|go_quiet (first|(go_at_call 37;(with_reducible refine(laws_vSensors.calls k _ _ t722 _ _ t728 true _ ?side1 ?side2 ?side3 ?side4 A73.out).mono ?_);(case side1=>exact cm (R_reads' HO724.out).2.2);(case side2=>exact(R_reads' HO724.out).2.1);(case side3=>exact cm (R_reads' HO730.out).2.2);(case side4=>exact(R_reads' HO730.out).2.1);rintro e w' ⟨rfl,⟨nd,rfl⟩⟩;(try first|exact⟨rfl,_,World.drewN_drewN _ _ _⟩|exact⟨rfl,_,Eq.trans (World.drewN_drewN _ _ _) (congrArg (World.drewN _) (Nat.add_assoc _ _ _))⟩);obtain⟨Ao91,co91,eo91⟩:=R_slice HO743.out;subst eo91;obtain⟨Ao92,co92,eo92⟩:=R_slice HO747.out;subst eo92)|(go_at_call 38;(with_reducible refine(laws_vInts.calls k _ _ t741 _ _ t745 false _ ?side1 ?side2 ?side3 ?side4 A78.out).mono ?_);(case side1=>exact cm (R_reads' HO743.out).2.2);(case side2=>exact(R_reads' HO743.out).2.1);(case side3=>exact cm (R_reads' HO747.out).2.2);(case side4=>exact(R_reads' HO747.out).2.1);rintro e w' ⟨rfl,⟨nd,rfl⟩⟩;(try first|exact⟨rfl,_,World.drewN_drewN _ _ _⟩|exact⟨rfl,_,Eq.trans (World.drewN_drewN _ _ _) (congrArg (World.drewN _) (Nat.add_assoc _ _ _))⟩))));try go_wp2_with (first|(go_at_call 37;(with_reducible refine(laws_vSensors.calls k _ _ t722 _ _ t728 true _ ?side1 ?side2 ?side3 ?side4 A73.out).mono ?_);(case side1=>exact cm (R_reads' HO724.out).2.2);(case side2=>exact(R_reads' HO724.out).2.1);(case side3=>exact cm (R_reads' HO730.out).2.2);(case side4=>exact(R_reads' HO730.out).2.1);rintro e w' ⟨rfl,⟨nd,rfl⟩⟩;(try first|exact⟨rfl,_,World.drewN_drewN _ _ _⟩|exact⟨rfl,_,Eq.trans (World.drewN_drewN _ _ _) (congrArg (World.drewN _) (Nat.add_assoc _ _ _))⟩);obtain⟨Ao91,co91,eo91⟩:=R_slice HO743.out;subst eo91;obtain⟨Ao92,co92,eo92⟩:=R_slice HO747.out;subst eo92)|(go_at_call 38;(with_reducible refine(laws_vInts.calls k _ _ t741 _ _ t745 false _ ?side1 ?side2 ?side3 ?side4 A78.out).mono ?_);(case side1=>exact cm (R_reads' HO743.out).2.2);(case side2=>exact(R_reads' HO743.out).2.1);(case side3=>exact cm (R_reads' HO747.out).2.2);(case side4=>exact(R_reads' HO747.out).2.1);rintro e w' ⟨rfl,⟨nd,rfl⟩⟩;(try first|exact⟨rfl,_,World.drewN_drewN _ _ _⟩|exact⟨rfl,_,Eq.trans (World.drewN_drewN _ _ _) (congrArg (World.drewN _) (Nat.add_assoc _ _ _))⟩))))
   go_meet
   case rel=>exact⟨_,(true),fd,H',⟨by first|exact Nat.le_refl _|omega⟩,⟨rm (R_mono HO691.out (fun _ hk=>⟨hk.1.1.2,hk.1.2⟩))⟩,⟨rm (R_mono HO717.out (fun _ hk=>⟨hk.1.1.2,hk.1.2⟩))⟩,⟨rm (R_mono HO724.out (fun _ hk=>⟨hk.1.1.2,hk.1.2⟩))⟩,⟨rm (R_mono HO743.out (fun _ hk=>trivial))⟩,⟨bm BK693.out⟩,⟨bm BK721.out⟩,⟨bm BK740.out⟩,⟨h3 HB.out GE693.out GE721.out GE740.out⟩⟩
 subst c79
 rw[if_pos rfl]at H
 by_cases c80: (t695 !=t699)=true
 rotate_left
 ·rw[if_neg c80]at H
  have c80b0: (t695 !=t699)=false:=by simpa using c80
  (try(have c80b1:decide (t695=t699)=true:=by simpa using c80))
  (try(have c80b2: (t695==t699)=true:=by simpa using c80))
  clear c80
  as_aux_lemma=>
   have H':=Aside0.mk H
   clear H
   obtain⟨Ao85,co85,eo85⟩:=R_slice HO724.out
   subst eo85
   obtain⟨Ao86,co86,eo86⟩:=R_slice HO730.out
   subst eo86
   have go_:=trivial;repeat((first|clear go_|go_quiet (first|(go_at_call 37;(with_reducible refine(laws_vSensors.calls k _ _ t722 _ _ t728 true _ ?side1 ?side2 ?side3 ?side4 A73.out).mono ?_);(case side1=>exact cm (R_reads' HO724.out).2.2);(case side2=>exact(R_reads' HO724.out).2.1);(case side3=>exact cm (R_reads' HO730.out).2.2);(case side4=>exact(R_reads' HO730.out).2.1);rintro e w' ⟨rfl,⟨nd,rfl⟩⟩;(try first|exact⟨rfl,_,World.drewN_drewN _ _ _⟩|exact⟨rfl,_,Eq.trans (World.drewN_drewN _ _ _) (congrArg (World.drewN _) (Nat.add_assoc _ _ _))⟩);obtain⟨Ao87,co87,eo87⟩:=R_slice HO743.out;subst eo87;obtain⟨Ao88,co88,eo88⟩:=R_slice HO747.out;subst eo88)|(go_at_call 38;(with_reducible refine(laws_vInts.calls k _ _ t741 _ _ t745 true _ ?side1 ?side2 ?side3 ?side4 A78.out).mono ?_);(case side1=>exact cm (R_reads' HO743.out).2.2);(case side2=>exact(R_reads' HO743.out).2.1);(case side3=>exact cm (R_reads' HO747.out).2.2);(case side4=>exact(R_reads' HO747.out).2.1);rintro e w' ⟨rfl,⟨nd,rfl⟩⟩;(try first|exact⟨rfl,_,World.drewN_drewN _ _ _⟩|exact⟨rfl,_,Eq.trans (World.drewN_drewN _ _ _) (congrArg (World.drewN _) (Nat.add_assoc _ _ _))⟩))));try go_wp2_with (first|(go_at_call 37;(with_reducible refine(laws_vSensors.calls k _ _ t722 _ _ t728 true _ ?side1 ?side2 ?side3 ?side4 A73.out).mono ?_);(case side1=>exact cm (R_reads' HO724.out).2.2);(case side2=>exact(R_reads' HO724.out).2.1);(case side3=>exact cm (R_reads' HO730.out).2.2);(case side4=>exact(R_reads' HO730.out).2.1);rintro e w' ⟨rfl,⟨nd,rfl⟩⟩;(try first|exact⟨rfl,_,World.drewN_drewN _ _ _⟩|exact⟨rfl,_,Eq.trans (World.drewN_drewN _ _ _) (congrArg (World.drewN _) (Nat.add_assoc _ _ _))⟩);obtain⟨Ao87,co87,eo87⟩:=R_slice HO743.out;subst eo87;obtain⟨Ao88,co88,eo88⟩:=R_slice HO747.out;subst eo88)|(go_at_call 38;(with_reducible refine(laws_vInts.calls k _ _ t741 _ _ t745 true _ ?side1 ?side2 ?side3 ?side4 A78.out).mono ?_);(case side1=>exact cm (R_reads' HO743.out).2.2);(case side2=>exact(R_reads' HO743.out).2.1);(case side3=>exact cm (R_reads' HO747.out).2.2);(case side4=>exact(R_reads' HO747.out).2.1);rintro e w' ⟨rfl,⟨nd,rfl⟩⟩;(try first|exact⟨rfl,_,World.drewN_drewN _ _ _⟩|exact⟨rfl,_,Eq.trans (World.drewN_drewN _ _ _) (congrArg (World.drewN _) (Nat.add_assoc _ _ _))⟩))))
   go_meet
   case rel=>exact⟨_,((t703 !=t707)),fd,H',⟨by first|exact Nat.le_refl _|omega⟩,⟨rm (R_mono HO691.out (fun _ hk=>⟨hk.1.1.2,hk.1.2⟩))⟩,⟨rm (R_mono HO717.out (fun _ hk=>⟨hk.1.1.2,hk.1.2⟩))⟩,⟨rm (R_mono HO724.out (fun _ hk=>⟨hk.1.1.2,hk.1.2⟩))⟩,⟨rm (R_mono HO743.out (fun _ hk=>trivial))⟩,⟨bm BK693.out⟩,⟨bm BK721.out⟩,⟨bm BK740.out⟩,⟨h3 HB.out GE693.out GE721.out GE740.out⟩⟩
 rw[if_pos c80]at H
 have c80b0: (t695 !=t699)=true:=c80
 (try(have c80b1:decide (t695=t699)=false:=by simpa using c80))
 (try(have c80b2: (t695==t699)=false:=by simpa using c80))
 (try(have c80b3:¬(t695=t699):=by simpa using c80))
 clear c80
 as_aux_lemma=>
  have H':=Aside0.mk H
  clear H
  obtain⟨Ao81,co81,eo81⟩:=R_slice HO724.out
  subst eo81
  obtain⟨Ao82,co82,eo82⟩:=R_slice HO730.out
  subst eo82
  have go_:=trivial;repeat((first|clear go_|go_quiet (first|(go_at_call 37;(with_reducible refine(laws_vSensors.calls k _ _ t722 _ _ t728 true _ ?side1 ?side2 ?side3 ?side4 A73.out).mono ?_);(case side1=>exact cm (R_reads' HO724.out).2.2);(case side2=>exact(R_reads' HO724.out).2.1);(case side3=>exact cm (R_reads' HO730.out).2.2);(case side4=>exact(R_reads' HO730.out).2.1);rintro e w' ⟨rfl,⟨nd,rfl⟩⟩;(try first|exact⟨rfl,_,World.drewN_drewN _ _ _⟩|exact⟨rfl,_,Eq.trans (World.drewN_drewN _ _ _) (congrArg (World.drewN _) (Nat.add_assoc _ _ _))⟩);obtain⟨Ao83,co83,eo83⟩:=R_slice HO743.out;subst eo83;obtain⟨Ao84,co84,eo84⟩:=R_slice HO747.out;subst eo84)|(go_at_call 38;(with_reducible refine(laws_vInts.calls k _ _ t741 _ _ t745 true _ ?side1 ?side2 ?side3 ?side4 A78.out).mono ?_);(case side1=>exact cm (R_reads' HO743.out).2.2);(case side2=>exact(R_reads' HO743.out).2.1);(case side3=>exact cm (R_reads' HO747.out).2.2);(case side4=>exact(R_reads' HO747.out).2.1);rintro e w' ⟨rfl,⟨nd,rfl⟩⟩;(try first|exact⟨rfl,_,World.drewN_drewN _ _ _⟩|exact⟨rfl,_,Eq.trans (World.drewN_drewN _ _ _) (congrArg (World.drewN _) (Nat.add_assoc _ _ _))⟩))));try go_wp2_with (first|(go_at_call 37;(with_reducible refine(laws_vSensors.calls k _ _ t722 _ _ t728 true _ ?side1 ?side2 ?side3 ?side4 A73.out).mono ?_);(case side1=>exact cm (R_reads' HO724.out).2.2);(case side2=>exact(R_reads' HO724.out).2.1);(case side3=>exact cm (R_reads' HO730.out).2.2);(case side4=>exact(R_reads' HO730.out).2.1);rintro e w' ⟨rfl,⟨nd,rfl⟩⟩;(try first|exact⟨rfl,_,World.drewN_drewN _ _ _⟩|exact⟨rfl,_,Eq.trans (World.drewN_drewN _ _ _) (congrArg (World.drewN _) (Nat.add_assoc _ _ _))⟩);obtain⟨Ao83,co83,eo83⟩:=R_slice HO743.out;subst eo83;obtain⟨Ao84,co84,eo84⟩:=R_slice HO747.out;subst eo84)|(go_at_call 38;(with_reducible refine(laws_vInts.calls k _ _ t741 _ _ t745 true _ ?side1 ?side2 ?side3 ?side4 A78.out).mono ?_);(case side1=>exact cm (R_reads' HO743.out).2.2);(case side2=>exact(R_reads' HO743.out).2.1);(case side3=>exact cm (R_reads' HO747.out).2.2);(case side4=>exact(R_reads' HO747.out).2.1);rintro e w' ⟨rfl,⟨nd,rfl⟩⟩;(try first|exact⟨rfl,_,World.drewN_drewN _ _ _⟩|exact⟨rfl,_,Eq.trans (World.drewN_drewN _ _ _) (congrArg (World.drewN _) (Nat.add_assoc _ _ _))⟩))))
  go_meet
  case rel=>exact⟨_,(true),fd,H',⟨by first|exact Nat.le_refl _|omega⟩,⟨rm (R_mono HO691.out (fun _ hk=>⟨hk.1.1.2,hk.1.2⟩))⟩,⟨rm (R_mono HO717.out (fun _ hk=>⟨hk.1.1.2,hk.1.2⟩))⟩,⟨rm (R_mono HO724.out (fun _ hk=>⟨hk.1.1.2,hk.1.2⟩))⟩,⟨rm (R_mono HO743.out (fun _ hk=>trivial))⟩,⟨bm BK693.out⟩,⟨bm BK721.out⟩,⟨bm BK740.out⟩,⟨h3 HB.out GE693.out GE721.out GE740.out⟩⟩
end
end Go.Proofs.Ytanfamfgdgcjpaa.QFnMoves
