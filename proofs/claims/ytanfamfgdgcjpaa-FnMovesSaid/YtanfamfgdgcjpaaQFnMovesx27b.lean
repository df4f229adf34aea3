/- Functions that the law FnMoves comes to, and their walks: no condition but those named. -/
import Derived.Test.YtanfamfgdgcjpaaQFnMovesx0
import Derived.Test.YtanfamfgdgcjpaaQFnMovesx2
import Derived.Test.YtanfamfgdgcjpaaQFnMovesx3
import Derived.Test.YtanfamfgdgcjpaaQFnMovesx5
import Derived.Test.YtanfamfgdgcjpaaQFnMovesx6
import Derived.Test.YtanfamfgdgcjpaaQFnMovesx10
import Derived.Test.YtanfamfgdgcjpaaQFnMovesx12
import Derived.Test.YtanfamfgdgcjpaaQFnMovesx17
import Derived.Test.YtanfamfgdgcjpaaQFnMovesx19
import Derived.Test.YtanfamfgdgcjpaaQFnMovesx21
import Derived.Test.YtanfamfgdgcjpaaQFnMovesx22
import Derived.Test.YtanfamfgdgcjpaaQFnMovesx25
import Derived.Test.YtanfamfgdgcjpaaQFnMovesx26
import Derived.Test.YtanfamfgdgcjpaaQFnMovesx27a
namespace Go.Proofs.Ytanfamfgdgcjpaa.QFnMoves
open Go.RowKit Go.Proofs.YtanfamfgdgcjpaaW.PrintWords Go.Proofs.YtanfamfgdgcjpaaW.PrintLast Go.Proofs.YtanfamfgdgcjpaaW.PrintMore Go.Proofs.Ytanfamfgdgcjpaa.Short
attribute [local go_sem] max2_int min2_int max_two min_two max_three min_three max_four min_four
set_option linter.unusedVariables false
set_option linter.unusedSimpArgs false
section
open Kd
set_option maxHeartbeats 40000000 in
set_option maxRecDepth 1000000 in
theorem laws_FnMoves.rest3_g1:laws_FnMoves.rest3_g2.1.1:=by
 intro k A0 c0 l0 r w t687 t688 t689 t692 t694 t696 t697 t699 t700 t701 t702 t703 t704 t705 t706 t707 t708 t709 t713 t714 t715 t718 t725 t726 t727 t731 t732 t733 t737 t738 t739 t744 t748 gb693 Ao25 co25 gb721 Ao47 co47 Ao48 co48 v723 v729 gb740 v742 v746 kj20 _ _ _ _ kj95 wc _ _ _ _ _ _ _ _ _ _ _ _ _ _ _ _ _ _ _ _ _ _ _ _ _ _ _ _ _ _ _ _ _ _ _ _ _ _ _ _ _ _ _ _ _ _ _ _ _ _ _ _ _ _ _ _ _ _ _ _ _ _ _ _ _ _ _ _ _ _ _ _ _ _ _ _ _ _ _ _ _ _ _ _ _ _ _ _ _ _ _ _ _ _ _ _ _ _ _ _ _ _ _ _ _ _ _ _ _ _ _ _ _ _ _ _ _ _ _ _ _ _ _ _ _ _ _ _ _ _ _ _ _ _ _ _ _ _ _ _ _ _ _ _ _ _ _ _ _ _ _ _ _ _ _ _ _ _ _ _ _ _ _ _ _ _ _ _ _ _ _ _ _ _ _ _ _ _ _ _ _ _ _ _ _ _ _ _ _ _ _ _ _ _ _ _ _ _ _ _ _ _ _ _ _ _ _ _ _ _ _ _ _ _ _ _ _ _ _ _ _ _ _ _ _ _ _ _ _ _ _ _ _ _ _ _ _ _ _ _ _ _ _ _ _ _ _ _ _ _ _ _ _ _ _ _ _ _ _ _ _ _ _ _ _ _ _ _ _ _ _ _ _ _ _ _ _ _ _ _ _ _ _ _ _ _ _ _ _ _ _ _ _ _ _ _ _ _ _ _ _ _ _ _ _ _ _ _ _ _ _ _ _ _ _ _ _ _ _ _ _ _ _ _ _ _ _ _ _ _ _ _ _ _ _ _ _ _ _ _ _ _ _ _ _ _ _ _ _ _ _ _ _ _ _ _ _ _ _ _ _ _ _ _ _ _ _ _ _ _ _ _ _ _ _ _ _ _ _ _ _ _ _ _ _ _ _ _ _ _ _ _ _ _ _ _ _ _ _ _ _ _ kj134 GE693 GE721 NB693_721 NB721_693 GE740 NB693_740 NB740_693 HJ20 HJ95 _ _ _ _ _ HJ134 hu27 hu58 _ _ _ _ _ _ _ _ wr _ _ _ _ _ _ _ _ _ _ _ _ _ _ _ _ _ _ _ _ _ x50_4 HO_4 BK693 BK721 BK740 HB k4 _ HK4 c203b0 _ _ H
 by_cases c221:t703=true
 rotate_left
 ·replace c221:=Bool.eq_false_iff.mpr c221
  subst c221
  rw[if_neg (show ¬(false=true)by decide)]at H
  by_cases c223: (t694 !=false)=true
  ·rw[if_pos c223]at H
   have c223b0: (t694 !=false)=true:=c223
   (try(have c223b1:decide (t694=false)=false:=by simpa using c223))
   (try(have c223b2: (t694==false)=false:=by simpa using c223))
   (try(have c223b3:¬(t694=false):=by simpa using c223))
   clear c223
   as_aux_lemma=>
    obtain rfl:=Option.some.inj H
    go_wp2
    repeat(go_quiet (fail);try go_wp2)
    go_ret
    exact⟨fe,h3 HB.out GE693.out GE721.out GE740.out⟩
  rw[if_neg c223]at H
  have c223b0: (t694 !=false)=false:=by simpa using c223
  (try(have c223b1:decide (t694=false)=true:=by simpa using c223))
  (try(have c223b2: (t694==false)=true:=by simpa using c223))
  clear c223
  as_aux_lemma=>
   have H':=Aside0.mk H
   clear H
   go_wp2
   repeat(go_quiet (fail);try go_wp2)
   go_meet
   case rel=>exact⟨_,H',⟨by first|exact Nat.le_refl _|(have:=HJ20.out;have:=HJ95.out;have:=HJ134.out;have:=HK4.out;omega)⟩,⟨rm HO_4.out⟩,⟨bm BK693.out⟩,⟨bm BK721.out⟩,⟨bm BK740.out⟩,⟨h3 HB.out GE693.out GE721.out GE740.out⟩⟩
 subst c221
 rw[if_pos rfl]at H
 by_cases c222: (t694 !=(decide (t702≤t692)))=true
 ·rw[if_pos c222]at H
  have c222b0: (t694 !=(decide (t702≤t692)))=true:=c222
  (try(have c222b1:decide (t694=(decide (t702≤t692)))=false:=by simpa using c222))
  (try(have c222b2: (t694==(decide (t702≤t692)))=false:=by simpa using c222))
  (try(have c222b3:¬(t694=(decide (t702≤t692))):=by simpa using c222))
  clear c222
  as_aux_lemma=>
   obtain rfl:=Option.some.inj H
   go_wp2
   repeat(go_quiet (fail);try go_wp2)
   go_ret
   exact⟨fe,h3 HB.out GE693.out GE721.out GE740.out⟩
 rw[if_neg c222]at H
 have c222b0: (t694 !=(decide (t702≤t692)))=false:=by simpa using c222
 (try(have c222b1:decide (t694=(decide (t702≤t692)))=true:=by simpa using c222))
 (try(have c222b2: (t694==(decide (t702≤t692)))=true:=by simpa using c222))
 clear c222
 as_aux_lemma=>
  have H':=Aside0.mk H
  clear H
  go_wp2
  repeat(go_quiet (fail);try go_wp2)
  go_meet
  case rel=>exact⟨_,H',⟨by first|exact Nat.le_refl _|(have:=HJ20.out;have:=HJ95.out;have:=HJ134.out;have:=HK4.out;omega)⟩,⟨rm HO_4.out⟩,⟨bm BK693.out⟩,⟨bm BK721.out⟩,⟨bm BK740.out⟩,⟨h3 HB.out GE693.out GE721.out GE740.out⟩⟩
end
end Go.Proofs.Ytanfamfgdgcjpaa.QFnMoves
