/- Functions that the law FnMoves comes to, and their walks: no condition but those named. -/
import Derived.Test.YtanfamfgdgcjpaaQFnMovesx0
import Derived.Test.YtanfamfgdgcjpaaQFnMovesx2
import Derived.Test.YtanfamfgdgcjpaaQFnMovesx3
import Derived.Test.YtanfamfgdgcjpaaQFnMovesx5
import Derived.Test.YtanfamfgdgcjpaaQFnMovesx6
import Derived.Test.YtanfamfgdgcjpaaQFnMovesx10
import Derived.Test.YtanfamfgdgcjpaaQFnMovesx12
import Derived.Test.YtanfamfgdgcjpaaQFnMovesx17
import Derived.Test.YtanfamfgdgcjpaaQFnMovesx19
import Derived.Test.YtanfamfgdgcjpaaQFnMovesx21
import Derived.Test.YtanfamfgdgcjpaaQFnMovesx22
import Derived.Test.YtanfamfgdgcjpaaQFnMovesx25
import Derived.Test.YtanfamfgdgcjpaaQFnMovesx29
import Derived.Test.YtanfamfgdgcjpaaQFnMovesx27d
import Derived.Test.YtanfamfgdgcjpaaQFnMovesx30
import Derived.Test.YtanfamfgdgcjpaaQFnMovesx30a
import Derived.Test.YtanfamfgdgcjpaaQFnMovesx30b
namespace Go.Proofs.Ytanfamfgdgcjpaa.QFnMoves
open Go.RowKit Go.Proofs.YtanfamfgdgcjpaaW.PrintWords Go.Proofs.YtanfamfgdgcjpaaW.PrintLast Go.Proofs.YtanfamfgdgcjpaaW.PrintMore Go.Proofs.Ytanfamfgdgcjpaa.Short
attribute [local go_sem] max2_int min2_int max_two min_two max_three min_three max_four min_four
set_option linter.unusedVariables false
set_option linter.unusedSimpArgs false

section
open Kd
set_option maxHeartbeats 40000000 in
set_option maxRecDepth 1000000 in
theorem laws_FnMoves.calls_g0 : laws_FnMoves.calls_g.1.2:=by
 intro k A0 c0 l0 r w hu27 hu58 HR0 HC0 _ A2 _ t687 t688 t689 t692 A4 _ t694 t695 A5 _ t696 t697 A6 _ t698 t699 A7 _ t700 t701 A8 _ t702 t703 A9 _ t704 t705 A10 _ t706 t707 A11 _ t708 t709 A12 _ t710 A13 _ t713 t714 t715 t718 A14 _ t722 t725 t726 t727 A15 _ t728 t731 t732 t733 A16 _ t734 A17 _ t737 t738 t739 A18 _ t741 t744 A19 _ t745 t748 A20 _ nd w22 gb693 w23 GW693 GE693 hcz24_0 hcz24_1 hfz24_0 hfz24_1 Ao25 co25 w26 hcz27_0 hcz27_1 hfz27_0 hfz27_1 w28 hcz29_0 hcz29_1 hfz29_0 hfz29_1 w30 hcz31_0 hcz31_1 hfz31_0 hfz31_1 w32 hcz33_0 hcz33_1 hfz33_0 hfz33_1 w34 hcz35_0 hcz35_1 hfz35_0 hfz35_1 w36 hcz37_0 hcz37_1 hfz37_0 hfz37_1 w38 hcz39_0 hcz39_1 hfz39_0 hfz39_1 w40 w41 Ao42 co42 w43 gb721 w44 GW721 GE721 NB693_721 NB721_693 hnb45 hnc45 hcz46_0 hcz46_1 hfz46_0 hfz46_1 Ao47 co47 Ao48 co48 w49 v723 hcz50_0 hcz50_1 hfz50_0 hfz50_1 w51 v729 w52 Ao53 co53 w54 gb740 w55 GW740 GE740 NB693_740 NB740_693 NB721_740 NB740_721 hnb56 hnc56 hnb57 hnc57 hcz58_0 hcz58_1 hfz58_0 hfz58_1 w59 v742 hcz60_0 hcz60_1 hfz60_0 hfz60_1 w61 v746 HO691 HO712 HO717 HO724 HO730 HO736 HO747 HO720 HO743 _ _ _ _ _ _ _ _ wc _ _ _ _ _ _ _ _ _ _ _ _ _ _ _ _ _ _ _ _ _ _ _ _ _ _ _ _ _ _ _ _ _ _ _ _ _ _ _ _ _ _ _ _ _ _ _ _ _ _ _ _ _ _ _ _ _ _ _ _ _ _ _ _ _ _ _ _ _ _ _ _ _ _ _ _ _ _ _ _ _ _ _ _ _ _ _ _ _ _ _ _ _ _ _ _ _ _ _ _ _ _ _ _ _ _ _ _ _ _ _ _ _ _ _ _ _ _ _ _ _ _ _ _ _ _ _ _ _ _ _ _ _ _ _ _ _ _ _ _ _ _ _ _ _ _ _ _ _ _ _ _ _ _ _ _ _ _ _ _ _ _ _ _ _ _ _ _ _ _ _ _ _ _ _ _ _ _ _ _ _ _ _ _ _ _ _ _ _ _ _ _ _ _ _ _ _ _ _ _ _ _ _ _ _ _ _ _ _ _ _ _ _ _ _ _ _ _ _ _ _ _ _ _ _ _ _ _ _ _ _ _ _ _ _ _ _ _ _ _ _ _ _ _ _ _ _ _ _ _ _ _ _ _ _ _ _ _ _ _ _ _ _ _ _ _ _ _ _ _ _ _ _ _ _ _ _ _ _ _ _ _ _ _ _ _ _ _ _ _ _ _ _ _ _ _ _ _ _ _ _ _ _ _ _ _ _ _ _ _ _ _ _ _ _ _ _ _ _ _ _ _ _ _ _ _ _ _ _ _ _ _ _ _ _ _ _ _ _ _ _ _ _ _ _ _ _ _ _ _ _ _ _ _ _ _ _ _ _ _ _ _ _ _ _ _ _ _ _ _ _ _ _ _ _ _ _ _ _ _ _ _ _ _ _ _ _ _ _ _ _ _ _ _ x243_20 HO_4 HO_23 HO_25 HO_35 BK693 BK721 BK740 HB kj20 HJ20 H
 by_cases c95 : x243_20 = true
 ·subst c95
  rw [if_pos rfl] at H
  as_aux_lemma =>
   obtain rfl:=Option.some.inj H
   go_wp2
   repeat (go_quiet (fail);try go_wp2)
   go_ret
   exact ⟨fe,h3 HB.out GE693.out GE721.out GE740.out⟩
 replace c95:=Bool.eq_false_iff.mpr c95
 subst c95
 rw [if_neg (show ¬ (false = true) by decide)] at H
 exact laws_FnMoves.rest1 @laws_FnMoves.rest3 (by assumption) (by assumption) GE693 GE721 NB693_721 NB721_693 GE740 NB693_740 NB740_693 NB721_740 NB740_721 HO_4 HO_23 HO_25 HO_35 BK693 BK721 BK740 HB HJ20 H
set_option maxHeartbeats 40000000 in
set_option maxRecDepth 1000000 in
theorem laws_FnMoves.calls (k : Nat) (A0 : Option Addr) (c0 : Nat) (l0 : List Int) (r : Bool) (w : World) (hr0 : Kd.C (Kd.int .u8) w A0 l0.length l0) (hc0 : l0.length ≤ c0) (h : laws_FnMoves.f k l0 = some r) :
  Calls Try.prog 9 #[.slice A0 l0.length c0] w fun e w'=>e = .returned (.bool r) ∧ Below w.heap.size w w':=(show laws_FnMoves.calls_T from by
 apply laws_FnMoves.calls_g.2
 ·apply laws_FnMoves.calls_g2.2
  exact @laws_FnMoves.calls_g1
 ·exact @laws_FnMoves.calls_g0) k A0 c0 l0 r w hr0 hc0 h
/-- THE ONE PURE STATEMENT of laws_FnMoves: yours. -/
def laws_FnMoves.Pure : Prop:=∀ (l0 : List Int),l0.length ≤ maxLen → l0.length * 1 ≤ 140737488351232 → (∀ x ∈ l0,(Lit.int .u8 x).wf = true) → ∃ k,laws_FnMoves.f k l0 = some true
theorem laws_FnMoves.walk (P : laws_FnMoves.Pure) (a0 : Option Addr) (len0 cap0 : Nat) (z0 : List Int) (w : World) (w0 : (a0 = none ∧ len0 = 0 ∧ cap0 = 0 ∧ z0 = []) ∨ ∃ x,a0 = some x ∧ len0 ≤ cap0 ∧ cap0 ≤ maxLen ∧ z0.length = cap0 ∧ (∀ i,i < z0.length → w.cell? (x.add i) = some (.int .u8 (z0.getD i 0))) ∧ ∀ n ∈ z0,(Lit.int .u8 n).wf = true) (y0 : len0 * 1 ≤ 140737488351232) :
  Calls Try.prog 9 #[.slice a0 len0 cap0] w fun e w'=>e = .returned (.bool true) ∧ Below w.heap.size w w':=by
 obtain ⟨l0,rfl,hr0,hm0,hw0,hc0⟩:=ReadsInt.ofRowC w0
 obtain ⟨k,h⟩:=P l0 hm0 y0 hw0
 refine (laws_FnMoves.calls k _ _ l0 true w (C_of_reads (d:=(0 : Int)) (h1:=fun _=>rfl) hr0) hc0 h).mono ?_
 rintro e w' ⟨rfl,hd⟩
 exact ⟨rfl,hd⟩

end

end Go.Proofs.Ytanfamfgdgcjpaa.QFnMoves
