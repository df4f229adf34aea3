/- Functions that the law FnReaches comes to, and their walks: no condition but those named. -/
import Derived.Test.YthagkpoinjpmfaaQFnReachesx0
import Derived.Test.YthagkpoinjpmfaaQFnReachesx3
import Derived.Test.YthagkpoinjpmfaaQFnReachesx6
import Derived.Test.YthagkpoinjpmfaaQFnReachesx7
import Derived.Test.YthagkpoinjpmfaaQFnReachesx8
import Derived.Test.YthagkpoinjpmfaaQFnReachesx9
import Derived.Test.YthagkpoinjpmfaaQFnReachesx11
import Derived.Test.YthagkpoinjpmfaaQFnReachesx13
import Derived.Test.YthagkpoinjpmfaaQFnReachesx15
import Derived.Test.YthagkpoinjpmfaaQFnReachesx16
import Derived.Test.YthagkpoinjpmfaaQFnReachesx17
import Derived.Test.YthagkpoinjpmfaaQFnReachesx18
import Derived.Test.YthagkpoinjpmfaaQFnReachesx22
import Derived.Test.YthagkpoinjpmfaaQFnReachesx23
import Derived.Test.YthagkpoinjpmfaaQFnReachesx23a
import Derived.Test.YthagkpoinjpmfaaQFnReachesx23b
namespace Go.Proofs.Ythagkpoinjpmfaa.QFnReaches
open Go.RowKit Go.Proofs.YthagkpoinjpmfaaW.PrintWords Go.Proofs.YthagkpoinjpmfaaW.PrintLast Go.Proofs.YthagkpoinjpmfaaW.PrintMore Go.Proofs.Ythagkpoinjpmfaa.Short
attribute [local go_sem] max2_int min2_int max_two min_two max_three min_three max_four min_four
set_option linter.unusedVariables false
set_option linter.unusedSimpArgs false
section
open Kd
set_option maxHeartbeats 40000000 in
set_option maxRecDepth 1000000 in
theorem laws_FnReaches.calls_g0:laws_FnReaches.calls_g.1.2:=by
 intro k A0 c0 l0 r w hu28 HR0 HC0 _ A2 _ t722 t723 t724 t727 t728 A4 _ t730 t733 A5 _ t734 t737 A6 _ t738 t739 A7 _ t740 t741 A8 _ t742 t743 A9 _ t744 t745 A10 _ t746 t747 A11 _ t748 t749 A12 _ t750 t751 A13 _ t752 t753 A14 _ t754 A15 _ t757 t758 t759 t762 A16 _ t764 t765 A17 _ t766 t767 A18 _ t768 A19 _ t771 t772 t773 t776 t779 A20 _ t781 t782 A21 _ t783 t784 A22 _ nd _ w24 gb729 w25 GW729 GE729 hcz26_0 hcz26_1 hfz26_0 hfz26_1 Ao27 co27 w28 v731 hcz29_0 hcz29_1 hfz29_0 hfz29_1 w30 v735 hcz31_0 hcz31_1 hfz31_0 hfz31_1 w32 hcz33_0 hcz33_1 hfz33_0 hfz33_1 w34 hcz35_0 hcz35_1 hfz35_0 hfz35_1 w36 hcz37_0 hcz37_1 hfz37_0 hfz37_1 w38 hcz39_0 hcz39_1 hfz39_0 hfz39_1 w40 hcz41_0 hcz41_1 hfz41_0 hfz41_1 w42 hcz43_0 hcz43_1 hfz43_0 hfz43_1 w44 hcz45_0 hcz45_1 hfz45_0 hfz45_1 w46 w47 Ao48 co48 w49 gb763 w50 GW763 GE763 NB729_763 NB763_729 hnb51 hnc51 hcz52_0 hcz52_1 hfz52_0 hfz52_1 Ao53 co53 w54 hcz55_0 hcz55_1 hfz55_0 hfz55_1 w56 w57 Ao58 co58 w59 gb780 w60 GW780 GE780 NB729_780 NB780_729 NB763_780 NB780_763 hnb61 hnc61 hnb62 hnc62 hcz63_0 hcz63_1 hfz63_0 hfz63_1 Ao64 co64 Ao65 co65 _ w66 hcz67_0 hcz67_1 hfz67_0 hfz67_1 w68 HO726 HO732 HO736 HO756 HO761 HO770 HO775 HO778 _ _ _ _ _ _ _ _ wc _ _ _ _ _ _ _ _ _ _ _ _ _ _ _ _ _ _ _ _ _ _ _ _ _ _ _ _ _ _ _ _ _ _ _ _ _ _ _ _ _ _ _ _ _ _ _ _ _ _ _ _ _ _ _ _ _ _ _ _ _ _ _ _ _ _ _ _ _ _ _ _ _ _ _ _ _ _ _ _ _ _ _ _ _ _ _ _ _ _ _ _ _ _ _ _ _ _ _ _ _ _ _ _ _ _ _ _ _ _ _ _ _ _ _ _ _ _ _ _ _ _ _ _ _ _ _ _ _ _ _ _ _ _ _ _ _ _ _ _ _ _ _ _ _ _ _ _ _ _ _ _ _ _ _ _ _ _ _ _ _ _ _ _ _ _ _ _ _ _ _ _ _ _ _ _ _ _ _ _ _ _ _ _ _ _ _ _ _ _ _ _ _ _ _ _ _ _ _ _ _ _ _ _ _ _ _ _ _ _ _ _ _ _ _ _ _ _ _ _ _ _ _ _ _ _ _ _ _ _ _ _ _ _ _ _ _ _ _ _ _ _ _ _ _ _ _ _ _ _ _ _ _ _ _ _ _ _ _ _ _ _ _ _ _ _ _ _ _ _ _ _ _ _ _ _ _ _ _ _ _ _ _ _ _ _ _ _ _ _ _ _ _ _ _ _ _ _ _ _ _ _ _ _ _ _ _ _ _ _ _ _ _ _ _ _ _ x267_22 HO_4 HO_7 HO_35 BK729 BK763 BK780 HB kj22 HJ22 H
 by_cases c118:x267_22=true
 ·subst c118
  rw[if_pos rfl]at H
  as_aux_lemma=>
   obtain rfl:=Option.some.inj H
   go_wp2
   go_ret
   exact⟨fe,h3 HB.out GE729.out GE763.out GE780.out⟩
 replace c118:=Bool.eq_false_iff.mpr c118
 subst c118
 rw[if_neg (show ¬(false=true)by decide)]at H
 exact laws_FnReaches.rest1 (by assumption) (by assumption) GE729 GE763 NB729_763 NB763_729 GE780 NB729_780 NB780_729 NB763_780 NB780_763 HO_4 HO_7 HO_35 BK729 BK763 BK780 HB HJ22 H
set_option maxHeartbeats 40000000 in
set_option maxRecDepth 1000000 in
theorem laws_FnReaches.calls (k:Nat) (A0:Option Addr) (c0:Nat) (l0:List Int) (r:Bool) (w:World) (hr0:Kd.C (Kd.int .u8) w A0 l0.length l0) (hc0:l0.length≤c0) (h:laws_FnReaches.f k l0=some r):
  Calls Try.prog 8 #[.slice A0 l0.length c0] w fun e w'=>e= .returned (.bool r)∧Below w.heap.size w w':=(show laws_FnReaches.calls_T from by
 apply laws_FnReaches.calls_g.2
 ·apply laws_FnReaches.calls_g2.2
  exact @laws_FnReaches.calls_g1
 ·exact @laws_FnReaches.calls_g0) k A0 c0 l0 r w hr0 hc0 h
def laws_FnReaches.Pure:Prop:=∀ (l0:List Int),l0.length≤maxLen→l0.length*1≤140737488351232→(∀ x∈l0,(Lit.int .u8 x).wf=true)→∃ k,laws_FnReaches.f k l0=some true
theorem laws_FnReaches.walk (P:laws_FnReaches.Pure) (a0:Option Addr) (len0 cap0:Nat) (z0:List Int) (w:World) (w0: (a0=none∧len0=0∧cap0=0∧z0=[])∨∃ x,a0=some x∧len0≤cap0∧cap0≤maxLen∧z0.length=cap0∧(∀ i,i<z0.length→w.cell? (x.add i)=some (.int .u8 (z0.getD i 0)))∧∀ n∈z0,(Lit.int .u8 n).wf=true) (y0:len0*1≤140737488351232):
  Calls Try.prog 8 #[.slice a0 len0 cap0] w fun e w'=>e= .returned (.bool true)∧Below w.heap.size w w':=by
 obtain⟨l0,rfl,hr0,hm0,hw0,hc0⟩:=ReadsInt.ofRowC w0
 obtain⟨k,h⟩:=P l0 hm0 y0 hw0
 refine(laws_FnReaches.calls k _ _ l0 true w (C_of_reads (d:=(0:Int)) (h1:=fun _=>rfl) hr0) hc0 h).mono ?_
 rintro e w' ⟨rfl,hd⟩
 exact⟨rfl,hd⟩
end
end Go.Proofs.Ythagkpoinjpmfaa.QFnReaches
