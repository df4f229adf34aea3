/- Functions that the law FnRelays comes to, and their walks: no condition but those named. -/
import Derived.Test.YthagkpoinjpmfaaQFnRelaysx0
import Derived.Test.YthagkpoinjpmfaaQFnRelaysx3
import Derived.Test.YthagkpoinjpmfaaQFnRelaysx6
import Derived.Test.YthagkpoinjpmfaaQFnRelaysx8
import Derived.Test.YthagkpoinjpmfaaQFnRelaysx9
import Derived.Test.YthagkpoinjpmfaaQFnRelaysx10
import Derived.Test.YthagkpoinjpmfaaQFnRelaysx12
import Derived.Test.YthagkpoinjpmfaaQFnRelaysx16
import Derived.Test.YthagkpoinjpmfaaQFnRelaysx17
import Derived.Test.YthagkpoinjpmfaaQFnRelaysx18
import Derived.Test.YthagkpoinjpmfaaQFnRelaysx21
import Derived.Test.YthagkpoinjpmfaaQFnRelaysx22
import Derived.Test.YthagkpoinjpmfaaQFnRelaysx22a
import Derived.Test.YthagkpoinjpmfaaQFnRelaysx22b
namespace Go.Proofs.Ythagkpoinjpmfaa.QFnRelays
open Go.RowKit Go.Proofs.YthagkpoinjpmfaaW.PrintWords Go.Proofs.YthagkpoinjpmfaaW.PrintLast Go.Proofs.YthagkpoinjpmfaaW.PrintMore Go.Proofs.Ythagkpoinjpmfaa.Short
attribute [local go_sem] max2_int min2_int max_two min_two max_three min_three max_four min_four
set_option linter.unusedVariables false
set_option linter.unusedSimpArgs false
section
open Kd
set_option maxHeartbeats 40000000 in
set_option maxRecDepth 1000000 in
theorem laws_FnRelays.calls_g0:laws_FnRelays.calls_g.1.2:=by
 intro k A0 c0 l0 r w hu28 hu63 HR0 HC0 _ A2 _ t635 t636 t637 t640 t641 t642 A4 _ t646 t647 A5 _ t648 t649 A6 _ t650 t651 A7 _ t652 t653 A8 _ t654 t655 A9 _ t656 t657 A10 _ t658 A11 _ t661 t662 t663 t664 t665 t666 A12 _ t669 t670 A13 _ t671 t672 A14 _ t673 A15 _ t676 t677 t678 A16 _ t682 t683 A17 _ t684 t685 A18 _ nd _ w20 gb645 w21 GW645 GE645 hcz22_0 hcz22_1 hfz22_0 hfz22_1 Ao23 co23 Ao24 co24 w25 hcz26_0 hcz26_1 hfz26_0 hfz26_1 w27 hcz28_0 hcz28_1 hfz28_0 hfz28_1 w29 hcz30_0 hcz30_1 hfz30_0 hfz30_1 w31 hcz32_0 hcz32_1 hfz32_0 hfz32_1 w33 hcz34_0 hcz34_1 hfz34_0 hfz34_1 w35 w36 Ao37 co37 w38 gb667 w39 GW667 GE667 NB645_667 NB667_645 gb668 w40 GW668 GE668 NB645_668 NB668_645 NB667_668 NB668_667 hnb41 hnc41 hnb42 hnc42 hcz43_0 hcz43_1 hfz43_0 hfz43_1 hnb44 hnc44 hcz45_0 hcz45_1 hcz45_2 hfz45_0 hfz45_1 hfz45_2 w46 hcz47_0 hcz47_1 hfz47_0 hfz47_1 hcz48_0 hcz48_1 hcz48_2 hfz48_0 hfz48_1 hfz48_2 w49 w50 Ao51 co51 w52 gb681 w53 GW681 GE681 NB645_681 NB681_645 NB667_681 NB681_667 NB668_681 NB681_668 hnb54 hnc54 hnb55 hnc55 hnb56 hnc56 hcz57_0 hcz57_1 hfz57_0 hfz57_1 Ao58 co58 w59 hcz60_0 hcz60_1 hfz60_0 hfz60_1 w61 HO639 HO644 HO660 HO675 HO680 _ _ _ _ _ _ _ _ _ wc _ _ _ _ _ _ _ _ _ _ _ _ _ _ _ _ _ _ _ _ _ _ _ _ _ _ _ _ _ _ _ _ _ _ _ _ _ _ _ _ _ _ _ _ _ _ _ _ _ _ _ _ _ _ _ _ _ _ _ _ _ _ _ _ _ _ _ _ _ _ _ _ _ _ _ _ _ _ _ _ _ _ _ _ _ _ _ _ _ _ _ _ _ _ _ _ _ _ _ _ _ _ _ _ _ _ _ _ _ _ _ _ _ _ _ _ _ _ _ _ _ _ _ _ _ _ _ _ _ _ _ _ _ _ _ _ _ _ _ _ _ _ _ _ _ _ _ _ _ _ _ _ _ _ _ _ _ _ _ _ _ _ _ _ _ _ _ _ _ _ _ _ _ _ _ _ _ _ _ _ _ _ _ _ _ _ _ _ _ _ _ _ _ _ _ _ _ _ _ _ _ _ _ _ _ _ _ _ _ _ _ _ _ _ _ _ _ _ _ _ _ _ _ _ _ _ _ _ _ _ _ _ _ _ _ _ _ _ _ _ _ _ _ _ _ _ _ _ _ _ _ _ _ _ _ _ _ _ _ _ _ _ _ _ _ _ _ _ _ _ _ _ _ _ _ _ _ _ _ _ _ _ _ _ _ _ x206_18 HO_4 HO_7 BK645 BK667 BK668 BK681 HB kj18 HJ18 H
 by_cases c74:x206_18=true
 ·subst c74
  rw[if_pos rfl]at H
  as_aux_lemma=>
   obtain rfl:=Option.some.inj H
   go_wp2
   go_ret
   exact⟨fe,by repeat(first|(with_reducible first|exact HB.out|apply below_alloc|apply pw_below_drewN|apply below_drew1|refine below_set ?_ GE645.out|refine below_set ?_ GE667.out|refine below_set ?_ GE668.out|refine below_set ?_ GE681.out)|exact HB.out)⟩
 replace c74:=Bool.eq_false_iff.mpr c74
 subst c74
 rw[if_neg (show ¬(false=true)by decide)]at H
 exact laws_FnRelays.rest1 (by assumption) (by assumption) GE645 GE667 NB645_667 NB667_645 GE668 NB645_668 NB668_645 NB667_668 NB668_667 GE681 NB645_681 NB681_645 NB667_681 NB681_667 HO_4 HO_7 BK645 BK667 BK668 BK681 HB HJ18 H
set_option maxHeartbeats 40000000 in
set_option maxRecDepth 1000000 in
theorem laws_FnRelays.calls (k:Nat) (A0:Option Addr) (c0:Nat) (l0:List Int) (r:Bool) (w:World) (hr0:Kd.C (Kd.int .u8) w A0 l0.length l0) (hc0:l0.length≤c0) (h:laws_FnRelays.f k l0=some r):
  Calls Try.prog 9 #[.slice A0 l0.length c0] w fun e w'=>e= .returned (.bool r)∧Below w.heap.size w w':=(show laws_FnRelays.calls_T from by
 apply laws_FnRelays.calls_g.2
 ·apply laws_FnRelays.calls_g2.2
  exact @laws_FnRelays.calls_g1
 ·exact @laws_FnRelays.calls_g0) k A0 c0 l0 r w hr0 hc0 h
def laws_FnRelays.Pure:Prop:=∀ (l0:List Int),l0.length≤maxLen→l0.length*1≤140737488351232→(∀ x∈l0,(Lit.int .u8 x).wf=true)→∃ k,laws_FnRelays.f k l0=some true
theorem laws_FnRelays.walk (P:laws_FnRelays.Pure) (a0:Option Addr) (len0 cap0:Nat) (z0:List Int) (w:World) (w0: (a0=none∧len0=0∧cap0=0∧z0=[])∨∃ x,a0=some x∧len0≤cap0∧cap0≤maxLen∧z0.length=cap0∧(∀ i,i<z0.length→w.cell? (x.add i)=some (.int .u8 (z0.getD i 0)))∧∀ n∈z0,(Lit.int .u8 n).wf=true) (y0:len0*1≤140737488351232):
  Calls Try.prog 9 #[.slice a0 len0 cap0] w fun e w'=>e= .returned (.bool true)∧Below w.heap.size w w':=by
 obtain⟨l0,rfl,hr0,hm0,hw0,hc0⟩:=ReadsInt.ofRowC w0
 obtain⟨k,h⟩:=P l0 hm0 y0 hw0
 refine(laws_FnRelays.calls k _ _ l0 true w (C_of_reads (d:=(0:Int)) (h1:=fun _=>rfl) hr0) hc0 h).mono ?_
 rintro e w' ⟨rfl,hd⟩
 exact⟨rfl,hd⟩
end
end Go.Proofs.Ythagkpoinjpmfaa.QFnRelays
