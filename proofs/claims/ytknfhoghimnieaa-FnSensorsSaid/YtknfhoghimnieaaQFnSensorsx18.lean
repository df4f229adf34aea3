/- Functions that the law FnSensors comes to, as Lean functions, with the proof that the Go code does what they say: written by a program of this session over the kit's print. No condition but those named. -/
import Derived.Test.YtknfhoghimnieaaQFnSensorsx0
import Derived.Test.YtknfhoghimnieaaQFnSensorsx4
import Derived.Test.YtknfhoghimnieaaQFnSensorsx5
import Derived.Test.YtknfhoghimnieaaQFnSensorsx6
import Derived.Test.YtknfhoghimnieaaQFnSensorsx7
import Derived.Test.YtknfhoghimnieaaQFnSensorsx8
import Derived.Test.YtknfhoghimnieaaQFnSensorsx9
import Derived.Test.YtknfhoghimnieaaQFnSensorsx10
import Derived.Test.YtknfhoghimnieaaQFnSensorsx12
import Derived.Test.YtknfhoghimnieaaQFnSensorsx13
import Derived.Test.YtknfhoghimnieaaQFnSensorsx14
import Derived.Test.YtknfhoghimnieaaQFnSensorsx17
namespace Go.Proofs.Ytknfhoghimnieaa.QFnSensors
open Go.RowKit Go.Proofs.YtknfhoghimnieaaW.PrintWords Go.Proofs.YtknfhoghimnieaaW.PrintLast Go.Proofs.YtknfhoghimnieaaW.PrintMore Go.Proofs.Ytknfhoghimnieaa.Short
attribute [local go_sem] max2_int min2_int max_two min_two max_three min_three max_four min_four   -- for this text's walks alone
set_option linter.unusedVariables false
set_option linter.unusedSimpArgs false

section
open Kd
/-- What a guard reads is no yes and no no. -/
theorem undef_bool {b : Bool} (h : some undef = some (Value.bool b)) : False := by
 have h1 := Option.some.inj h
 cases h1
/-- What is left to show. -/
structure Hand (G : Prop) : Prop where
 out : G
/-- What is left to show, told by Lean. -/
def hand {C G : Prop} (h : Hand G → C) : {G : Prop // G → C} := ⟨G, fun g => h ⟨g⟩⟩
set_option maxHeartbeats 40000000 in
set_option maxRecDepth 1000000 in
def laws_FnSensors.calls_g0 (k : Nat) (A0 : Option Addr) (c0 : Nat) (l0 : List Int) (r : Bool) (w : World) (hr0 : Kd.C (Kd.int .u8) w A0 l0.length l0) (hc0 : l0.length ≤ c0) (h : laws_FnSensors.f k l0 = some r) : {G : Prop // G → Calls Try.prog 9 #[.slice A0 l0.length c0] w fun e w'=>e = .returned (.bool r) ∧ Below w.heap.size w w'}:=by
 apply hand
 case h=>
  intro hG_
  have hu28:=Try.underlying28
  have HR0:=Aside0.mk hr0
  have HC0:=Aside0.mk hc0
  have HB:=Aside0.mk (Below.refl w.heap.size w)
  have H : ((laws_vBig.f l0).bind fun t469=>(if t469 = true then (some true) else ((spec_DrawSeenBy.f k l0).bind fun bt470=>((impl_SeenBy.f k bt470.1 bt470.2.1 bt470.2.2).bind fun bt476=>((spec_SeenBy.f k bt470.1 bt470.2.1 bt470.2.2).bind fun bt480=>((impl_UnseenRuns.f k bt470.1 bt470.2.1 bt470.2.2).bind fun bt484=>((spec_UnseenRuns.f k bt470.1 bt470.2.1 bt470.2.2).bind fun bt488=>((impl_StrengthOf.f k bt470.1 bt470.2.1 bt470.2.2).bind fun bt492=>((spec_StrengthOf.f k bt470.1 bt470.2.1 bt470.2.2).bind fun bt494=>((impl_SpareSensors.f k bt470.1 bt470.2.1 bt470.2.2).bind fun bt496=>((spec_SpareSensors.f k bt470.1 bt470.2.1 bt470.2.2).bind fun bt500=>((impl_AreSensors.f k bt470.1 bt470.2.1 bt470.2.2).bind fun bt504=>((spec_AreSensors.f k bt470.1 bt470.2.1 bt470.2.2).bind fun bt506=>((laws_vCut.f l0 1).bind fun t508=>((spec_DrawMirrorSensors.f k t508).bind fun bt511=>((impl_MirrorSensors.f k bt511.1 bt511.2.1 bt511.2.2).bind fun bt517=>((spec_MirrorSensors.f k bt511.1 bt511.2.1 bt511.2.2).bind fun bt521=>(if (bt476.2 != bt480.2) = true then (laws_FnSensors.j0 k bt470.2.2 bt476.1 bt476.2 bt484.1 bt492.1 bt496.1 bt511.2.2 bt517.1 bt517.2 true bt470.1 bt470.2.1 bt511.1 bt511.2.1) else ((laws_vInts.f k bt476.1 bt480.1).bind fun t525=>(if t525 = true then (if (bt484.2 != bt488.2) = true then (laws_FnSensors.j0 k bt470.2.2 bt476.1 bt476.2 bt484.1 bt492.1 bt496.1 bt511.2.2 bt517.1 bt517.2 true bt470.1 bt470.2.1 bt511.1 bt511.2.1) else ((laws_vPairs.f k bt484.1 bt488.1).bind fun t526=>(if t526 = true then (if bt492.1 = bt494.1 then (if (bt492.2 != bt494.2) = true then (laws_FnSensors.j0 k bt470.2.2 bt476.1 bt476.2 bt484.1 bt492.1 bt496.1 bt511.2.2 bt517.1 bt517.2 true bt470.1 bt470.2.1 bt511.1 bt511.2.1) else (if (bt496.2 != bt500.2) = true then (laws_FnSensors.j0 k bt470.2.2 bt476.1 bt476.2 bt484.1 bt492.1 bt496.1 bt511.2.2 bt517.1 bt517.2 true bt470.1 bt470.2.1 bt511.1 bt511.2.1) else ((laws_vInts.f k bt496.1 bt500.1).bind fun t527=>(if t527 = true then (if (bt504.1 != bt506.1) = true then (laws_FnSensors.j0 k bt470.2.2 bt476.1 bt476.2 bt484.1 bt492.1 bt496.1 bt511.2.2 bt517.1 bt517.2 true bt470.1 bt470.2.1 bt511.1 bt511.2.1) else (if (bt504.2 != bt506.2) = true then (laws_FnSensors.j0 k bt470.2.2 bt476.1 bt476.2 bt484.1 bt492.1 bt496.1 bt511.2.2 bt517.1 bt517.2 true bt470.1 bt470.2.1 bt511.1 bt511.2.1) else (if (bt517.2 != bt521.2) = true then (laws_FnSensors.j0 k bt470.2.2 bt476.1 bt476.2 bt484.1 bt492.1 bt496.1 bt511.2.2 bt517.1 bt517.2 true bt470.1 bt470.2.1 bt511.1 bt511.2.1) else ((laws_vSensors.f k bt517.1 bt521.1).bind fun t528=>(if t528 = true then (if bt504.2 = true then (laws_FnSensors.j0 k bt470.2.2 bt476.1 bt476.2 bt484.1 bt492.1 bt496.1 bt511.2.2 bt517.1 bt517.2 (bt476.2 != bt504.1) bt470.1 bt470.2.1 bt511.1 bt511.2.1) else (laws_FnSensors.j0 k bt470.2.2 bt476.1 bt476.2 bt484.1 bt492.1 bt496.1 bt511.2.2 bt517.1 bt517.2 (bt476.2 != false) bt470.1 bt470.2.1 bt511.1 bt511.2.1)) else (laws_FnSensors.j0 k bt470.2.2 bt476.1 bt476.2 bt484.1 bt492.1 bt496.1 bt511.2.2 bt517.1 bt517.2 true bt470.1 bt470.2.1 bt511.1 bt511.2.1)))))) else (laws_FnSensors.j0 k bt470.2.2 bt476.1 bt476.2 bt484.1 bt492.1 bt496.1 bt511.2.2 bt517.1 bt517.2 true bt470.1 bt470.2.1 bt511.1 bt511.2.1))))) else (laws_FnSensors.j0 k bt470.2.2 bt476.1 bt476.2 bt484.1 bt492.1 bt496.1 bt511.2.2 bt517.1 bt517.2 true bt470.1 bt470.2.1 bt511.1 bt511.2.1)) else (laws_FnSensors.j0 k bt470.2.2 bt476.1 bt476.2 bt484.1 bt492.1 bt496.1 bt511.2.2 bt517.1 bt517.2 true bt470.1 bt470.2.1 bt511.1 bt511.2.1)))) else (laws_FnSensors.j0 k bt470.2.2 bt476.1 bt476.2 bt484.1 bt492.1 bt496.1 bt511.2.2 bt517.1 bt517.2 true bt470.1 bt470.2.1 bt511.1 bt511.2.1))))))))))))))))))))) = some r:=h
  replace H:=Option.bind_eq_some_iff.mp H
  obtain ⟨t469,A20,H⟩:=H
  (try dsimp only at H)
  have A2:=Aside0.mk A20
  clear A20
  by_cases c3 : t469 = true
  ·subst c3
   rw [if_pos rfl] at H
   as_aux_lemma =>
    clear hG_
    obtain rfl:=Option.some.inj H
    go_enter Try.func9,Try.ntmps9
    go_wp2_with (first|((with_reducible refine gate_callee (f:=34) rfl ?_);refine goesL_ (some 49) rfl rfl Try.func34 (by kernel_rfl) rfl #[.slice A0 l0.length c0] rfl gl ?_;(with_reducible refine (laws_vBig.calls _ _ l0 true _ ?side1 ?side2 A2.out).mono ?_);(case side1=>repeat (first|exact HR0.out|(with_reducible refine C_alloc ?_ _)|(with_reducible refine C_drewN ?_ _)|(with_reducible refine C_drew ?_)));(case side2=>exact HC0.out);rintro e w' ⟨rfl,⟨nd,rfl⟩⟩;refine ⟨_,rfl,?_⟩))
    go_ret
    exact ⟨fe,hm HB.out⟩
  replace c3:=Bool.eq_false_iff.mpr c3
  subst c3
  rw [if_neg (show ¬ (false = true) by decide)] at H
  replace H:=Option.bind_eq_some_iff.mp H
  obtain ⟨⟨t470,t471,t472⟩,A40,H⟩:=H
  (try dsimp only at H)
  have A4:=Aside0.mk A40
  clear A40
  replace H:=Option.bind_eq_some_iff.mp H
  obtain ⟨⟨t476,t479⟩,A50,H⟩:=H
  (try dsimp only at H)
  have A5:=Aside0.mk A50
  clear A50
  replace H:=Option.bind_eq_some_iff.mp H
  obtain ⟨⟨t480,t483⟩,A60,H⟩:=H
  (try dsimp only at H)
  have A6:=Aside0.mk A60
  clear A60
  replace H:=Option.bind_eq_some_iff.mp H
  obtain ⟨⟨t484,t487⟩,A70,H⟩:=H
  (try dsimp only at H)
  have A7:=Aside0.mk A70
  clear A70
  replace H:=Option.bind_eq_some_iff.mp H
  obtain ⟨⟨t488,t491⟩,A80,H⟩:=H
  (try dsimp only at H)
  have A8:=Aside0.mk A80
  clear A80
  replace H:=Option.bind_eq_some_iff.mp H
  obtain ⟨⟨t492,t493⟩,A90,H⟩:=H
  (try dsimp only at H)
  have A9:=Aside0.mk A90
  clear A90
  replace H:=Option.bind_eq_some_iff.mp H
  obtain ⟨⟨t494,t495⟩,A100,H⟩:=H
  (try dsimp only at H)
  have A10:=Aside0.mk A100
  clear A100
  replace H:=Option.bind_eq_some_iff.mp H
  obtain ⟨⟨t496,t499⟩,A110,H⟩:=H
  (try dsimp only at H)
  have A11:=Aside0.mk A110
  clear A110
  replace H:=Option.bind_eq_some_iff.mp H
  obtain ⟨⟨t500,t503⟩,A120,H⟩:=H
  (try dsimp only at H)
  have A12:=Aside0.mk A120
  clear A120
  replace H:=Option.bind_eq_some_iff.mp H
  obtain ⟨⟨t504,t505⟩,A130,H⟩:=H
  (try dsimp only at H)
  have A13:=Aside0.mk A130
  clear A130
  replace H:=Option.bind_eq_some_iff.mp H
  obtain ⟨⟨t506,t507⟩,A140,H⟩:=H
  (try dsimp only at H)
  have A14:=Aside0.mk A140
  clear A140
  replace H:=Option.bind_eq_some_iff.mp H
  obtain ⟨t508,A150,H⟩:=H
  (try dsimp only at H)
  have A15:=Aside0.mk A150
  clear A150
  replace H:=Option.bind_eq_some_iff.mp H
  obtain ⟨⟨t511,t512,t513⟩,A160,H⟩:=H
  (try dsimp only at H)
  have A16:=Aside0.mk A160
  clear A160
  replace H:=Option.bind_eq_some_iff.mp H
  obtain ⟨⟨t517,t520⟩,A170,H⟩:=H
  (try dsimp only at H)
  have A17:=Aside0.mk A170
  clear A170
  replace H:=Option.bind_eq_some_iff.mp H
  obtain ⟨⟨t521,t524⟩,A180,H⟩:=H
  (try dsimp only at H)
  have A18:=Aside0.mk A180
  clear A180
  have HC19:=Aside0.mk H
  clear H
  go_enter Try.func9,Try.ntmps9
  go_upto_region 17 with (first|((with_reducible refine gate_callee (f:=34) rfl ?_);refine goesL_ (some 49) rfl rfl Try.func34 (by kernel_rfl) rfl #[.slice A0 l0.length c0] rfl gl ?_;(with_reducible refine (laws_vBig.calls _ _ l0 false _ ?side1 ?side2 A2.out).mono ?_);(case side1=>repeat (first|exact HR0.out|(with_reducible refine C_alloc ?_ _)|(with_reducible refine C_drewN ?_ _)|(with_reducible refine C_drew ?_)));(case side2=>exact HC0.out);rintro e w' ⟨rfl,⟨nd,rfl⟩⟩;refine ⟨_,rfl,?_⟩)|((with_reducible refine gate_callee (f:=35) rfl ?_);refine goesL_ (some 52) rfl rfl Try.func35 (by kernel_rfl) rfl #[.slice A0 l0.length c0] rfl gl ?_;(with_reducible refine (spec_DrawSeenBy.calls k _ _ l0 t470 t471 t472 _ ?side1 ?side2 A4.out).mono ?_);(case side1=>repeat (first|exact HR0.out|(with_reducible refine C_alloc ?_ _)|(with_reducible refine C_drewN ?_ _)|(with_reducible refine C_drew ?_)));(case side2=>exact HC0.out);rintro e w20 ⟨v473,rfl,ho0,hb⟩;refine ⟨_,rfl,?_⟩;have HO474:=ak (R_lower ho0 (below_size (hm HB.out)));replace HB:=bs HB hb;(try clear hb);(try clear hk);(try clear hi);(try clear ho0))|((with_reducible refine gate_dst (N:=3) rfl ?_);(try (refine gate_guard (by rfl) ?_;dsimp only));refine box_event ?hg (N:=3) ?hd (cs:=#[.int .i64 0,.bool false]) (t:=28) ?hr ?_;(case hd=>rfl);(case hg=>rfl);(case hr=>first|(go_simp;done)|(go_simp;rfl));intro gb475 hg w21 hbox hb;replace HO474:=rb HO474 hb;have BK475:=ak hbox;have GW475:=ak ((by rw [hg];exact (below_size (hm HB.out)) : w.heap.size ≤ gb475));have GE475:=ak ((by rw [hg];exact (below_size (hm HB.out)) : w.heap.size ≤ gb475));replace HB:=bs HB hb;clear hb hbox hg;have hcz22_0 : w21.cell? ⟨gb475,0,none⟩ = some (.int .i64 0):=(blk_cell BK475.out 0).trans rfl;have hcz22_1 : w21.cell? ⟨gb475,1,none⟩ = some (.bool false):=(blk_cell BK475.out 1).trans rfl;have hfz22_0:=blk_frozen BK475.out 0;have hfz22_1:=blk_frozen BK475.out 1;obtain ⟨Ao23,co23,eo23⟩:=R_slice HO474.out;subst eo23)|((with_reducible refine gate_callee (f:=23) rfl ?_);refine goesL_ (some 58) rfl rfl Try.func23 (by kernel_rfl) rfl #[.agg #[.int .i64 t470,.bool t471],.slice Ao23 t472.length co23] rfl gl ?_;(with_reducible refine (impl_SeenBy.calls k t470 t471 _ _ t472 t476 t479 _ ?side1 ?side2 A5.out).mono ?_);(case side1=>refine (R_reads' (e:=59) (base:=w.heap.size) (ok:=fun k_=>True) (n:=t472.length) (c:=co23) ?_).2.2;exact (by (with_reducible repeat (first|apply R_alloc|apply R_drewN|apply R_drew));exact (R_mono (R_far (p:=⟨gb475,1,none⟩) (R_far (p:=⟨gb475,0,none⟩) (R_types HO474.out BK475.out (by decide)) (fun _ hk=>hk.2) (.int .i64 t470)) (fun _ hk=>hk.2) (.bool t471)) (fun _ h_=>h_.1))));(case side2=>exact (R_reads' HO474.out).2.1);rintro e w24 ⟨v477,rfl,ho0,hb⟩;refine ⟨_,rfl,?_⟩;replace HO474:=ak (R_below (by (with_reducible repeat (first|apply R_alloc|apply R_drewN|apply R_drew));exact (R_mono (R_far (p:=⟨gb475,1,none⟩) (R_far (p:=⟨gb475,0,none⟩) (R_types HO474.out BK475.out (by decide)) (fun _ hk=>hk.2) (.int .i64 t470)) (fun _ hk=>hk.2) (.bool t471)) (fun _ h_=>h_.1))) hb);have HO478:=ak (R_lower ho0 (below_size (h1 HB.out GE475.out)));replace BK475:=ak (blk_below (g:=gb475) (o:=.cells #[.int .i64 t470,.bool t471] 28 (0,0)) (by (with_reducible repeat (first|apply blk_drewN|apply blk_drew|apply blk_alloc));refine blk_put (cs:=#[.int .i64 t470,.bool false]) ?_ 1 _ rfl;(with_reducible repeat (first|apply blk_drewN|apply blk_drew|apply blk_alloc));refine blk_put (cs:=#[.int .i64 0,.bool false]) ?_ 0 _ rfl;exact bm BK475.out) hb);replace HB:=ak (below_step (h1 HB.out GE475.out) hb);(try clear hb);(try clear hk);(try clear hi);(try clear ho0);have hcz25_0 : w24.cell? ⟨gb475,0,none⟩ = some (.int .i64 t470):=(blk_cell BK475.out 0).trans rfl;have hcz25_1 : w24.cell? ⟨gb475,1,none⟩ = some (.bool t471):=(blk_cell BK475.out 1).trans rfl;have hfz25_0:=blk_frozen BK475.out 0;have hfz25_1:=blk_frozen BK475.out 1)|((with_reducible refine gate_callee (f:=22) rfl ?_);refine goesL_ (some 64) rfl rfl Try.func22 (by kernel_rfl) rfl #[.agg #[.int .i64 t470,.bool t471],.slice Ao23 t472.length co23] rfl gl ?_;(with_reducible refine (spec_SeenBy.calls k t470 t471 _ _ t472 t480 t483 _ ?side1 ?side2 A6.out).mono ?_);(case side1=>exact cm (R_reads' HO474.out).2.2);(case side2=>exact (R_reads' HO474.out).2.1);rintro e w26 ⟨v481,rfl,ho0,hb⟩;refine ⟨_,rfl,?_⟩;replace HO474:=rb HO474 hb;have HO482:=ak (R_lower (R_new' ho0 (R_lt (rm HO478.out))) (below_size (h1 HB.out GE475.out)));replace HO478:=ak (R_elder' (rm HO478.out) (R_base ho0) hb);replace BK475:=kb BK475 hb;replace HB:=ak (below_step (h1 HB.out GE475.out) hb);(try clear hb);(try clear hk);(try clear hi);(try clear ho0);have hcz27_0 : w26.cell? ⟨gb475,0,none⟩ = some (.int .i64 t470):=(blk_cell BK475.out 0).trans rfl;have hcz27_1 : w26.cell? ⟨gb475,1,none⟩ = some (.bool t471):=(blk_cell BK475.out 1).trans rfl;have hfz27_0:=blk_frozen BK475.out 0;have hfz27_1:=blk_frozen BK475.out 1)|((with_reducible refine gate_callee (f:=28) rfl ?_);refine goesL_ (some 70) rfl rfl Try.func28 (by kernel_rfl) rfl #[.agg #[.int .i64 t470,.bool t471],.slice Ao23 t472.length co23] rfl gl ?_;(with_reducible refine (impl_UnseenRuns.calls k t470 t471 _ _ t472 t484 t487 _ ?side1 ?side2 A7.out).mono ?_);(case side1=>exact cm (R_reads' HO474.out).2.2);(case side2=>exact (R_reads' HO474.out).2.1);rintro e w28 ⟨v485,rfl,ho0,hb⟩;refine ⟨_,rfl,?_⟩;replace HO474:=rb HO474 hb;replace HO478:=rb HO478 hb;replace HO482:=rb HO482 hb;have HO486:=ak (R_lower ho0 (below_size (h1 HB.out GE475.out)));replace BK475:=kb BK475 hb;replace HB:=ak (below_step (h1 HB.out GE475.out) hb);(try clear hb);(try clear hk);(try clear hi);(try clear ho0);have hcz29_0 : w28.cell? ⟨gb475,0,none⟩ = some (.int .i64 t470):=(blk_cell BK475.out 0).trans rfl;have hcz29_1 : w28.cell? ⟨gb475,1,none⟩ = some (.bool t471):=(blk_cell BK475.out 1).trans rfl;have hfz29_0:=blk_frozen BK475.out 0;have hfz29_1:=blk_frozen BK475.out 1)|((with_reducible refine gate_callee (f:=27) rfl ?_);refine goesL_ (some 76) rfl rfl Try.func27 (by kernel_rfl) rfl #[.agg #[.int .i64 t470,.bool t471],.slice Ao23 t472.length co23] rfl gl ?_;(with_reducible refine (spec_UnseenRuns.calls k t470 t471 _ _ t472 t488 t491 _ ?side1 ?side2 A8.out).mono ?_);(case side1=>exact cm (R_reads' HO474.out).2.2);(case side2=>exact (R_reads' HO474.out).2.1);rintro e w30 ⟨v489,rfl,ho0,hb⟩;refine ⟨_,rfl,?_⟩;replace HO474:=rb HO474 hb;replace HO478:=rb HO478 hb;replace HO482:=rb HO482 hb;have HO490:=ak (R_lower (R_new' ho0 (R_lt (rm HO486.out))) (below_size (h1 HB.out GE475.out)));replace HO486:=ak (R_elder' (rm HO486.out) (R_base ho0) hb);replace BK475:=kb BK475 hb;replace HB:=ak (below_step (h1 HB.out GE475.out) hb);(try clear hb);(try clear hk);(try clear hi);(try clear ho0);have hcz31_0 : w30.cell? ⟨gb475,0,none⟩ = some (.int .i64 t470):=(blk_cell BK475.out 0).trans rfl;have hcz31_1 : w30.cell? ⟨gb475,1,none⟩ = some (.bool t471):=(blk_cell BK475.out 1).trans rfl;have hfz31_0:=blk_frozen BK475.out 0;have hfz31_1:=blk_frozen BK475.out 1)|((with_reducible refine gate_callee (f:=21) rfl ?_);refine goesL_ (some 82) rfl rfl Try.func21 (by kernel_rfl) rfl #[.agg #[.int .i64 t470,.bool t471],.slice Ao23 t472.length co23] rfl gl ?_;(with_reducible refine (impl_StrengthOf.calls k t470 t471 _ _ t472 t492 t493 _ ?side1 ?side2 A9.out).mono ?_);(case side1=>exact cm (R_reads' HO474.out).2.2);(case side2=>exact (R_reads' HO474.out).2.1);rintro e w32 ⟨rfl,hb⟩;refine ⟨_,rfl,?_⟩;replace HO474:=rb HO474 hb;replace HO478:=rb HO478 hb;replace HO482:=rb HO482 hb;replace HO486:=rb HO486 hb;replace HO490:=rb HO490 hb;replace BK475:=kb BK475 hb;replace HB:=ak (below_step (h1 HB.out GE475.out) hb);(try clear hb);(try clear hk);(try clear hi);have hcz33_0 : w32.cell? ⟨gb475,0,none⟩ = some (.int .i64 t470):=(blk_cell BK475.out 0).trans rfl;have hcz33_1 : w32.cell? ⟨gb475,1,none⟩ = some (.bool t471):=(blk_cell BK475.out 1).trans rfl;have hfz33_0:=blk_frozen BK475.out 0;have hfz33_1:=blk_frozen BK475.out 1)|((with_reducible refine gate_callee (f:=20) rfl ?_);refine goesL_ (some 88) rfl rfl Try.func20 (by kernel_rfl) rfl #[.agg #[.int .i64 t470,.bool t471],.slice Ao23 t472.length co23] rfl gl ?_;(with_reducible refine (spec_StrengthOf.calls k t470 t471 _ _ t472 t494 t495 _ ?side1 ?side2 A10.out).mono ?_);(case side1=>exact cm (R_reads' HO474.out).2.2);(case side2=>exact (R_reads' HO474.out).2.1);rintro e w34 ⟨rfl,hb⟩;refine ⟨_,rfl,?_⟩;replace HO474:=rb HO474 hb;replace HO478:=rb HO478 hb;replace HO482:=rb HO482 hb;replace HO486:=rb HO486 hb;replace HO490:=rb HO490 hb;replace BK475:=kb BK475 hb;replace HB:=ak (below_step (h1 HB.out GE475.out) hb);(try clear hb);(try clear hk);(try clear hi);have hcz35_0 : w34.cell? ⟨gb475,0,none⟩ = some (.int .i64 t470):=(blk_cell BK475.out 0).trans rfl;have hcz35_1 : w34.cell? ⟨gb475,1,none⟩ = some (.bool t471):=(blk_cell BK475.out 1).trans rfl;have hfz35_0:=blk_frozen BK475.out 0;have hfz35_1:=blk_frozen BK475.out 1)|((with_reducible refine gate_callee (f:=33) rfl ?_);refine goesL_ (some 94) rfl rfl Try.func33 (by kernel_rfl) rfl #[.agg #[.int .i64 t470,.bool t471],.slice Ao23 t472.length co23] rfl gl ?_;(with_reducible refine (impl_SpareSensors.calls k t470 t471 _ _ t472 t496 t499 _ ?side1 ?side2 A11.out).mono ?_);(case side1=>exact cm (R_reads' HO474.out).2.2);(case side2=>exact (R_reads' HO474.out).2.1);rintro e w36 ⟨v497,rfl,ho0,hb⟩;refine ⟨_,rfl,?_⟩;replace HO474:=rb HO474 hb;replace HO486:=rb HO486 hb;replace HO490:=rb HO490 hb;have HO498:=ak (R_lower (R_new' (R_new' ho0 (R_lt (rm HO478.out))) (R_lt (rm HO482.out))) (below_size (h1 HB.out GE475.out)));replace HO478:=ak (R_elder' (rm HO478.out) (R_base ho0) hb);replace HO482:=ak (R_elder' (rm HO482.out) (R_base ho0) hb);replace BK475:=kb BK475 hb;replace HB:=ak (below_step (h1 HB.out GE475.out) hb);(try clear hb);(try clear hk);(try clear hi);(try clear ho0);have hcz37_0 : w36.cell? ⟨gb475,0,none⟩ = some (.int .i64 t470):=(blk_cell BK475.out 0).trans rfl;have hcz37_1 : w36.cell? ⟨gb475,1,none⟩ = some (.bool t471):=(blk_cell BK475.out 1).trans rfl;have hfz37_0:=blk_frozen BK475.out 0;have hfz37_1:=blk_frozen BK475.out 1)|((with_reducible refine gate_callee (f:=32) rfl ?_);refine goesL_ (some 100) rfl rfl Try.func32 (by kernel_rfl) rfl #[.agg #[.int .i64 t470,.bool t471],.slice Ao23 t472.length co23] rfl gl ?_;(with_reducible refine (spec_SpareSensors.calls k t470 t471 _ _ t472 t500 t503 _ ?side1 ?side2 A12.out).mono ?_);(case side1=>exact cm (R_reads' HO474.out).2.2);(case side2=>exact (R_reads' HO474.out).2.1);rintro e w38 ⟨v501,rfl,ho0,hb⟩;refine ⟨_,rfl,?_⟩;replace HO474:=rb HO474 hb;replace HO486:=rb HO486 hb;replace HO490:=rb HO490 hb;have HO502:=ak (R_lower (R_new' (R_new' (R_new' ho0 (R_lt (rm HO478.out))) (R_lt (rm HO482.out))) (R_lt (rm HO498.out))) (below_size (h1 HB.out GE475.out)));replace HO478:=ak (R_elder' (rm HO478.out) (R_base ho0) hb);replace HO482:=ak (R_elder' (rm HO482.out) (R_base ho0) hb);replace HO498:=ak (R_elder' (rm HO498.out) (R_base ho0) hb);replace BK475:=kb BK475 hb;replace HB:=ak (below_step (h1 HB.out GE475.out) hb);(try clear hb);(try clear hk);(try clear hi);(try clear ho0);have hcz39_0 : w38.cell? ⟨gb475,0,none⟩ = some (.int .i64 t470):=(blk_cell BK475.out 0).trans rfl;have hcz39_1 : w38.cell? ⟨gb475,1,none⟩ = some (.bool t471):=(blk_cell BK475.out 1).trans rfl;have hfz39_0:=blk_frozen BK475.out 0;have hfz39_1:=blk_frozen BK475.out 1)|((with_reducible refine gate_callee (f:=14) rfl ?_);refine goesL_ (some 106) rfl rfl Try.func14 (by kernel_rfl) rfl #[.agg #[.int .i64 t470,.bool t471],.slice Ao23 t472.length co23] rfl gl ?_;(with_reducible refine (impl_AreSensors.calls k t470 t471 _ _ t472 t504 t505 _ ?side1 ?side2 A13.out).mono ?_);(case side1=>exact cm (R_reads' HO474.out).2.2);(case side2=>exact (R_reads' HO474.out).2.1);rintro e w40 ⟨rfl,hb⟩;refine ⟨_,rfl,?_⟩;replace HO474:=rb HO474 hb;replace HO478:=rb HO478 hb;replace HO482:=rb HO482 hb;replace HO486:=rb HO486 hb;replace HO490:=rb HO490 hb;replace HO498:=rb HO498 hb;replace HO502:=rb HO502 hb;replace BK475:=kb BK475 hb;replace HB:=ak (below_step (h1 HB.out GE475.out) hb);(try clear hb);(try clear hk);(try clear hi);have hcz41_0 : w40.cell? ⟨gb475,0,none⟩ = some (.int .i64 t470):=(blk_cell BK475.out 0).trans rfl;have hcz41_1 : w40.cell? ⟨gb475,1,none⟩ = some (.bool t471):=(blk_cell BK475.out 1).trans rfl;have hfz41_0:=blk_frozen BK475.out 0;have hfz41_1:=blk_frozen BK475.out 1)|((with_reducible refine gate_callee (f:=11) rfl ?_);refine goesL_ (some 112) rfl rfl Try.func11 (by kernel_rfl) rfl #[.agg #[.int .i64 t470,.bool t471],.slice Ao23 t472.length co23] rfl gl ?_;(with_reducible refine (spec_AreSensors.calls k t470 t471 _ _ t472 t506 t507 _ ?side1 ?side2 A14.out).mono ?_);(case side1=>exact cm (R_reads' HO474.out).2.2);(case side2=>exact (R_reads' HO474.out).2.1);rintro e w42 ⟨rfl,hb⟩;refine ⟨_,rfl,?_⟩;replace HO474:=rb HO474 hb;replace HO478:=rb HO478 hb;replace HO482:=rb HO482 hb;replace HO486:=rb HO486 hb;replace HO490:=rb HO490 hb;replace HO498:=rb HO498 hb;replace HO502:=rb HO502 hb;replace BK475:=kb BK475 hb;replace HB:=ak (below_step (h1 HB.out GE475.out) hb);(try clear hb);(try clear hk);(try clear hi))|((with_reducible refine gate_callee (f:=37) rfl ?_);refine goesL_ (some 117) rfl rfl Try.func37 (by kernel_rfl) rfl #[.slice A0 l0.length c0,.int .i64 1] rfl gl ?_;(with_reducible refine (laws_vCut.calls _ _ l0 1 t508 _ ?side1 ?side2 A15.out).mono ?_);(case side1=>exact cm (C_below HR0.out HB.out));(case side2=>exact HC0.out);rintro e w43 ⟨v509,rfl,ho0,hb⟩;refine ⟨_,rfl,?_⟩;replace HO474:=rb HO474 hb;replace HO478:=rb HO478 hb;replace HO482:=rb HO482 hb;replace HO486:=rb HO486 hb;replace HO490:=rb HO490 hb;replace HO498:=rb HO498 hb;replace HO502:=rb HO502 hb;have HO510:=ak (R_lower ho0 (below_size (h1 HB.out GE475.out)));replace BK475:=kb BK475 hb;replace HB:=ak (below_step (h1 HB.out GE475.out) hb);(try clear hb);(try clear hk);(try clear hi);(try clear ho0);obtain ⟨Ao44,co44,eo44⟩:=R_slice HO510.out;subst eo44)|((with_reducible refine gate_callee (f:=36) rfl ?_);refine goesL_ (some 118) rfl rfl Try.func36 (by kernel_rfl) rfl #[.slice Ao44 t508.length co44] rfl gl ?_;(with_reducible refine (spec_DrawMirrorSensors.calls k _ _ t508 t511 t512 t513 _ ?side1 ?side2 A16.out).mono ?_);(case side1=>exact cm (R_reads' HO510.out).2.2);(case side2=>exact (R_reads' HO510.out).2.1);rintro e w45 ⟨v514,rfl,ho0,hb⟩;refine ⟨_,rfl,?_⟩;replace HO478:=rb HO478 hb;replace HO482:=rb HO482 hb;replace HO486:=rb HO486 hb;replace HO490:=rb HO490 hb;replace HO498:=rb HO498 hb;replace HO502:=rb HO502 hb;replace HO510:=rb HO510 hb;have HO515:=ak (R_lower (R_new' ho0 (R_lt (rm HO474.out))) (below_size (h1 HB.out GE475.out)));replace HO474:=ak (R_elder' (rm HO474.out) (R_base ho0) hb);replace BK475:=kb BK475 hb;replace HB:=ak (below_step (h1 HB.out GE475.out) hb);(try clear hb);(try clear hk);(try clear hi);(try clear ho0))|((with_reducible refine gate_dst (N:=25) rfl ?_);(try (refine gate_guard (by rfl) ?_;dsimp only));refine box_event ?hg (N:=25) ?hd (cs:=#[.int .i64 0,.bool false]) (t:=28) ?hr ?_;(case hd=>rfl);(case hg=>rfl);(case hr=>first|(go_simp;done)|(go_simp;rfl));intro gb516 hg w46 hbox hb;replace HO474:=rb HO474 hb;replace HO478:=rb HO478 hb;replace HO482:=rb HO482 hb;replace HO486:=rb HO486 hb;replace HO490:=rb HO490 hb;replace HO498:=rb HO498 hb;replace HO502:=rb HO502 hb;replace HO510:=rb HO510 hb;replace HO515:=rb HO515 hb;have BK516:=ak hbox;have GW516:=ak ((by rw [hg];exact (below_size (h1 HB.out GE475.out)) : w.heap.size ≤ gb516));have GE516:=ak ((by rw [hg];exact (below_size (h1 HB.out GE475.out)) : w.heap.size ≤ gb516));replace HB:=ak (below_step (h1 HB.out GE475.out) hb);have NB475_516:=ak ((by rw [hg];exact Nat.ne_of_lt (blk_lt (g:=gb475) (o:=.cells #[.int .i64 t470,.bool t471] 28 (0,0)) (bm BK475.out)) : gb475 ≠ gb516));have NB516_475:=ak ((by rw [hg];exact Nat.ne_of_gt (blk_lt (g:=gb475) (o:=.cells #[.int .i64 t470,.bool t471] 28 (0,0)) (bm BK475.out)) : gb516 ≠ gb475));replace BK475:=kb BK475 hb;clear hb hbox hg;have hnb47:=NB516_475.out;have hnc47:=NB475_516.out;have hcz48_0 : w46.cell? ⟨gb516,0,none⟩ = some (.int .i64 0):=(blk_cell BK516.out 0).trans rfl;have hcz48_1 : w46.cell? ⟨gb516,1,none⟩ = some (.bool false):=(blk_cell BK516.out 1).trans rfl;have hfz48_0:=blk_frozen BK516.out 0;have hfz48_1:=blk_frozen BK516.out 1;obtain ⟨Ao49,co49,eo49⟩:=R_slice HO515.out;subst eo49)|((with_reducible refine gate_callee (f:=17) rfl ?_);refine goesL_ (some 124) rfl rfl Try.func17 (by kernel_rfl) rfl #[.agg #[.int .i64 t511,.bool t512],.slice Ao49 t513.length co49] rfl gl ?_;(with_reducible refine (impl_MirrorSensors.calls k t511 t512 _ _ t513 t517 t520 _ ?side1 ?side2 A17.out).mono ?_);(case side1=>refine (R_reads' (e:=59) (base:=w.heap.size) (ok:=fun k_=>(True ∧ ob k_ (.slice Ao23 t472.length co23))) (n:=t513.length) (c:=co49) ?_).2.2;exact (by (with_reducible repeat (first|apply R_alloc|apply R_drewN|apply R_drew));exact (R_mono (R_far (p:=⟨gb516,1,none⟩) (R_far (p:=⟨gb516,0,none⟩) (R_types HO515.out BK516.out (by decide)) (fun _ hk=>hk.2) (.int .i64 t511)) (fun _ hk=>hk.2) (.bool t512)) (fun _ h_=>h_.1))));(case side2=>exact (R_reads' HO515.out).2.1);rintro e w50 ⟨v518,rfl,ho0,hb⟩;refine ⟨_,rfl,?_⟩;replace HO478:=ak (R_below (by (with_reducible repeat (first|apply R_alloc|apply R_drewN|apply R_drew));exact (R_mono (R_far (p:=⟨gb516,1,none⟩) (R_far (p:=⟨gb516,0,none⟩) (R_types HO478.out BK516.out (by decide)) (fun _ hk=>hk.2) (.int .i64 t511)) (fun _ hk=>hk.2) (.bool t512)) (fun _ h_=>h_.1))) hb);replace HO482:=ak (R_below (by (with_reducible repeat (first|apply R_alloc|apply R_drewN|apply R_drew));exact (R_mono (R_far (p:=⟨gb516,1,none⟩) (R_far (p:=⟨gb516,0,none⟩) (R_types HO482.out BK516.out (by decide)) (fun _ hk=>hk.2) (.int .i64 t511)) (fun _ hk=>hk.2) (.bool t512)) (fun _ h_=>h_.1))) hb);replace HO486:=ak (R_below (by (with_reducible repeat (first|apply R_alloc|apply R_drewN|apply R_drew));exact (R_mono (R_far (p:=⟨gb516,1,none⟩) (R_far (p:=⟨gb516,0,none⟩) (R_types HO486.out BK516.out (by decide)) (fun _ hk=>hk.2) (.int .i64 t511)) (fun _ hk=>hk.2) (.bool t512)) (fun _ h_=>h_.1))) hb);replace HO490:=ak (R_below (by (with_reducible repeat (first|apply R_alloc|apply R_drewN|apply R_drew));exact (R_mono (R_far (p:=⟨gb516,1,none⟩) (R_far (p:=⟨gb516,0,none⟩) (R_types HO490.out BK516.out (by decide)) (fun _ hk=>hk.2) (.int .i64 t511)) (fun _ hk=>hk.2) (.bool t512)) (fun _ h_=>h_.1))) hb);replace HO498:=ak (R_below (by (with_reducible repeat (first|apply R_alloc|apply R_drewN|apply R_drew));exact (R_mono (R_far (p:=⟨gb516,1,none⟩) (R_far (p:=⟨gb516,0,none⟩) (R_types HO498.out BK516.out (by decide)) (fun _ hk=>hk.2) (.int .i64 t511)) (fun _ hk=>hk.2) (.bool t512)) (fun _ h_=>h_.1))) hb);replace HO502:=ak (R_below (by (with_reducible repeat (first|apply R_alloc|apply R_drewN|apply R_drew));exact (R_mono (R_far (p:=⟨gb516,1,none⟩) (R_far (p:=⟨gb516,0,none⟩) (R_types HO502.out BK516.out (by decide)) (fun _ hk=>hk.2) (.int .i64 t511)) (fun _ hk=>hk.2) (.bool t512)) (fun _ h_=>h_.1))) hb);replace HO510:=ak (R_below (by (with_reducible repeat (first|apply R_alloc|apply R_drewN|apply R_drew));exact (R_mono (R_far (p:=⟨gb516,1,none⟩) (R_far (p:=⟨gb516,0,none⟩) (R_types HO510.out BK516.out (by decide)) (fun _ hk=>hk.2) (.int .i64 t511)) (fun _ hk=>hk.2) (.bool t512)) (fun _ h_=>h_.1))) hb);have HO519:=ak (R_lower (R_new' (R_new' ho0 (R_lt (by (with_reducible repeat (first|apply R_alloc|apply R_drewN|apply R_drew));exact (R_mono (R_far (p:=⟨gb516,1,none⟩) (R_far (p:=⟨gb516,0,none⟩) (R_types HO474.out BK516.out (by decide)) (fun _ hk=>hk.2) (.int .i64 t511)) (fun _ hk=>hk.2) (.bool t512)) (fun _ h_=>h_.1))))) (R_lt (by (with_reducible repeat (first|apply R_alloc|apply R_drewN|apply R_drew));exact (R_mono (R_far (p:=⟨gb516,1,none⟩) (R_far (p:=⟨gb516,0,none⟩) (R_types HO515.out BK516.out (by decide)) (fun _ hk=>hk.2) (.int .i64 t511)) (fun _ hk=>hk.2) (.bool t512)) (fun _ h_=>h_.1))))) (below_size (h2 HB.out GE475.out GE516.out)));replace HO474:=ak (R_elder' (by (with_reducible repeat (first|apply R_alloc|apply R_drewN|apply R_drew));exact (R_mono (R_far (p:=⟨gb516,1,none⟩) (R_far (p:=⟨gb516,0,none⟩) (R_types HO474.out BK516.out (by decide)) (fun _ hk=>hk.2) (.int .i64 t511)) (fun _ hk=>hk.2) (.bool t512)) (fun _ h_=>h_.1))) (R_base ho0) hb);replace HO515:=ak (R_elder' (by (with_reducible repeat (first|apply R_alloc|apply R_drewN|apply R_drew));exact (R_mono (R_far (p:=⟨gb516,1,none⟩) (R_far (p:=⟨gb516,0,none⟩) (R_types HO515.out BK516.out (by decide)) (fun _ hk=>hk.2) (.int .i64 t511)) (fun _ hk=>hk.2) (.bool t512)) (fun _ h_=>h_.1))) (R_base ho0) hb);replace BK475:=ak (blk_below (g:=gb475) (o:=.cells #[.int .i64 t470,.bool t471] 28 (0,0)) (by (with_reducible repeat (first|apply blk_drewN|apply blk_drew|apply blk_alloc));refine blk_far ?_ NB475_516.out _;(with_reducible repeat (first|apply blk_drewN|apply blk_drew|apply blk_alloc));refine blk_far ?_ NB475_516.out _;exact bm BK475.out) hb);replace BK516:=ak (blk_below (g:=gb516) (o:=.cells #[.int .i64 t511,.bool t512] 28 (0,0)) (by (with_reducible repeat (first|apply blk_drewN|apply blk_drew|apply blk_alloc));refine blk_put (cs:=#[.int .i64 t511,.bool false]) ?_ 1 _ rfl;(with_reducible repeat (first|apply blk_drewN|apply blk_drew|apply blk_alloc));refine blk_put (cs:=#[.int .i64 0,.bool false]) ?_ 0 _ rfl;exact bm BK516.out) hb);replace HB:=ak (below_step (h2 HB.out GE475.out GE516.out) hb);(try clear hb);(try clear hk);(try clear hi);(try clear ho0);have hcz51_0 : w50.cell? ⟨gb516,0,none⟩ = some (.int .i64 t511):=(blk_cell BK516.out 0).trans rfl;have hcz51_1 : w50.cell? ⟨gb516,1,none⟩ = some (.bool t512):=(blk_cell BK516.out 1).trans rfl;have hfz51_0:=blk_frozen BK516.out 0;have hfz51_1:=blk_frozen BK516.out 1)|((with_reducible refine gate_callee (f:=16) rfl ?_);refine goesL_ (some 130) rfl rfl Try.func16 (by kernel_rfl) rfl #[.agg #[.int .i64 t511,.bool t512],.slice Ao49 t513.length co49] rfl gl ?_;(with_reducible refine (spec_MirrorSensors.calls k t511 t512 _ _ t513 t521 t524 _ ?side1 ?side2 A18.out).mono ?_);(case side1=>exact cm (R_reads' HO515.out).2.2);(case side2=>exact (R_reads' HO515.out).2.1);rintro e w52 ⟨v522,rfl,ho0,hb⟩;refine ⟨_,rfl,?_⟩;replace HO478:=rb HO478 hb;replace HO482:=rb HO482 hb;replace HO486:=rb HO486 hb;replace HO490:=rb HO490 hb;replace HO498:=rb HO498 hb;replace HO502:=rb HO502 hb;replace HO510:=rb HO510 hb;have HO523:=ak (R_lower (R_new' (R_new' (R_new' ho0 (R_lt (rm HO474.out))) (R_lt (rm HO515.out))) (R_lt (rm HO519.out))) (below_size (h2 HB.out GE475.out GE516.out)));replace HO474:=ak (R_elder' (rm HO474.out) (R_base ho0) hb);replace HO515:=ak (R_elder' (rm HO515.out) (R_base ho0) hb);replace HO519:=ak (R_elder' (rm HO519.out) (R_base ho0) hb);replace BK475:=kb BK475 hb;replace BK516:=kb BK516 hb;replace HB:=ak (below_step (h2 HB.out GE475.out GE516.out) hb);(try clear hb);(try clear hk);(try clear hi);(try clear ho0)))
  (try simp only [ap])
  go_cut [202] (fun v202 wc=>∃ (kq : Nat) (x202_18 : Bool),v202 = .bool x202_18 ∧ Aside0 (laws_FnSensors.j0 kq t472 t476 t479 t484 t492 t496 t513 t517 t520 x202_18 t470 t471 t511 t512 = some r) ∧ Aside0 (kq ≤ k) ∧ Aside0 (Kd.R k59 59 wc w.heap.size (fun k_=>ob k_ (.slice Ao49 t513.length co49) ∧ ob k_ v518) (.slice Ao23 t472.length co23) t472) ∧ Aside0 (Kd.R (Kd.int .i64) 3 wc w.heap.size (fun k_=>ob k_ v497) v477 t476) ∧ Aside0 (Kd.R k54 54 wc w.heap.size (fun _=>True) v485 t484) ∧ Aside0 (Kd.R (Kd.int .i64) 3 wc w.heap.size (fun k_=>ob k_ v477) v497 t496) ∧ Aside0 (Kd.R k59 59 wc w.heap.size (fun k_=>ob k_ (.slice Ao23 t472.length co23) ∧ ob k_ v518) (.slice Ao49 t513.length co49) t513) ∧ Aside0 (Kd.R k59 59 wc w.heap.size (fun k_=>ob k_ (.slice Ao23 t472.length co23) ∧ ob k_ (.slice Ao49 t513.length co49)) v518 t517) ∧ Aside0 (wc.heap[gb475]? = some (.cells #[.int .i64 t470,.bool t471] 28 (0,0))) ∧ Aside0 (wc.heap[gb516]? = some (.cells #[.int .i64 t511,.bool t512] 28 (0,0))) ∧ Aside0 (Below w.heap.size w wc))
  case first =>
   rename_i i0_ i1_ i2_ i3_ i4_ i5_ i6_ i7_ i8_ i9_
   generalize (Exit.then i2_ i0_) = E_
   revert hu28 HR0 HC0 A2 t470 t471 t472 A4 t476 t479 A5 t480 t483 A6 t484 t487 A7 t488 t491 A8 t492 t493 A9 t494 t495 A10 t496 t499 A11 t500 t503 A12 t504 t505 A13 t506 t507 A14 t508 A15 t511 t512 t513 A16 t517 t520 A17 t521 t524 A18 HC19 nd w20 gb475 w21 GW475 GE475 hcz22_0 hcz22_1 hfz22_0 hfz22_1 Ao23 co23 w24 v477 hcz25_0 hcz25_1 hfz25_0 hfz25_1 w26 v481 hcz27_0 hcz27_1 hfz27_0 hfz27_1 w28 v485 hcz29_0 hcz29_1 hfz29_0 hfz29_1 w30 v489 hcz31_0 hcz31_1 hfz31_0 hfz31_1 w32 hcz33_0 hcz33_1 hfz33_0 hfz33_1 w34 hcz35_0 hcz35_1 hfz35_0 hfz35_1 w36 v497 hcz37_0 hcz37_1 hfz37_0 hfz37_1 w38 v501 hcz39_0 hcz39_1 hfz39_0 hfz39_1 w40 hcz41_0 hcz41_1 hfz41_0 hfz41_1 w42 w43 Ao44 co44 w45 gb516 w46 GW516 GE516 NB475_516 NB516_475 hnb47 hnc47 hcz48_0 hcz48_1 hfz48_0 hfz48_1 Ao49 co49 w50 v518 hcz51_0 hcz51_1 hfz51_0 hfz51_1 w52 v522 HO478 HO482 HO486 HO490 HO498 HO502 HO510 HO523 HO474 HO515 HO519 BK475 BK516 HB i6_ i7_ i8_ i9_ E_
   exact hG_.out
  clear HC19
  try clear c1
  try clear c2
  try clear p2
  try clear c3
  try clear c4
  try clear c5
  try clear c6
  try clear c7
  try clear c8
  try clear c9
  try clear c11
  try clear c14
  try clear c16
  try clear c17
  try clear c20
  try clear c21
  try clear c22
  try clear c23
  try clear c27
  try clear c28
  try clear c32
  try clear c33
  try clear c34
  try clear c35
  try clear c36
  try clear c37
  try clear c47
  try clear c53
  try clear c53b0
  try clear c53b1
  try clear c53b2
  try clear c55
  try clear c56
  try clear c56b0
  try clear c56b1
  try clear c56b2
  try clear c60
  try clear c61
  try clear c61b0
  try clear c61b1
  try clear c62
  try clear c62b0
  try clear c62b1
  try clear c62b2
  try clear c67
  try clear c67b0
  try clear c67b1
  try clear c67b2
  try clear c73
  try clear c74
  try clear c74b0
  try clear c74b1
  try clear c74b2
  try clear c81
  try clear c81b0
  try clear c81b1
  try clear c81b2
  try clear c88
  try clear c88b0
  try clear c88b1
  try clear c88b2
  try clear c96
  try clear c97
  try clear hcz22_0
  try clear hcz22_1
  try clear hcz25_0
  try clear hcz25_1
  try clear hcz27_0
  try clear hcz27_1
  try clear hcz29_0
  try clear hcz29_1
  try clear hcz31_0
  try clear hcz31_1
  try clear hcz33_0
  try clear hcz33_1
  try clear hcz35_0
  try clear hcz35_1
  try clear hcz37_0
  try clear hcz37_1
  try clear hcz39_0
  try clear hcz39_1
  try clear hcz41_0
  try clear hcz41_1
  try clear hcz48_0
  try clear hcz48_1
  try clear hcz51_0
  try clear hcz51_1
  try clear hfz22_0
  try clear hfz22_1
  try clear hfz25_0
  try clear hfz25_1
  try clear hfz27_0
  try clear hfz27_1
  try clear hfz29_0
  try clear hfz29_1
  try clear hfz31_0
  try clear hfz31_1
  try clear hfz33_0
  try clear hfz33_1
  try clear hfz35_0
  try clear hfz35_1
  try clear hfz37_0
  try clear hfz37_1
  try clear hfz39_0
  try clear hfz39_1
  try clear hfz41_0
  try clear hfz41_1
  try clear hfz48_0
  try clear hfz48_1
  try clear hfz51_0
  try clear hfz51_1
  obtain ⟨kq,x202_18,rfl,HA,HJ18,HO_4,HO_5,HO_9,HO_17,HO_26,HO_27,BK475,BK516,HB⟩:=hcut
  cases kq with
  | zero=>exact absurd HA.out (by simp [laws_FnSensors.j0])
  | succ kj18 =>
   have H:=HA.out
   clear HA
   simp only [laws_FnSensors.j0] at H
   by_cases c138 : x202_18 = true
   ·subst c138
    rw [if_pos rfl] at H
    as_aux_lemma =>
     clear hG_
     obtain rfl:=Option.some.inj H
     go_wp2
     go_ret
     exact ⟨fe,h2 HB.out GE475.out GE516.out⟩
   replace c138:=Bool.eq_false_iff.mpr c138
   subst c138
   rw [if_neg (show ¬ (false = true) by decide)] at H
   exact laws_FnSensors.rest1 (by assumption) (by assumption) GE475 GE516 NB475_516 NB516_475 HO_4 HO_5 HO_9 HO_17 HO_26 HO_27 BK475 BK516 HB HJ18 H
end
end Go.Proofs.Ytknfhoghimnieaa.QFnSensors
