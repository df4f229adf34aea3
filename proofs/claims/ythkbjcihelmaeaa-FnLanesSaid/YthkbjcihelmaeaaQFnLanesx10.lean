/- Functions that the law FnLanes comes to, as Lean functions, with the proof that the Go code does what they say: written by a program of this session over the kit's print. No condition but those named. -/
import Derived.Test.YthkbjcihelmaeaaQFnLanesx0
import Derived.Test.YthkbjcihelmaeaaQFnLanesx1
import Derived.Test.YthkbjcihelmaeaaQFnLanesx2
import Derived.Test.YthkbjcihelmaeaaQFnLanesx3
import Derived.Test.YthkbjcihelmaeaaQFnLanesx4
import Derived.Test.YthkbjcihelmaeaaQFnLanesx5
import Derived.Test.YthkbjcihelmaeaaQFnLanesx6
import Derived.Test.YthkbjcihelmaeaaQFnLanesx7
import Derived.Test.YthkbjcihelmaeaaQFnLanesx8
import Derived.Test.YthkbjcihelmaeaaQFnLanesx9
namespace Go.Proofs.Ythkbjcihelmaeaa.QFnLanes
open Go.RowKit Go.Proofs.YthkbjcihelmaeaaW.PrintWords Go.Proofs.YthkbjcihelmaeaaW.PrintLast Go.Proofs.YthkbjcihelmaeaaW.PrintMore Go.Proofs.Ythkbjcihelmaeaa.Short
attribute [local go_sem] max2_int min2_int max_two min_two max_three min_three max_four min_four   -- for this text's walks alone
set_option linter.unusedVariables false
set_option linter.unusedSimpArgs false

section
open Kd
set_option maxHeartbeats 8000000 in
set_option maxRecDepth 1000000 in
theorem laws_FnLanes.rest8 {k : Nat} {A0 : Option Addr} {c0 : Nat} {l0 : List Int} {r : Bool} {w : World} {t401 t404 : List Int} {t405 : Int} {t406 : Bool} {t410 : Int} {t411 : Bool} {Ao9 : Option Addr} {co9 : Nat} {v407 v412 : Value} {kj6 : Nat} {t416 : Int} {t417 : Bool} {t418 : Int} {t419 : Bool} {kj21 : Nat} {t420 : Int} {t421 : Bool} {t422 : Int} {t423 : Bool} {kj28 : Nat} {t424 : List Int} {t425 t429 : Bool} {v426 v430 : Value} {kj36 : Nat} {t433 : List Int} {t434 t438 : Bool} {v435 v439 : Value} {kj47 : Nat} {t442 : List Int} {t443 : Int} {t446 : List Int} {t447 t451 : Bool} {Ao62 : Option Addr} {co62 : Nat} {v448 v452 : Value} {kj59 : Nat} {t455 : List Int} {t458 t460 : Bool} {v456 v461 : Value} {kj71 : Nat} {t464 : List Int} {t467 t469 : Bool} {v465 v470 : Value} {wc : World} {u49 u50 u51 u52 u53 u54 u55 u56 u57 u58 u59 u60 u61 u62 u63 u64 u65 u66 u67 u68 u69 u70 u71 u72 u73 u74 u75 u76 u77 u78 u79 u80 u81 u82 u83 u84 u85 u86 u87 u88 u89 u90 u91 u92 u93 u94 u95 u96 u97 u98 u99 u100 u101 u102 u103 u104 u105 u106 u107 u108 u109 u110 u111 u112 u113 u114 u115 u116 u117 u118 u119 u120 u121 u122 u123 u124 u125 u126 u127 u128 u129 u130 u131 u132 u133 u134 u135 u136 u137 u138 u139 u140 u141 u142 u143 u144 u145 u146 u147 u148 u149 u150 u151 u152 u153 u154 u155 u156 u157 u158 u159 u160 u161 u162 u163 u164 u165 u166 u167 u168 u169 u170 u171 u172 u173 u174 u175 u176 u177 u178 u179 u180 u181 u182 u183 u184 u185 u186 u187 u188 u189 u190 u191 u192 u193 u194 u195 u196 u197 u198 u199 u200 u201 u202 u203 u204 u205 u206 u207 u208 u209 u210 u211 u212 u213 u214 u215 u216 u217 u218 u219 u220 u221 u222 u223 u224 u225 u226 u227 u228 u229 u230 u231 u232 u233 u234 u235 u236 u237 u238 u239 u240 u241 u242 u243 u244 u245 u246 u247 u248 u249 u250 u251 u252 u253 u254 u255 u257 u258 u259 u260 u261 u262 u263 u264 u265 u266 u267 u268 u269 u270 u271 u272 u273 u274 u275 u276 u277 u278 u279 u280 u281 u282 u283 u284 u285 u286 u287 u288 u289 u290 u291 u292 u293 u294 u295 u296 u297 u298 u299 u300 u301 u302 u303 u304 u305 u306 u307 u308 u309 u310 u311 u312 u313 u314 u315 u316 u317 u318 u319 u320 u321 u322 u323 u324 u325 u326 u327 u328 u329 u330 u331 u332 u333 u334 u335 u336 u337 u338 u339 u340 u341 u342 u343 u344 u345 u346 u347 u348 u349 u350 u351 u352 u353 u354 u355 u356 u357 u358 u359 u360 u361 u362 u363 u364 u365 u366 u367 u368 u369 u370 u371 u372 u373 u374 u375 u376 u377 u378 u379 u380 u381 u382 u383 u384 u385 : Value} {kj82 : Nat} {K1 K : Act → World → Prop} (hK1 : ∀ a w_, Code.wp Try.prog (follow [true, true, true, true, true, true, true, true, true, true, true, true, true, true, true, true, true, true, true, true] (Try.f12.body.getD Code.skip)) (bodyPost Try.prog Try.f12 fun e w' => e = Ending.returned (Value.bool r) ∧ Below w.heap.size w w') a w_ → K1 a w_) (hK : ∀ a w_, Code.wp Try.prog (follow [true, true, true, true, true, true, true, true, true, true, true, true, true, true, true, true, true, true, true, false, true, true] (Try.f12.body.getD Code.skip)) (Exit.then K1 (bodyPost Try.prog Try.f12 fun e w' => e = Ending.returned (Value.bool r) ∧ Below w.heap.size w w')) a w_ → K a w_) (HJ6 : Aside0 (kj6 + 1 ≤ k)) (HJ21 : Aside0 (kj21 + 1 ≤ kj6)) (HJ28 : Aside0 (kj28 + 1 ≤ kj21)) (HJ36 : Aside0 (kj36 + 1 ≤ kj28)) (HJ47 : Aside0 (kj47 + 1 ≤ kj36)) (HJ59 : Aside0 (kj59 + 1 ≤ kj47)) (HJ71 : Aside0 (kj71 + 1 ≤ kj59)) (HO_3 : Aside0 ((int IntKind.i64).R 3 wc w.heap.size (fun k_ => some k_ ≠ v407.ownBlock ∧ some k_ ≠ v426.ownBlock ∧ some k_ ≠ v435.ownBlock ∧ some k_ ≠ (Value.slice Ao62 t442.length co62).ownBlock ∧ some k_ ≠ v448.ownBlock ∧ some k_ ≠ v456.ownBlock ∧ some k_ ≠ v465.ownBlock) (Value.slice Ao9 t401.length co9) t401)) (HO_4 : Aside0 ((int IntKind.i64).R 3 wc w.heap.size (fun k_ => some k_ ≠ (Value.slice Ao9 t401.length co9).ownBlock ∧ some k_ ≠ v426.ownBlock ∧ some k_ ≠ v435.ownBlock ∧ some k_ ≠ (Value.slice Ao62 t442.length co62).ownBlock ∧ some k_ ≠ v448.ownBlock ∧ some k_ ≠ v456.ownBlock ∧ some k_ ≠ v465.ownBlock) v407 t404)) (HO_18 : Aside0 ((int IntKind.i64).R 3 wc w.heap.size (fun k_ => some k_ ≠ (Value.slice Ao9 t401.length co9).ownBlock ∧ some k_ ≠ v407.ownBlock ∧ some k_ ≠ v435.ownBlock ∧ some k_ ≠ (Value.slice Ao62 t442.length co62).ownBlock ∧ some k_ ≠ v448.ownBlock ∧ some k_ ≠ v456.ownBlock ∧ some k_ ≠ v465.ownBlock) v426 t424)) (HO_22 : Aside0 ((int IntKind.i64).R 3 wc w.heap.size (fun k_ => some k_ ≠ (Value.slice Ao9 t401.length co9).ownBlock ∧ some k_ ≠ v407.ownBlock ∧ some k_ ≠ v426.ownBlock ∧ some k_ ≠ (Value.slice Ao62 t442.length co62).ownBlock ∧ some k_ ≠ v448.ownBlock ∧ some k_ ≠ v456.ownBlock ∧ some k_ ≠ v465.ownBlock) v435 t433)) (HO_26 : Aside0 ((int IntKind.i64).R 3 wc w.heap.size (fun k_ => some k_ ≠ (Value.slice Ao9 t401.length co9).ownBlock ∧ some k_ ≠ v407.ownBlock ∧ some k_ ≠ v426.ownBlock ∧ some k_ ≠ v435.ownBlock ∧ some k_ ≠ v448.ownBlock ∧ some k_ ≠ v456.ownBlock ∧ some k_ ≠ v465.ownBlock) (Value.slice Ao62 t442.length co62) t442)) (HO_28 : Aside0 ((int IntKind.i64).R 3 wc w.heap.size (fun k_ => some k_ ≠ (Value.slice Ao9 t401.length co9).ownBlock ∧ some k_ ≠ v407.ownBlock ∧ some k_ ≠ v426.ownBlock ∧ some k_ ≠ v435.ownBlock ∧ some k_ ≠ (Value.slice Ao62 t442.length co62).ownBlock ∧ some k_ ≠ v456.ownBlock ∧ some k_ ≠ v465.ownBlock) v448 t446)) (HO_32 : Aside0 ((int IntKind.i64).R 3 wc w.heap.size (fun k_ => some k_ ≠ (Value.slice Ao9 t401.length co9).ownBlock ∧ some k_ ≠ v407.ownBlock ∧ some k_ ≠ v426.ownBlock ∧ some k_ ≠ v435.ownBlock ∧ some k_ ≠ (Value.slice Ao62 t442.length co62).ownBlock ∧ some k_ ≠ v448.ownBlock ∧ some k_ ≠ v465.ownBlock) v456 t455)) (HO_36 : Aside0 ((int IntKind.i64).R 3 wc w.heap.size (fun k_ => some k_ ≠ (Value.slice Ao9 t401.length co9).ownBlock ∧ some k_ ≠ v407.ownBlock ∧ some k_ ≠ v426.ownBlock ∧ some k_ ≠ v435.ownBlock ∧ some k_ ≠ (Value.slice Ao62 t442.length co62).ownBlock ∧ some k_ ≠ v448.ownBlock ∧ some k_ ≠ v456.ownBlock) v465 t464)) (HB : Aside0 (Below w.heap.size w wc)) (HJ82 : Aside0 (kj82 + 1 ≤ kj71)) (H : (if t447 = true then (impl_LastFlow.f kj82 t442).bind fun bt473 => if bt473.snd = true then (laws_rSum.f kj82 t446).bind fun t475 => (laws_rSum.f kj82 t442).bind fun t476 => if t475 = t476 then (laws_rSum.f kj82 t442).bind fun t477 => j8 kj82 t401 t404 t405 t406 t420 t424 t433 t442 t446 t455 t464 bt473.fst (↑t464.length != t477) else j8 kj82 t401 t404 t405 t406 t420 t424 t433 t442 t446 t455 t464 bt473.fst true else j8 kj82 t401 t404 t405 t406 t420 t424 t433 t442 t446 t455 t464 bt473.fst true else j11 kj82 t401 t404 t405 t406 t420 t424 t433) = some r) :
  K { tmps := #[Value.slice A0 l0.length c0, undef, Value.bool false, Value.slice Ao9 t401.length co9, v407, Value.int IntKind.i64 t405, Value.bool t406, v412, Value.int IntKind.i64 t410, Value.bool t411, Value.int IntKind.i64 t416, Value.bool t417, Value.int IntKind.i64 t418, Value.bool t419, Value.int IntKind.i64 t420, Value.bool t421, Value.int IntKind.i64 t422, Value.bool t423, v426, Value.bool t425, v430, Value.bool t429, v435, Value.bool t434, v439, Value.bool t438, Value.slice Ao62 t442.length co62, Value.int IntKind.i64 t443, v448, Value.bool t447, v452, Value.bool t451, v456, Value.bool t458, v461, Value.bool t460, v465, Value.bool t467, v470, Value.bool t469, undef, undef, undef, undef, undef, undef, undef, undef, undef, u49, u50, u51, u52, u53, u54, u55, u56, u57, u58, u59, u60, u61, u62, u63, u64, u65, u66, u67, u68, u69, u70, u71, u72, u73, u74, u75, u76, u77, u78, u79, u80, u81, u82, u83, u84, u85, u86, u87, u88, u89, u90, u91, u92, u93, u94, u95, u96, u97, u98, u99, u100, u101, u102, u103, u104, u105, u106, u107, u108, u109, u110, u111, u112, u113, u114, u115, u116, u117, u118, u119, u120, u121, u122, u123, u124, u125, u126, u127, u128, u129, u130, u131, u132, u133, u134, u135, u136, u137, u138, u139, u140, u141, u142, u143, u144, u145, u146, u147, u148, u149, u150, u151, u152, u153, u154, u155, u156, u157, u158, u159, u160, u161, u162, u163, u164, u165, u166, u167, u168, u169, u170, u171, u172, u173, u174, u175, u176, u177, u178, u179, u180, u181, u182, u183, u184, u185, u186, u187, u188, u189, u190, u191, u192, u193, u194, u195, u196, u197, u198, u199, u200, u201, u202, u203, u204, u205, u206, u207, u208, u209, u210, u211, u212, u213, u214, u215, u216, u217, u218, u219, u220, u221, u222, u223, u224, u225, u226, u227, u228, u229, u230, u231, u232, u233, u234, u235, u236, u237, u238, u239, u240, u241, u242, u243, u244, u245, u246, u247, u248, u249, u250, u251, u252, u253, u254, u255, Value.bool false, u257, u258, u259, u260, u261, u262, u263, u264, u265, u266, u267, u268, u269, u270, u271, u272, u273, u274, u275, u276, u277, u278, u279, u280, u281, u282, u283, u284, u285, u286, u287, u288, u289, u290, u291, u292, u293, u294, u295, u296, u297, u298, u299, u300, u301, u302, u303, u304, u305, u306, u307, u308, u309, u310, u311, u312, u313, u314, u315, u316, u317, u318, u319, u320, u321, u322, u323, u324, u325, u326, u327, u328, u329, u330, u331, u332, u333, u334, u335, u336, u337, u338, u339, u340, u341, u342, u343, u344, u345, u346, u347, u348, u349, u350, u351, u352, u353, u354, u355, u356, u357, u358, u359, u360, u361, u362, u363, u364, u365, u366, u367, u368, u369, u370, u371, u372, u373, u374, u375, u376, u377, u378, u379, u380, u381, u382, u383, u384, u385], defers := [] } wc := by
 conv at hK1 => enter [a, w_, 1, 2]; whnf
 conv at hK => enter [a, w_, 1, 2]; whnf
 have HC92:=Aside0.mk H
 clear H
 go_upto_if 257 with (fail)
 repeat (go_quiet (fail);go_upto_if 257 with (fail))
 go_cut [] (fun wc=>∃ (kq : Nat),Aside0 (laws_FnLanes.j11 kq t401 t404 t405 t406 t420 t424 t433 = some r) ∧ Aside0 (kq ≤ kj82) ∧ Aside0 (Kd.R (Kd.int .i64) 3 wc w.heap.size (fun k_=>some k_ ≠ (v407 : Value).ownBlock ∧ some k_ ≠ (v426 : Value).ownBlock ∧ some k_ ≠ (v435 : Value).ownBlock) (.slice Ao9 t401.length co9) t401) ∧ Aside0 (Kd.R (Kd.int .i64) 3 wc w.heap.size (fun k_=>some k_ ≠ ((.slice Ao9 t401.length co9) : Value).ownBlock ∧ some k_ ≠ (v426 : Value).ownBlock ∧ some k_ ≠ (v435 : Value).ownBlock) v407 t404) ∧ Aside0 (Kd.R (Kd.int .i64) 3 wc w.heap.size (fun k_=>some k_ ≠ ((.slice Ao9 t401.length co9) : Value).ownBlock ∧ some k_ ≠ (v407 : Value).ownBlock ∧ some k_ ≠ (v435 : Value).ownBlock) v426 t424) ∧ Aside0 (Kd.R (Kd.int .i64) 3 wc w.heap.size (fun k_=>some k_ ≠ ((.slice Ao9 t401.length co9) : Value).ownBlock ∧ some k_ ≠ (v407 : Value).ownBlock ∧ some k_ ≠ (v426 : Value).ownBlock) v435 t433) ∧ Aside0 (Below w.heap.size w wc))
 case first =>
  have H:=HC92.out
  clear HC92
  by_cases c93 : t447 = true
  rotate_left
  ·replace c93:=Bool.eq_false_iff.mpr c93
   subst c93
   have H1 : (laws_FnLanes.j11 kj82 t401 t404 t405 t406 t420 t424 t433) = some r:=by rw [if_neg (show ¬ (false = true) by decide)] at H;exact H
   clear H
   have H:=H1
   clear H1
   as_aux_lemma =>
    have H':=Aside0.mk H
    clear H
    go_wp2
    repeat (go_quiet (fail);try go_wp2)
    go_meet
    case rel=>exact ⟨_,H',⟨by have:=HJ6.out;have:=HJ21.out;have:=HJ28.out;have:=HJ36.out;have:=HJ47.out;have:=HJ59.out;have:=HJ71.out;have:=HJ82.out;first|omega|exact Nat.le_refl _⟩,⟨rm (R_mono HO_3.out (fun _ hk=>⟨hk.1,⟨hk.2.1,hk.2.2.1⟩⟩))⟩,⟨rm (R_mono HO_4.out (fun _ hk=>⟨hk.1,⟨hk.2.1,hk.2.2.1⟩⟩))⟩,⟨rm (R_mono HO_18.out (fun _ hk=>⟨hk.1,⟨hk.2.1,hk.2.2.1⟩⟩))⟩,⟨rm (R_mono HO_22.out (fun _ hk=>⟨hk.1,⟨hk.2.1,hk.2.2.1⟩⟩))⟩,⟨hm HB.out⟩⟩
  subst c93
  have H1 : ((impl_LastFlow.f kj82 t442).bind fun bt473=>(if bt473.2 = true then ((laws_rSum.f kj82 t446).bind fun t475=>((laws_rSum.f kj82 t442).bind fun t476=>(if t475 = t476 then ((laws_rSum.f kj82 t442).bind fun t477=>(laws_FnLanes.j8 kj82 t401 t404 t405 t406 t420 t424 t433 t442 t446 t455 t464 bt473.1 ((t464.length : Int) != t477))) else (laws_FnLanes.j8 kj82 t401 t404 t405 t406 t420 t424 t433 t442 t446 t455 t464 bt473.1 true)))) else (laws_FnLanes.j8 kj82 t401 t404 t405 t406 t420 t424 t433 t442 t446 t455 t464 bt473.1 true))) = some r:=by rw [if_pos rfl] at H;exact H
  clear H
  have H:=H1
  clear H1
  replace H:=Option.bind_eq_some_iff.mp H
  obtain ⟨⟨t473,t474⟩,A940,H⟩:=H
  replace H : (if t474 = true then ((laws_rSum.f kj82 t446).bind fun t475=>((laws_rSum.f kj82 t442).bind fun t476=>(if t475 = t476 then ((laws_rSum.f kj82 t442).bind fun t477=>(laws_FnLanes.j8 kj82 t401 t404 t405 t406 t420 t424 t433 t442 t446 t455 t464 t473 ((t464.length : Int) != t477))) else (laws_FnLanes.j8 kj82 t401 t404 t405 t406 t420 t424 t433 t442 t446 t455 t464 t473 true)))) else (laws_FnLanes.j8 kj82 t401 t404 t405 t406 t420 t424 t433 t442 t446 t455 t464 t473 true)) = some r:=H
  have A94:=Aside0.mk A940
  clear A940
  have HC95:=Aside0.mk H
  clear H
  go_upto_region 39 with (first|(go_at_call 18;(with_reducible refine (impl_LastFlow.calls kj82 _ _ t442 t473 t474 _ ?side1 ?side2 A94.out).mono ?_);(case side1=>exact cm (R_reads' HO_26.out).2.2);(case side2=>exact (R_reads' HO_26.out).2.1);rintro e w96 ⟨rfl,hb⟩;have n0_:=Aside0.mk (R_below (rm HO_3.out) hb);have n1_:=Aside0.mk (R_below (rm HO_4.out) hb);have n2_:=Aside0.mk (R_below (rm HO_18.out) hb);have n3_:=Aside0.mk (R_below (rm HO_22.out) hb);have n4_:=Aside0.mk (R_below (rm HO_26.out) hb);have n5_:=Aside0.mk (R_below (rm HO_28.out) hb);have n6_:=Aside0.mk (R_below (rm HO_32.out) hb);have n7_:=Aside0.mk (R_below (rm HO_36.out) hb);have n8_:=Aside0.mk (below_step (hm HB.out) hb);clear HO_3;clear HO_4;clear HO_18;clear HO_22;clear HO_26;clear HO_28;clear HO_32;clear HO_36;clear HB;have HO_3:=n0_;have HO_4:=n1_;have HO_18:=n2_;have HO_22:=n3_;have HO_26:=n4_;have HO_28:=n5_;have HO_32:=n6_;have HO_36:=n7_;have HB:=n8_;clear n0_ n1_ n2_ n3_ n4_ n5_ n6_ n7_ n8_;(try clear hb);(try clear hb2);(try clear hk);(try clear hi)))
  repeat (go_quiet (fail);go_upto_region 39 with (first|(go_at_call 18;(with_reducible refine (impl_LastFlow.calls kj82 _ _ t442 t473 t474 _ ?side1 ?side2 A94.out).mono ?_);(case side1=>exact cm (R_reads' HO_26.out).2.2);(case side2=>exact (R_reads' HO_26.out).2.1);rintro e w96 ⟨rfl,hb⟩;have n0_:=Aside0.mk (R_below (rm HO_3.out) hb);have n1_:=Aside0.mk (R_below (rm HO_4.out) hb);have n2_:=Aside0.mk (R_below (rm HO_18.out) hb);have n3_:=Aside0.mk (R_below (rm HO_22.out) hb);have n4_:=Aside0.mk (R_below (rm HO_26.out) hb);have n5_:=Aside0.mk (R_below (rm HO_28.out) hb);have n6_:=Aside0.mk (R_below (rm HO_32.out) hb);have n7_:=Aside0.mk (R_below (rm HO_36.out) hb);have n8_:=Aside0.mk (below_step (hm HB.out) hb);clear HO_3;clear HO_4;clear HO_18;clear HO_22;clear HO_26;clear HO_28;clear HO_32;clear HO_36;clear HB;have HO_3:=n0_;have HO_4:=n1_;have HO_18:=n2_;have HO_22:=n3_;have HO_26:=n4_;have HO_28:=n5_;have HO_32:=n6_;have HO_36:=n7_;have HB:=n8_;clear n0_ n1_ n2_ n3_ n4_ n5_ n6_ n7_ n8_;(try clear hb);(try clear hb2);(try clear hk);(try clear hi))))
  (try simp only [ap])
  go_cut [278] (fun v278 wc=>∃ (kq : Nat) (x278_94 : Bool),v278 = .bool x278_94 ∧ Aside0 (laws_FnLanes.j8 kq t401 t404 t405 t406 t420 t424 t433 t442 t446 t455 t464 t473 x278_94 = some r) ∧ Aside0 (kq ≤ kj82) ∧ Aside0 (Kd.R (Kd.int .i64) 3 wc w.heap.size (fun k_=>some k_ ≠ (v407 : Value).ownBlock ∧ some k_ ≠ (v426 : Value).ownBlock ∧ some k_ ≠ (v435 : Value).ownBlock ∧ some k_ ≠ ((.slice Ao62 t442.length co62) : Value).ownBlock ∧ some k_ ≠ (v448 : Value).ownBlock ∧ some k_ ≠ (v456 : Value).ownBlock ∧ some k_ ≠ (v465 : Value).ownBlock) (.slice Ao9 t401.length co9) t401) ∧ Aside0 (Kd.R (Kd.int .i64) 3 wc w.heap.size (fun k_=>some k_ ≠ ((.slice Ao9 t401.length co9) : Value).ownBlock ∧ some k_ ≠ (v426 : Value).ownBlock ∧ some k_ ≠ (v435 : Value).ownBlock ∧ some k_ ≠ ((.slice Ao62 t442.length co62) : Value).ownBlock ∧ some k_ ≠ (v448 : Value).ownBlock ∧ some k_ ≠ (v456 : Value).ownBlock ∧ some k_ ≠ (v465 : Value).ownBlock) v407 t404) ∧ Aside0 (Kd.R (Kd.int .i64) 3 wc w.heap.size (fun k_=>some k_ ≠ ((.slice Ao9 t401.length co9) : Value).ownBlock ∧ some k_ ≠ (v407 : Value).ownBlock ∧ some k_ ≠ (v435 : Value).ownBlock ∧ some k_ ≠ ((.slice Ao62 t442.length co62) : Value).ownBlock ∧ some k_ ≠ (v448 : Value).ownBlock ∧ some k_ ≠ (v456 : Value).ownBlock ∧ some k_ ≠ (v465 : Value).ownBlock) v426 t424) ∧ Aside0 (Kd.R (Kd.int .i64) 3 wc w.heap.size (fun k_=>some k_ ≠ ((.slice Ao9 t401.length co9) : Value).ownBlock ∧ some k_ ≠ (v407 : Value).ownBlock ∧ some k_ ≠ (v426 : Value).ownBlock ∧ some k_ ≠ ((.slice Ao62 t442.length co62) : Value).ownBlock ∧ some k_ ≠ (v448 : Value).ownBlock ∧ some k_ ≠ (v456 : Value).ownBlock ∧ some k_ ≠ (v465 : Value).ownBlock) v435 t433) ∧ Aside0 (Kd.R (Kd.int .i64) 3 wc w.heap.size (fun k_=>some k_ ≠ ((.slice Ao9 t401.length co9) : Value).ownBlock ∧ some k_ ≠ (v407 : Value).ownBlock ∧ some k_ ≠ (v426 : Value).ownBlock ∧ some k_ ≠ (v435 : Value).ownBlock ∧ some k_ ≠ (v448 : Value).ownBlock ∧ some k_ ≠ (v456 : Value).ownBlock ∧ some k_ ≠ (v465 : Value).ownBlock) (.slice Ao62 t442.length co62) t442) ∧ Aside0 (Kd.R (Kd.int .i64) 3 wc w.heap.size (fun k_=>some k_ ≠ ((.slice Ao9 t401.length co9) : Value).ownBlock ∧ some k_ ≠ (v407 : Value).ownBlock ∧ some k_ ≠ (v426 : Value).ownBlock ∧ some k_ ≠ (v435 : Value).ownBlock ∧ some k_ ≠ ((.slice Ao62 t442.length co62) : Value).ownBlock ∧ some k_ ≠ (v456 : Value).ownBlock ∧ some k_ ≠ (v465 : Value).ownBlock) v448 t446) ∧ Aside0 (Kd.R (Kd.int .i64) 3 wc w.heap.size (fun k_=>some k_ ≠ ((.slice Ao9 t401.length co9) : Value).ownBlock ∧ some k_ ≠ (v407 : Value).ownBlock ∧ some k_ ≠ (v426 : Value).ownBlock ∧ some k_ ≠ (v435 : Value).ownBlock ∧ some k_ ≠ ((.slice Ao62 t442.length co62) : Value).ownBlock ∧ some k_ ≠ (v448 : Value).ownBlock ∧ some k_ ≠ (v465 : Value).ownBlock) v456 t455) ∧ Aside0 (Kd.R (Kd.int .i64) 3 wc w.heap.size (fun k_=>some k_ ≠ ((.slice Ao9 t401.length co9) : Value).ownBlock ∧ some k_ ≠ (v407 : Value).ownBlock ∧ some k_ ≠ (v426 : Value).ownBlock ∧ some k_ ≠ (v435 : Value).ownBlock ∧ some k_ ≠ ((.slice Ao62 t442.length co62) : Value).ownBlock ∧ some k_ ≠ (v448 : Value).ownBlock ∧ some k_ ≠ (v456 : Value).ownBlock) v465 t464) ∧ Aside0 (Below w.heap.size w wc))
  case first =>
   have H:=HC95.out
   clear HC95
   by_cases c97 : t474 = true
   rotate_left
   ·replace c97:=Bool.eq_false_iff.mpr c97
    subst c97
    have H1 : (laws_FnLanes.j8 kj82 t401 t404 t405 t406 t420 t424 t433 t442 t446 t455 t464 t473 true) = some r:=by rw [if_neg (show ¬ (false = true) by decide)] at H;exact H
    clear H
    have H:=H1
    clear H1
    as_aux_lemma =>
     have H':=Aside0.mk H
     clear H
     go_wp2
     repeat (go_quiet (fail);try go_wp2)
     go_meet
     case rel=>exact ⟨_,(true),(by first|rfl|(simp;done)|(simp [*];done)),H',⟨by have:=HJ6.out;have:=HJ21.out;have:=HJ28.out;have:=HJ36.out;have:=HJ47.out;have:=HJ59.out;have:=HJ71.out;have:=HJ82.out;first|omega|exact Nat.le_refl _⟩,⟨rm HO_3.out⟩,⟨rm HO_4.out⟩,⟨rm HO_18.out⟩,⟨rm HO_22.out⟩,⟨rm HO_26.out⟩,⟨rm HO_28.out⟩,⟨rm HO_32.out⟩,⟨rm HO_36.out⟩,⟨hm HB.out⟩⟩
   subst c97
   have H1 : ((laws_rSum.f kj82 t446).bind fun t475=>((laws_rSum.f kj82 t442).bind fun t476=>(if t475 = t476 then ((laws_rSum.f kj82 t442).bind fun t477=>(laws_FnLanes.j8 kj82 t401 t404 t405 t406 t420 t424 t433 t442 t446 t455 t464 t473 ((t464.length : Int) != t477))) else (laws_FnLanes.j8 kj82 t401 t404 t405 t406 t420 t424 t433 t442 t446 t455 t464 t473 true)))) = some r:=by rw [if_pos rfl] at H;exact H
   clear H
   have H:=H1
   clear H1
   replace H:=Option.bind_eq_some_iff.mp H
   obtain ⟨t475,A980,H⟩:=H
   replace H : ((laws_rSum.f kj82 t442).bind fun t476=>(if t475 = t476 then ((laws_rSum.f kj82 t442).bind fun t477=>(laws_FnLanes.j8 kj82 t401 t404 t405 t406 t420 t424 t433 t442 t446 t455 t464 t473 ((t464.length : Int) != t477))) else (laws_FnLanes.j8 kj82 t401 t404 t405 t406 t420 t424 t433 t442 t446 t455 t464 t473 true))) = some r:=H
   have A98:=Aside0.mk A980
   clear A980
   replace H:=Option.bind_eq_some_iff.mp H
   obtain ⟨t476,A990,H⟩:=H
   replace H : (if t475 = t476 then ((laws_rSum.f kj82 t442).bind fun t477=>(laws_FnLanes.j8 kj82 t401 t404 t405 t406 t420 t424 t433 t442 t446 t455 t464 t473 ((t464.length : Int) != t477))) else (laws_FnLanes.j8 kj82 t401 t404 t405 t406 t420 t424 t433 t442 t446 t455 t464 t473 true)) = some r:=H
   have A99:=Aside0.mk A990
   clear A990
   by_cases c100 : t475 = t476
   rotate_left
   ·rw [if_neg c100] at H
    have c100b0 : (t475 == t476) = false:=beq_eq_false_iff_ne.mpr c100
    have c100b1 : (t475 != t476) = true:=bne_iff_ne.mpr c100
    (first|rw [c100b0]|(simp only [i64_w,i32_w];rw [c100b0])|skip)
    as_aux_lemma =>
     have H':=Aside0.mk H
     clear H
     obtain ⟨Ao104,co104,eo104⟩:=R_slice HO_28.out
     subst eo104
     go_wp2_with (first|(go_at_call 39;(with_reducible refine (laws_rSum.calls kj82 _ _ t446 t475 _ ?side1 ?side2 A98.out).mono ?_);(case side1=>exact cm (R_reads' HO_28.out).2.2);(case side2=>exact (R_reads' HO_28.out).2.1);rintro e w' ⟨rfl,⟨nd,rfl⟩⟩;(try first|exact ⟨rfl,_,World.drewN_drewN _ _ _⟩|exact ⟨rfl,_,Eq.trans (World.drewN_drewN _ _ _) (congrArg (World.drewN _) (Nat.add_assoc _ _ _))⟩))|(go_at_call 39;(with_reducible refine (laws_rSum.calls kj82 _ _ t442 t476 _ ?side1 ?side2 A99.out).mono ?_);(case side1=>exact cm (R_reads' HO_26.out).2.2);(case side2=>exact (R_reads' HO_26.out).2.1);rintro e w' ⟨rfl,⟨nd,rfl⟩⟩;(try first|exact ⟨rfl,_,World.drewN_drewN _ _ _⟩|exact ⟨rfl,_,Eq.trans (World.drewN_drewN _ _ _) (congrArg (World.drewN _) (Nat.add_assoc _ _ _))⟩)))
     repeat (go_quiet (first|(go_at_call 39;(with_reducible refine (laws_rSum.calls kj82 _ _ t446 t475 _ ?side1 ?side2 A98.out).mono ?_);(case side1=>exact cm (R_reads' HO_28.out).2.2);(case side2=>exact (R_reads' HO_28.out).2.1);rintro e w' ⟨rfl,⟨nd,rfl⟩⟩;(try first|exact ⟨rfl,_,World.drewN_drewN _ _ _⟩|exact ⟨rfl,_,Eq.trans (World.drewN_drewN _ _ _) (congrArg (World.drewN _) (Nat.add_assoc _ _ _))⟩))|(go_at_call 39;(with_reducible refine (laws_rSum.calls kj82 _ _ t442 t476 _ ?side1 ?side2 A99.out).mono ?_);(case side1=>exact cm (R_reads' HO_26.out).2.2);(case side2=>exact (R_reads' HO_26.out).2.1);rintro e w' ⟨rfl,⟨nd,rfl⟩⟩;(try first|exact ⟨rfl,_,World.drewN_drewN _ _ _⟩|exact ⟨rfl,_,Eq.trans (World.drewN_drewN _ _ _) (congrArg (World.drewN _) (Nat.add_assoc _ _ _))⟩)));try go_wp2_with (first|(go_at_call 39;(with_reducible refine (laws_rSum.calls kj82 _ _ t446 t475 _ ?side1 ?side2 A98.out).mono ?_);(case side1=>exact cm (R_reads' HO_28.out).2.2);(case side2=>exact (R_reads' HO_28.out).2.1);rintro e w' ⟨rfl,⟨nd,rfl⟩⟩;(try first|exact ⟨rfl,_,World.drewN_drewN _ _ _⟩|exact ⟨rfl,_,Eq.trans (World.drewN_drewN _ _ _) (congrArg (World.drewN _) (Nat.add_assoc _ _ _))⟩))|(go_at_call 39;(with_reducible refine (laws_rSum.calls kj82 _ _ t442 t476 _ ?side1 ?side2 A99.out).mono ?_);(case side1=>exact cm (R_reads' HO_26.out).2.2);(case side2=>exact (R_reads' HO_26.out).2.1);rintro e w' ⟨rfl,⟨nd,rfl⟩⟩;(try first|exact ⟨rfl,_,World.drewN_drewN _ _ _⟩|exact ⟨rfl,_,Eq.trans (World.drewN_drewN _ _ _) (congrArg (World.drewN _) (Nat.add_assoc _ _ _))⟩))))
     go_meet
     case rel=>exact ⟨_,(true),(by first|rfl|(simp;done)|(simp [*];done)),H',⟨by have:=HJ6.out;have:=HJ21.out;have:=HJ28.out;have:=HJ36.out;have:=HJ47.out;have:=HJ59.out;have:=HJ71.out;have:=HJ82.out;first|omega|exact Nat.le_refl _⟩,⟨rm HO_3.out⟩,⟨rm HO_4.out⟩,⟨rm HO_18.out⟩,⟨rm HO_22.out⟩,⟨rm HO_26.out⟩,⟨rm HO_28.out⟩,⟨rm HO_32.out⟩,⟨rm HO_36.out⟩,⟨hm HB.out⟩⟩
   rw [if_pos c100] at H
   have c100b0 : (t475 == t476) = true:=beq_iff_eq.mpr c100
   have c100b1 : (t475 != t476) = false:=bne_eq_false_iff_eq.mpr c100
   clear c100
   (first|rw [c100b0]|(simp only [i64_w,i32_w];rw [c100b0])|skip)
   replace H:=Option.bind_eq_some_iff.mp H
   obtain ⟨t477,A1010,H⟩:=H
   replace H : (laws_FnLanes.j8 kj82 t401 t404 t405 t406 t420 t424 t433 t442 t446 t455 t464 t473 ((t464.length : Int) != t477)) = some r:=H
   have A101:=Aside0.mk A1010
   clear A1010
   as_aux_lemma =>
    have H':=Aside0.mk H
    clear H
    obtain ⟨Ao102,co102,eo102⟩:=R_slice HO_28.out
    subst eo102
    go_wp2_with (first|(go_at_call 39;(with_reducible refine (laws_rSum.calls kj82 _ _ t446 t475 _ ?side1 ?side2 A98.out).mono ?_);(case side1=>exact cm (R_reads' HO_28.out).2.2);(case side2=>exact (R_reads' HO_28.out).2.1);rintro e w' ⟨rfl,⟨nd,rfl⟩⟩;(try first|exact ⟨rfl,_,World.drewN_drewN _ _ _⟩|exact ⟨rfl,_,Eq.trans (World.drewN_drewN _ _ _) (congrArg (World.drewN _) (Nat.add_assoc _ _ _))⟩))|(go_at_call 39;(with_reducible refine (laws_rSum.calls kj82 _ _ t442 t476 _ ?side1 ?side2 A99.out).mono ?_);(case side1=>exact cm (R_reads' HO_26.out).2.2);(case side2=>exact (R_reads' HO_26.out).2.1);rintro e w' ⟨rfl,⟨nd,rfl⟩⟩;(try first|exact ⟨rfl,_,World.drewN_drewN _ _ _⟩|exact ⟨rfl,_,Eq.trans (World.drewN_drewN _ _ _) (congrArg (World.drewN _) (Nat.add_assoc _ _ _))⟩);obtain ⟨Ao103,co103,eo103⟩:=R_slice HO_36.out;subst eo103)|(go_at_call 39;(with_reducible refine (laws_rSum.calls kj82 _ _ t442 t477 _ ?side1 ?side2 A101.out).mono ?_);(case side1=>exact cm (R_reads' HO_26.out).2.2);(case side2=>exact (R_reads' HO_26.out).2.1);rintro e w' ⟨rfl,⟨nd,rfl⟩⟩;(try first|exact ⟨rfl,_,World.drewN_drewN _ _ _⟩|exact ⟨rfl,_,Eq.trans (World.drewN_drewN _ _ _) (congrArg (World.drewN _) (Nat.add_assoc _ _ _))⟩)))
    repeat (go_quiet (first|(go_at_call 39;(with_reducible refine (laws_rSum.calls kj82 _ _ t446 t475 _ ?side1 ?side2 A98.out).mono ?_);(case side1=>exact cm (R_reads' HO_28.out).2.2);(case side2=>exact (R_reads' HO_28.out).2.1);rintro e w' ⟨rfl,⟨nd,rfl⟩⟩;(try first|exact ⟨rfl,_,World.drewN_drewN _ _ _⟩|exact ⟨rfl,_,Eq.trans (World.drewN_drewN _ _ _) (congrArg (World.drewN _) (Nat.add_assoc _ _ _))⟩))|(go_at_call 39;(with_reducible refine (laws_rSum.calls kj82 _ _ t442 t476 _ ?side1 ?side2 A99.out).mono ?_);(case side1=>exact cm (R_reads' HO_26.out).2.2);(case side2=>exact (R_reads' HO_26.out).2.1);rintro e w' ⟨rfl,⟨nd,rfl⟩⟩;(try first|exact ⟨rfl,_,World.drewN_drewN _ _ _⟩|exact ⟨rfl,_,Eq.trans (World.drewN_drewN _ _ _) (congrArg (World.drewN _) (Nat.add_assoc _ _ _))⟩);obtain ⟨Ao103,co103,eo103⟩:=R_slice HO_36.out;subst eo103)|(go_at_call 39;(with_reducible refine (laws_rSum.calls kj82 _ _ t442 t477 _ ?side1 ?side2 A101.out).mono ?_);(case side1=>exact cm (R_reads' HO_26.out).2.2);(case side2=>exact (R_reads' HO_26.out).2.1);rintro e w' ⟨rfl,⟨nd,rfl⟩⟩;(try first|exact ⟨rfl,_,World.drewN_drewN _ _ _⟩|exact ⟨rfl,_,Eq.trans (World.drewN_drewN _ _ _) (congrArg (World.drewN _) (Nat.add_assoc _ _ _))⟩)));try go_wp2_with (first|(go_at_call 39;(with_reducible refine (laws_rSum.calls kj82 _ _ t446 t475 _ ?side1 ?side2 A98.out).mono ?_);(case side1=>exact cm (R_reads' HO_28.out).2.2);(case side2=>exact (R_reads' HO_28.out).2.1);rintro e w' ⟨rfl,⟨nd,rfl⟩⟩;(try first|exact ⟨rfl,_,World.drewN_drewN _ _ _⟩|exact ⟨rfl,_,Eq.trans (World.drewN_drewN _ _ _) (congrArg (World.drewN _) (Nat.add_assoc _ _ _))⟩))|(go_at_call 39;(with_reducible refine (laws_rSum.calls kj82 _ _ t442 t476 _ ?side1 ?side2 A99.out).mono ?_);(case side1=>exact cm (R_reads' HO_26.out).2.2);(case side2=>exact (R_reads' HO_26.out).2.1);rintro e w' ⟨rfl,⟨nd,rfl⟩⟩;(try first|exact ⟨rfl,_,World.drewN_drewN _ _ _⟩|exact ⟨rfl,_,Eq.trans (World.drewN_drewN _ _ _) (congrArg (World.drewN _) (Nat.add_assoc _ _ _))⟩);obtain ⟨Ao103,co103,eo103⟩:=R_slice HO_36.out;subst eo103)|(go_at_call 39;(with_reducible refine (laws_rSum.calls kj82 _ _ t442 t477 _ ?side1 ?side2 A101.out).mono ?_);(case side1=>exact cm (R_reads' HO_26.out).2.2);(case side2=>exact (R_reads' HO_26.out).2.1);rintro e w' ⟨rfl,⟨nd,rfl⟩⟩;(try first|exact ⟨rfl,_,World.drewN_drewN _ _ _⟩|exact ⟨rfl,_,Eq.trans (World.drewN_drewN _ _ _) (congrArg (World.drewN _) (Nat.add_assoc _ _ _))⟩))))
    go_meet
    case rel=>exact ⟨_,(((t464.length : Int) != t477)),(by first|rfl|(simp;done)|(simp [*];done)),H',⟨by have:=HJ6.out;have:=HJ21.out;have:=HJ28.out;have:=HJ36.out;have:=HJ47.out;have:=HJ59.out;have:=HJ71.out;have:=HJ82.out;first|omega|exact Nat.le_refl _⟩,⟨rm HO_3.out⟩,⟨rm HO_4.out⟩,⟨rm HO_18.out⟩,⟨rm HO_22.out⟩,⟨rm HO_26.out⟩,⟨rm HO_28.out⟩,⟨rm HO_32.out⟩,⟨rm HO_36.out⟩,⟨hm HB.out⟩⟩
  clear HC95
  try clear c1
  try clear c2
  try clear p2
  try clear c3
  try clear c4
  try clear c5
  try clear c6
  try clear c7
  try clear c8
  try clear c9
  try clear c10
  try clear c12
  try clear c12b0
  try clear c12b1
  try clear c13
  try clear c13b0
  try clear c13b1
  try clear c13b2
  try clear c15
  try clear c15b0
  try clear c15b1
  try clear c15b2
  try clear c19
  try clear c24
  try clear c24b0
  try clear c24b1
  try clear c25
  try clear c25b0
  try clear c25b1
  try clear c25b2
  try clear c26
  try clear c32
  try clear c32b0
  try clear c32b1
  try clear c33
  try clear c33b0
  try clear c33b1
  try clear c33b2
  try clear c34
  try clear c40
  try clear c40b0
  try clear c40b1
  try clear c40b2
  try clear c41
  try clear c41b0
  try clear c41b1
  try clear c41b2
  try clear c45
  try clear c51
  try clear c51b0
  try clear c51b1
  try clear c51b2
  try clear c52
  try clear c52b0
  try clear c52b1
  try clear c52b2
  try clear c56
  try clear c65
  try clear c65b0
  try clear c65b1
  try clear c65b2
  try clear c69
  try clear c75
  try clear c75b0
  try clear c75b1
  try clear c75b2
  try clear c76
  try clear c76b0
  try clear c76b1
  try clear c76b2
  try clear c80
  try clear c86
  try clear c86b0
  try clear c86b1
  try clear c86b2
  try clear c87
  try clear c87b0
  try clear c87b1
  try clear c87b2
  try clear c91
  try clear c93
  try clear c97
  try clear c100
  try clear c100b0
  try clear c100b1
  try clear p2
  obtain ⟨kq,x278_94,rfl,HA,HJ94,HO_3,HO_4,HO_18,HO_22,HO_26,HO_28,HO_32,HO_36,HB⟩:=hcut
  cases kq with
  | zero=>exact absurd HA.out (by simp [laws_FnLanes.j8])
  | succ kj94 =>
   have H:=HA.out
   clear HA
   simp only [laws_FnLanes.j8] at H
   by_cases c105 : x278_94 = true
   ·subst c105
    have H1 : (some false) = some r:=by rw [if_pos rfl] at H;exact H
    clear H
    have H:=H1
    clear H1
    as_aux_lemma =>
     obtain rfl:=Option.some.inj H
     go_wp2
     repeat (go_quiet (fail);try go_wp2)
     go_ret
     exact ⟨by first|rfl|(simp [errW_none,errW_some] <;> rfl)|(simp [*,errW_none,errW_some] <;> rfl),hm HB.out⟩
   replace c105:=Bool.eq_false_iff.mpr c105
   subst c105
   have H1 : (laws_FnLanes.l0 kj94 t401 t404 t405 t406 t420 t424 t433 t442 t446 t455 t464 t473 0) = some r:=by rw [if_neg (show ¬ (false = true) by decide)] at H;exact H
   clear H
   have H:=H1
   clear H1
   have H':=Aside0.mk H
   clear H
   go_wp2
   repeat (go_quiet (fail);try go_wp2)
   go_loopg [42] kj94 (fun kq v42 w'=>∃ (x42_10 : Int),v42 = .int .i64 x42_10 ∧ Aside0 (laws_FnLanes.l0 kq t401 t404 t405 t406 t420 t424 t433 t442 t446 t455 t464 t473 x42_10 = some r) ∧ Aside0 (kq ≤ kj94) ∧ Aside0 (Kd.R (Kd.int .i64) 3 w' w.heap.size (fun k_=>some k_ ≠ (v407 : Value).ownBlock ∧ some k_ ≠ (v426 : Value).ownBlock ∧ some k_ ≠ (v435 : Value).ownBlock ∧ some k_ ≠ ((.slice Ao62 t442.length co62) : Value).ownBlock ∧ some k_ ≠ (v448 : Value).ownBlock ∧ some k_ ≠ (v456 : Value).ownBlock ∧ some k_ ≠ (v465 : Value).ownBlock) (.slice Ao9 t401.length co9) t401) ∧ Aside0 (Kd.R (Kd.int .i64) 3 w' w.heap.size (fun k_=>some k_ ≠ ((.slice Ao9 t401.length co9) : Value).ownBlock ∧ some k_ ≠ (v426 : Value).ownBlock ∧ some k_ ≠ (v435 : Value).ownBlock ∧ some k_ ≠ ((.slice Ao62 t442.length co62) : Value).ownBlock ∧ some k_ ≠ (v448 : Value).ownBlock ∧ some k_ ≠ (v456 : Value).ownBlock ∧ some k_ ≠ (v465 : Value).ownBlock) v407 t404) ∧ Aside0 (Kd.R (Kd.int .i64) 3 w' w.heap.size (fun k_=>some k_ ≠ ((.slice Ao9 t401.length co9) : Value).ownBlock ∧ some k_ ≠ (v407 : Value).ownBlock ∧ some k_ ≠ (v435 : Value).ownBlock ∧ some k_ ≠ ((.slice Ao62 t442.length co62) : Value).ownBlock ∧ some k_ ≠ (v448 : Value).ownBlock ∧ some k_ ≠ (v456 : Value).ownBlock ∧ some k_ ≠ (v465 : Value).ownBlock) v426 t424) ∧ Aside0 (Kd.R (Kd.int .i64) 3 w' w.heap.size (fun k_=>some k_ ≠ ((.slice Ao9 t401.length co9) : Value).ownBlock ∧ some k_ ≠ (v407 : Value).ownBlock ∧ some k_ ≠ (v426 : Value).ownBlock ∧ some k_ ≠ ((.slice Ao62 t442.length co62) : Value).ownBlock ∧ some k_ ≠ (v448 : Value).ownBlock ∧ some k_ ≠ (v456 : Value).ownBlock ∧ some k_ ≠ (v465 : Value).ownBlock) v435 t433) ∧ Aside0 (Kd.R (Kd.int .i64) 3 w' w.heap.size (fun k_=>some k_ ≠ ((.slice Ao9 t401.length co9) : Value).ownBlock ∧ some k_ ≠ (v407 : Value).ownBlock ∧ some k_ ≠ (v426 : Value).ownBlock ∧ some k_ ≠ (v435 : Value).ownBlock ∧ some k_ ≠ (v448 : Value).ownBlock ∧ some k_ ≠ (v456 : Value).ownBlock ∧ some k_ ≠ (v465 : Value).ownBlock) (.slice Ao62 t442.length co62) t442) ∧ Aside0 (Kd.R (Kd.int .i64) 3 w' w.heap.size (fun k_=>some k_ ≠ ((.slice Ao9 t401.length co9) : Value).ownBlock ∧ some k_ ≠ (v407 : Value).ownBlock ∧ some k_ ≠ (v426 : Value).ownBlock ∧ some k_ ≠ (v435 : Value).ownBlock ∧ some k_ ≠ ((.slice Ao62 t442.length co62) : Value).ownBlock ∧ some k_ ≠ (v456 : Value).ownBlock ∧ some k_ ≠ (v465 : Value).ownBlock) v448 t446) ∧ Aside0 (Kd.R (Kd.int .i64) 3 w' w.heap.size (fun k_=>some k_ ≠ ((.slice Ao9 t401.length co9) : Value).ownBlock ∧ some k_ ≠ (v407 : Value).ownBlock ∧ some k_ ≠ (v426 : Value).ownBlock ∧ some k_ ≠ (v435 : Value).ownBlock ∧ some k_ ≠ ((.slice Ao62 t442.length co62) : Value).ownBlock ∧ some k_ ≠ (v448 : Value).ownBlock ∧ some k_ ≠ (v465 : Value).ownBlock) v456 t455) ∧ Aside0 (Kd.R (Kd.int .i64) 3 w' w.heap.size (fun k_=>some k_ ≠ ((.slice Ao9 t401.length co9) : Value).ownBlock ∧ some k_ ≠ (v407 : Value).ownBlock ∧ some k_ ≠ (v426 : Value).ownBlock ∧ some k_ ≠ (v435 : Value).ownBlock ∧ some k_ ≠ ((.slice Ao62 t442.length co62) : Value).ownBlock ∧ some k_ ≠ (v448 : Value).ownBlock ∧ some k_ ≠ (v456 : Value).ownBlock) v465 t464) ∧ Aside0 (Below w.heap.size w w'))
   case atStart=>exact ⟨(0),(by first|rfl|(simp;done)|(simp [*];done)),H',⟨Nat.le_refl _⟩,⟨rm HO_3.out⟩,⟨rm HO_4.out⟩,⟨rm HO_18.out⟩,⟨rm HO_22.out⟩,⟨rm HO_26.out⟩,⟨rm HO_28.out⟩,⟨rm HO_32.out⟩,⟨rm HO_36.out⟩,⟨hm HB.out⟩⟩
   clear H'
   try clear c1
   try clear c2
   try clear p2
   try clear c3
   try clear c4
   try clear c5
   try clear c6
   try clear c7
   try clear c8
   try clear c9
   try clear c10
   try clear c12
   try clear c12b0
   try clear c12b1
   try clear c13
   try clear c13b0
   try clear c13b1
   try clear c13b2
   try clear c15
   try clear c15b0
   try clear c15b1
   try clear c15b2
   try clear c19
   try clear c24
   try clear c24b0
   try clear c24b1
   try clear c25
   try clear c25b0
   try clear c25b1
   try clear c25b2
   try clear c26
   try clear c32
   try clear c32b0
   try clear c32b1
   try clear c33
   try clear c33b0
   try clear c33b1
   try clear c33b2
   try clear c34
   try clear c40
   try clear c40b0
   try clear c40b1
   try clear c40b2
   try clear c41
   try clear c41b0
   try clear c41b1
   try clear c41b2
   try clear c45
   try clear c51
   try clear c51b0
   try clear c51b1
   try clear c51b2
   try clear c52
   try clear c52b0
   try clear c52b1
   try clear c52b2
   try clear c56
   try clear c65
   try clear c65b0
   try clear c65b1
   try clear c65b2
   try clear c69
   try clear c75
   try clear c75b0
   try clear c75b1
   try clear c75b2
   try clear c76
   try clear c76b0
   try clear c76b1
   try clear c76b2
   try clear c80
   try clear c86
   try clear c86b0
   try clear c86b1
   try clear c86b2
   try clear c87
   try clear c87b0
   try clear c87b1
   try clear c87b2
   try clear c91
   try clear c93
   try clear c97
   try clear c100
   try clear c100b0
   try clear c100b1
   try clear c105
   try clear p2
   obtain ⟨x42_10,rfl,HA,HK10,HO_3,HO_4,HO_18,HO_22,HO_26,HO_28,HO_32,HO_36,HB⟩:=hrel
   cases gk with
   | zero=>exact absurd HA.out (by simp [laws_FnLanes.l0])
   | succ k10 =>
    have H:=HA.out
    clear HA
    simp only [laws_FnLanes.l0] at H
    by_cases c106 : x42_10 < (t464.length : Int)
    ·rw [if_pos c106] at H
     have c106b0 : decide (x42_10 < (t464.length : Int)) = true:=decide_eq_true c106
     clear c106
     by_cases c107 : 0 ≤ x42_10
     rotate_left
     ·rw [if_neg c107] at H
      exact absurd H (by simp)
     rw [if_pos c107] at H
     have c107b0 : decide (0 ≤ x42_10) = true:=decide_eq_true c107
     clear c107
     by_cases c108 : 0 ≤ (rd t464 x42_10)
     rotate_left
     ·rw [if_neg c108] at H
      exact absurd H (by simp)
     rw [if_pos c108] at H
     have c108b0 : decide (0 ≤ (rd t464 x42_10)) = true:=decide_eq_true c108
     clear c108
     by_cases c109 : (rd t464 x42_10) < (t446.length : Int)
     rotate_left
     ·rw [if_neg c109] at H
      exact absurd H (by simp)
     rw [if_pos c109] at H
     have c109b0 : decide ((rd t464 x42_10) < (t446.length : Int)) = true:=decide_eq_true c109
     clear c109
     by_cases c110 : (rd t446 (rd t464 x42_10)) = 1
     rotate_left
     ·rw [if_neg c110] at H
      have c110b0 : ((rd t446 (rd t464 x42_10)) == 1) = false:=beq_eq_false_iff_ne.mpr c110
      have c110b1 : ((rd t446 (rd t464 x42_10)) != 1) = true:=bne_iff_ne.mpr c110
      as_aux_lemma =>
       obtain rfl:=Option.some.inj H
       obtain ⟨Ao113,co113,eo113⟩:=R_slice HO_36.out
       subst eo113
       have p478 : 0 ≤ (x42_10 : Int):=od
       have q478 : x42_10 < (t464.length : Int):=od
       obtain ⟨ad478,e478,hx478_0⟩:=Kd.at_int (R_reads' HO_36.out).2.2 x42_10 p478 q478
       cases e478
       replace p478:=eq_true p478
       replace q478:=eq_true q478
       obtain ⟨Ao114,co114,eo114⟩:=R_slice HO_28.out
       subst eo114
       have p479 : 0 ≤ ((rd t464 x42_10) : Int):=od
       have q479 : (rd t464 x42_10) < (t446.length : Int):=od
       obtain ⟨ad479,e479,hx479_0⟩:=Kd.at_int (R_reads' HO_28.out).2.2 (rd t464 x42_10) p479 q479
       cases e479
       replace p479:=eq_true p479
       replace q479:=eq_true q479
       go_wp2
       repeat (go_quiet (fail);try go_wp2)
       go_ret
       exact ⟨by first|rfl|(simp [errW_none,errW_some] <;> rfl)|(simp [*,errW_none,errW_some] <;> rfl),hm HB.out⟩
     rw [if_pos c110] at H
     have c110b0 : ((rd t446 (rd t464 x42_10)) == 1) = true:=beq_iff_eq.mpr c110
     have c110b1 : ((rd t446 (rd t464 x42_10)) != 1) = false:=bne_eq_false_iff_eq.mpr c110
     clear c110
     as_aux_lemma =>
      have H':=Aside0.mk H
      clear H
      obtain ⟨Ao111,co111,eo111⟩:=R_slice HO_36.out
      subst eo111
      have p478 : 0 ≤ (x42_10 : Int):=od
      have q478 : x42_10 < (t464.length : Int):=od
      obtain ⟨ad478,e478,hx478_0⟩:=Kd.at_int (R_reads' HO_36.out).2.2 x42_10 p478 q478
      cases e478
      replace p478:=eq_true p478
      replace q478:=eq_true q478
      obtain ⟨Ao112,co112,eo112⟩:=R_slice HO_28.out
      subst eo112
      have p479 : 0 ≤ ((rd t464 x42_10) : Int):=od
      have q479 : (rd t464 x42_10) < (t446.length : Int):=od
      obtain ⟨ad479,e479,hx479_0⟩:=Kd.at_int (R_reads' HO_28.out).2.2 (rd t464 x42_10) p479 q479
      cases e479
      replace p479:=eq_true p479
      replace q479:=eq_true q479
      go_wp2
      repeat (go_quiet (fail);try go_wp2)
      go_roundg k10
      case measure=>have:=HJ6.out;have:=HJ21.out;have:=HJ28.out;have:=HJ36.out;have:=HJ47.out;have:=HJ59.out;have:=HJ71.out;have:=HJ82.out;have:=HJ94.out;have:=HK10.out;omega
      case rel=>exact ⟨(wrap64 (x42_10 + 1)),(by first|rfl|(simp;done)|(simp [*];done)),H',⟨by have:=HJ6.out;have:=HJ21.out;have:=HJ28.out;have:=HJ36.out;have:=HJ47.out;have:=HJ59.out;have:=HJ71.out;have:=HJ82.out;have:=HJ94.out;have:=HK10.out;omega⟩,⟨rm HO_3.out⟩,⟨rm HO_4.out⟩,⟨rm HO_18.out⟩,⟨rm HO_22.out⟩,⟨rm HO_26.out⟩,⟨rm HO_28.out⟩,⟨rm HO_32.out⟩,⟨rm HO_36.out⟩,⟨hm HB.out⟩⟩
    rw [if_neg c106] at H
    have c106b0 : decide (x42_10 < (t464.length : Int)) = false:=decide_eq_false c106
    clear c106
    have H':=Aside0.mk H
    clear H
    obtain ⟨Ao115,co115,eo115⟩:=R_slice HO_36.out
    subst eo115
    go_wp2
    repeat (go_quiet (fail);try go_wp2)
    go_loopg [43] k10 (fun kq v43 w'=>∃ (x43_11 : Int),v43 = .int .i64 x43_11 ∧ Aside0 (laws_FnLanes.l1 kq t401 t404 t405 t406 t420 t424 t433 t442 t455 t473 x43_11 = some r) ∧ Aside0 (kq ≤ k10) ∧ Aside0 (Kd.R (Kd.int .i64) 3 w' w.heap.size (fun k_=>some k_ ≠ (v407 : Value).ownBlock ∧ some k_ ≠ (v426 : Value).ownBlock ∧ some k_ ≠ (v435 : Value).ownBlock ∧ some k_ ≠ ((.slice Ao62 t442.length co62) : Value).ownBlock ∧ some k_ ≠ (v456 : Value).ownBlock) (.slice Ao9 t401.length co9) t401) ∧ Aside0 (Kd.R (Kd.int .i64) 3 w' w.heap.size (fun k_=>some k_ ≠ ((.slice Ao9 t401.length co9) : Value).ownBlock ∧ some k_ ≠ (v426 : Value).ownBlock ∧ some k_ ≠ (v435 : Value).ownBlock ∧ some k_ ≠ ((.slice Ao62 t442.length co62) : Value).ownBlock ∧ some k_ ≠ (v456 : Value).ownBlock) v407 t404) ∧ Aside0 (Kd.R (Kd.int .i64) 3 w' w.heap.size (fun k_=>some k_ ≠ ((.slice Ao9 t401.length co9) : Value).ownBlock ∧ some k_ ≠ (v407 : Value).ownBlock ∧ some k_ ≠ (v435 : Value).ownBlock ∧ some k_ ≠ ((.slice Ao62 t442.length co62) : Value).ownBlock ∧ some k_ ≠ (v456 : Value).ownBlock) v426 t424) ∧ Aside0 (Kd.R (Kd.int .i64) 3 w' w.heap.size (fun k_=>some k_ ≠ ((.slice Ao9 t401.length co9) : Value).ownBlock ∧ some k_ ≠ (v407 : Value).ownBlock ∧ some k_ ≠ (v426 : Value).ownBlock ∧ some k_ ≠ ((.slice Ao62 t442.length co62) : Value).ownBlock ∧ some k_ ≠ (v456 : Value).ownBlock) v435 t433) ∧ Aside0 (Kd.R (Kd.int .i64) 3 w' w.heap.size (fun k_=>some k_ ≠ ((.slice Ao9 t401.length co9) : Value).ownBlock ∧ some k_ ≠ (v407 : Value).ownBlock ∧ some k_ ≠ (v426 : Value).ownBlock ∧ some k_ ≠ (v435 : Value).ownBlock ∧ some k_ ≠ (v456 : Value).ownBlock) (.slice Ao62 t442.length co62) t442) ∧ Aside0 (Kd.R (Kd.int .i64) 3 w' w.heap.size (fun k_=>some k_ ≠ ((.slice Ao9 t401.length co9) : Value).ownBlock ∧ some k_ ≠ (v407 : Value).ownBlock ∧ some k_ ≠ (v426 : Value).ownBlock ∧ some k_ ≠ (v435 : Value).ownBlock ∧ some k_ ≠ ((.slice Ao62 t442.length co62) : Value).ownBlock) v456 t455) ∧ Aside0 (Below w.heap.size w w'))
    case atStart=>exact ⟨(0),(by first|rfl|(simp;done)|(simp [*];done)),H',⟨Nat.le_refl _⟩,⟨rm (R_mono HO_3.out (fun _ hk=>⟨hk.1,⟨hk.2.1,⟨hk.2.2.1,⟨hk.2.2.2.1,hk.2.2.2.2.2.1⟩⟩⟩⟩))⟩,⟨rm (R_mono HO_4.out (fun _ hk=>⟨hk.1,⟨hk.2.1,⟨hk.2.2.1,⟨hk.2.2.2.1,hk.2.2.2.2.2.1⟩⟩⟩⟩))⟩,⟨rm (R_mono HO_18.out (fun _ hk=>⟨hk.1,⟨hk.2.1,⟨hk.2.2.1,⟨hk.2.2.2.1,hk.2.2.2.2.2.1⟩⟩⟩⟩))⟩,⟨rm (R_mono HO_22.out (fun _ hk=>⟨hk.1,⟨hk.2.1,⟨hk.2.2.1,⟨hk.2.2.2.1,hk.2.2.2.2.2.1⟩⟩⟩⟩))⟩,⟨rm (R_mono HO_26.out (fun _ hk=>⟨hk.1,⟨hk.2.1,⟨hk.2.2.1,⟨hk.2.2.2.1,hk.2.2.2.2.2.1⟩⟩⟩⟩))⟩,⟨rm (R_mono HO_32.out (fun _ hk=>⟨hk.1,⟨hk.2.1,⟨hk.2.2.1,⟨hk.2.2.2.1,hk.2.2.2.2.1⟩⟩⟩⟩))⟩,⟨hm HB.out⟩⟩
    clear H'
    try clear c1
    try clear c2
    try clear p2
    try clear c3
    try clear c4
    try clear p4
    try clear q4
    try clear hx4
    try clear c5
    try clear c6
    try clear p6
    try clear c7
    try clear c8
    try clear c9
    try clear c10
    try clear c11
    try clear c12
    try clear c12b0
    try clear c12b1
    try clear c13
    try clear c13b0
    try clear c13b1
    try clear c13b2
    try clear c15
    try clear c15b0
    try clear c15b1
    try clear c15b2
    try clear c19
    try clear c24
    try clear c24b0
    try clear c24b1
    try clear c25
    try clear c25b0
    try clear c25b1
    try clear c25b2
    try clear c26
    try clear c32
    try clear c32b0
    try clear c32b1
    try clear c33
    try clear c33b0
    try clear c33b1
    try clear c33b2
    try clear c34
    try clear c40
    try clear c40b0
    try clear c40b1
    try clear c40b2
    try clear c41
    try clear c41b0
    try clear c41b1
    try clear c41b2
    try clear c45
    try clear p47
    try clear q47
    try clear hx47
    try clear c51
    try clear c51b0
    try clear c51b1
    try clear c51b2
    try clear c52
    try clear c52b0
    try clear c52b1
    try clear c52b2
    try clear c56
    try clear p64
    try clear c65
    try clear c65b0
    try clear c65b1
    try clear c65b2
    try clear c69
    try clear c75
    try clear c75b0
    try clear c75b1
    try clear c75b2
    try clear c76
    try clear c76b0
    try clear c76b1
    try clear c76b2
    try clear c80
    try clear c86
    try clear c86b0
    try clear c86b1
    try clear c86b2
    try clear c87
    try clear c87b0
    try clear c87b1
    try clear c87b2
    try clear c91
    try clear c93
    try clear c97
    try clear c100
    try clear c100b0
    try clear c100b1
    try clear c105
    try clear c106
    try clear c106b0
    try clear c107
    try clear c107b0
    try clear c108
    try clear c108b0
    try clear c109
    try clear c109b0
    try clear c110
    try clear c110b0
    try clear c110b1
    try clear hx478_0
    try clear hx479_0
    try clear p2
    try clear p478
    try clear p479
    try clear q478
    try clear q479
    obtain ⟨x43_11,rfl,HA,HK11,HO_3,HO_4,HO_18,HO_22,HO_26,HO_32,HB⟩:=hrel
    cases gk with
    | zero=>exact absurd HA.out (by simp [laws_FnLanes.l1])
    | succ k11 =>
     have H:=HA.out
     clear HA
     simp only [laws_FnLanes.l1] at H
     by_cases c116 : x43_11 < (t455.length : Int)
     rotate_left
     ·rw [if_neg c116] at H
      have c116b0 : decide (x43_11 < (t455.length : Int)) = false:=decide_eq_false c116
      clear c116
      as_aux_lemma =>
       have H':=Aside0.mk H
       clear H
       obtain ⟨Ao136,co136,eo136⟩:=R_slice HO_32.out
       subst eo136
       go_wp2
       repeat (go_quiet (fail);try go_wp2)
       go_meet
       case rel=>exact ⟨_,H',⟨by have:=HJ6.out;have:=HJ21.out;have:=HJ28.out;have:=HJ36.out;have:=HJ47.out;have:=HJ59.out;have:=HJ71.out;have:=HJ82.out;have:=HJ94.out;have:=HK10.out;have:=HK11.out;first|omega|exact Nat.le_refl _⟩,⟨rm (R_mono HO_3.out (fun _ hk=>⟨hk.1,⟨hk.2.1,hk.2.2.1⟩⟩))⟩,⟨rm (R_mono HO_4.out (fun _ hk=>⟨hk.1,⟨hk.2.1,hk.2.2.1⟩⟩))⟩,⟨rm (R_mono HO_18.out (fun _ hk=>⟨hk.1,⟨hk.2.1,hk.2.2.1⟩⟩))⟩,⟨rm (R_mono HO_22.out (fun _ hk=>⟨hk.1,⟨hk.2.1,hk.2.2.1⟩⟩))⟩,⟨hm HB.out⟩⟩
     rw [if_pos c116] at H
     have c116b0 : decide (x43_11 < (t455.length : Int)) = true:=decide_eq_true c116
     clear c116
     by_cases c117 : 0 ≤ x43_11
     rotate_left
     ·rw [if_neg c117] at H
      exact absurd H (by simp)
     rw [if_pos c117] at H
     have c117b0 : decide (0 ≤ x43_11) = true:=decide_eq_true c117
     clear c117
     by_cases c118 : (rd t455 x43_11) > t473
     ·rw [if_pos c118] at H
      have c118b0 : decide (t473 < (rd t455 x43_11)) = true:=decide_eq_true c118
      clear c118
      as_aux_lemma =>
       obtain rfl:=Option.some.inj H
       obtain ⟨Ao119,co119,eo119⟩:=R_slice HO_32.out
       subst eo119
       have p480 : 0 ≤ (x43_11 : Int):=od
       have q480 : x43_11 < (t455.length : Int):=od
       obtain ⟨ad480,e480,hx480_0⟩:=Kd.at_int (R_reads' HO_32.out).2.2 x43_11 p480 q480
       cases e480
       replace p480:=eq_true p480
       replace q480:=eq_true q480
       go_wp2
       repeat (go_quiet (fail);try go_wp2)
       go_ret
       exact ⟨by first|rfl|(simp [errW_none,errW_some] <;> rfl)|(simp [*,errW_none,errW_some] <;> rfl),hm HB.out⟩
     rw [if_neg c118] at H
     have c118b0 : decide (t473 < (rd t455 x43_11)) = false:=decide_eq_false c118
     clear c118
     by_cases c120 : x43_11 > 0
     rotate_left
     ·rw [if_neg c120] at H
      have c120b0 : decide (0 < x43_11) = false:=decide_eq_false c120
      clear c120
      by_cases c131 : (wrap64 (2 * x43_11)) ≥ (t442.length : Int)
      rotate_left
      ·rw [if_neg c131] at H
       have c131b0 : decide ((t442.length : Int) ≤ (wrap64 (2 * x43_11))) = false:=decide_eq_false c131
       clear c131
       as_aux_lemma =>
        have H':=Aside0.mk H
        clear H
        obtain ⟨Ao135,co135,eo135⟩:=R_slice HO_32.out
        subst eo135
        have p480 : 0 ≤ (x43_11 : Int):=od
        have q480 : x43_11 < (t455.length : Int):=od
        obtain ⟨ad480,e480,hx480_0⟩:=Kd.at_int (R_reads' HO_32.out).2.2 x43_11 p480 q480
        cases e480
        replace p480:=eq_true p480
        replace q480:=eq_true q480
        go_wp2
        repeat (go_quiet (fail);try go_wp2)
        go_roundg k11
        case measure=>have:=HJ6.out;have:=HJ21.out;have:=HJ28.out;have:=HJ36.out;have:=HJ47.out;have:=HJ59.out;have:=HJ71.out;have:=HJ82.out;have:=HJ94.out;have:=HK10.out;have:=HK11.out;omega
        case rel=>exact ⟨(wrap64 (x43_11 + 1)),(by first|rfl|(simp;done)|(simp [*];done)),H',⟨by have:=HJ6.out;have:=HJ21.out;have:=HJ28.out;have:=HJ36.out;have:=HJ47.out;have:=HJ59.out;have:=HJ71.out;have:=HJ82.out;have:=HJ94.out;have:=HK10.out;have:=HK11.out;omega⟩,⟨rm HO_3.out⟩,⟨rm HO_4.out⟩,⟨rm HO_18.out⟩,⟨rm HO_22.out⟩,⟨rm HO_26.out⟩,⟨rm HO_32.out⟩,⟨hm HB.out⟩⟩
      rw [if_pos c131] at H
      have c131b0 : decide ((t442.length : Int) ≤ (wrap64 (2 * x43_11))) = true:=decide_eq_true c131
      clear c131
      by_cases c132 : (rd t455 x43_11) = t473
      rotate_left
      ·rw [if_neg c132] at H
       have c132b0 : ((rd t455 x43_11) == t473) = false:=beq_eq_false_iff_ne.mpr c132
       have c132b1 : ((rd t455 x43_11) != t473) = true:=bne_iff_ne.mpr c132
       as_aux_lemma =>
        obtain rfl:=Option.some.inj H
        obtain ⟨Ao134,co134,eo134⟩:=R_slice HO_32.out
        subst eo134
        have p480 : 0 ≤ (x43_11 : Int):=od
        have q480 : x43_11 < (t455.length : Int):=od
        obtain ⟨ad480,e480,hx480_0⟩:=Kd.at_int (R_reads' HO_32.out).2.2 x43_11 p480 q480
        cases e480
        replace p480:=eq_true p480
        replace q480:=eq_true q480
        have p484 : 0 ≤ (x43_11 : Int):=od
        have q484 : x43_11 < (t455.length : Int):=od
        obtain ⟨ad484,e484,hx484_0⟩:=Kd.at_int (R_reads' HO_32.out).2.2 x43_11 p484 q484
        obtain rfl : ad480 = ad484:=(by injection e484)
        replace p484:=eq_true p484
        replace q484:=eq_true q484
        go_wp2
        repeat (go_quiet (fail);try go_wp2)
        go_ret
        exact ⟨by first|rfl|(simp [errW_none,errW_some] <;> rfl)|(simp [*,errW_none,errW_some] <;> rfl),hm HB.out⟩
      rw [if_pos c132] at H
      have c132b0 : ((rd t455 x43_11) == t473) = true:=beq_iff_eq.mpr c132
      have c132b1 : ((rd t455 x43_11) != t473) = false:=bne_eq_false_iff_eq.mpr c132
      clear c132
      as_aux_lemma =>
       have H':=Aside0.mk H
       clear H
       obtain ⟨Ao133,co133,eo133⟩:=R_slice HO_32.out
       subst eo133
       have p480 : 0 ≤ (x43_11 : Int):=od
       have q480 : x43_11 < (t455.length : Int):=od
       obtain ⟨ad480,e480,hx480_0⟩:=Kd.at_int (R_reads' HO_32.out).2.2 x43_11 p480 q480
       cases e480
       replace p480:=eq_true p480
       replace q480:=eq_true q480
       have p484 : 0 ≤ (x43_11 : Int):=od
       have q484 : x43_11 < (t455.length : Int):=od
       obtain ⟨ad484,e484,hx484_0⟩:=Kd.at_int (R_reads' HO_32.out).2.2 x43_11 p484 q484
       obtain rfl : ad480 = ad484:=(by injection e484)
       replace p484:=eq_true p484
       replace q484:=eq_true q484
       go_wp2
       repeat (go_quiet (fail);try go_wp2)
       go_roundg k11
       case measure=>have:=HJ6.out;have:=HJ21.out;have:=HJ28.out;have:=HJ36.out;have:=HJ47.out;have:=HJ59.out;have:=HJ71.out;have:=HJ82.out;have:=HJ94.out;have:=HK10.out;have:=HK11.out;omega
       case rel=>exact ⟨(wrap64 (x43_11 + 1)),(by first|rfl|(simp;done)|(simp [*];done)),H',⟨by have:=HJ6.out;have:=HJ21.out;have:=HJ28.out;have:=HJ36.out;have:=HJ47.out;have:=HJ59.out;have:=HJ71.out;have:=HJ82.out;have:=HJ94.out;have:=HK10.out;have:=HK11.out;omega⟩,⟨rm HO_3.out⟩,⟨rm HO_4.out⟩,⟨rm HO_18.out⟩,⟨rm HO_22.out⟩,⟨rm HO_26.out⟩,⟨rm HO_32.out⟩,⟨hm HB.out⟩⟩
     rw [if_pos c120] at H
     have c120b0 : decide (0 < x43_11) = true:=decide_eq_true c120
     clear c120
     obtain ⟨ji121,hji121⟩ : ∃ j_ : Int,(wrap64 (x43_11 - 1)) = j_:=⟨_,rfl⟩
     replace H : (if 0 ≤ (ji121) then (if (ji121) < (t455.length : Int) then (if (rd t455 x43_11) < (rd t455 (ji121)) then (some false) else (if (wrap64 (2 * x43_11)) ≥ (t442.length : Int) then (if (rd t455 x43_11) = t473 then (laws_FnLanes.l1 k11 t401 t404 t405 t406 t420 t424 t433 t442 t455 t473 (wrap64 (x43_11 + 1))) else (some false)) else (laws_FnLanes.l1 k11 t401 t404 t405 t406 t420 t424 t433 t442 t455 t473 (wrap64 (x43_11 + 1))))) else (none)) else (none)) = some r:=by first|(rw [hji121] at H;exact H)|(simp only [hji121] at H ⊢;exact H)
     have hji121w : (IntKind.i64.wrap (x43_11 - 1)) = ji121:=(i64_w _).trans hji121
     by_cases c122 : 0 ≤ (ji121)
     rotate_left
     ·rw [if_neg c122] at H
      exact absurd H (by simp)
     rw [if_pos c122] at H
     have c122b0 : decide (0 ≤ (ji121)) = true:=decide_eq_true c122
     clear c122
     by_cases c123 : (ji121) < (t455.length : Int)
     rotate_left
     ·rw [if_neg c123] at H
      exact absurd H (by simp)
     rw [if_pos c123] at H
     have c123b0 : decide ((ji121) < (t455.length : Int)) = true:=decide_eq_true c123
     clear c123
     by_cases c124 : (rd t455 x43_11) < (rd t455 (ji121))
     ·rw [if_pos c124] at H
      have c124b0 : decide ((rd t455 x43_11) < (rd t455 (ji121))) = true:=decide_eq_true c124
      clear c124
      as_aux_lemma =>
       obtain rfl:=Option.some.inj H
       obtain ⟨Ao125,co125,eo125⟩:=R_slice HO_32.out
       subst eo125
       have p480 : 0 ≤ (x43_11 : Int):=od
       have q480 : x43_11 < (t455.length : Int):=od
       obtain ⟨ad480,e480,hx480_0⟩:=Kd.at_int (R_reads' HO_32.out).2.2 x43_11 p480 q480
       cases e480
       replace p480:=eq_true p480
       replace q480:=eq_true q480
       have p481 : 0 ≤ (x43_11 : Int):=od
       have q481 : x43_11 < (t455.length : Int):=od
       obtain ⟨ad481,e481,hx481_0⟩:=Kd.at_int (R_reads' HO_32.out).2.2 x43_11 p481 q481
       obtain rfl : ad480 = ad481:=(by injection e481)
       replace p481:=eq_true p481
       replace q481:=eq_true q481
       have p482 : 0 ≤ ((ji121) : Int):=od
       have q482 : (ji121) < (t455.length : Int):=od
       obtain ⟨ad482,e482,hx482_0⟩:=Kd.at_int (R_reads' HO_32.out).2.2 (ji121) p482 q482
       obtain rfl : ad480 = ad482:=(by injection e482)
       replace p482:=eq_true p482
       replace q482:=eq_true q482
       go_wp2
       repeat (go_quiet (fail);try go_wp2)
       go_ret
       exact ⟨by first|rfl|(simp [errW_none,errW_some] <;> rfl)|(simp only [← hji121];first|rfl|(simp [errW_none,errW_some] <;> rfl))|(simp [*,errW_none,errW_some] <;> rfl),hm HB.out⟩
     rw [if_neg c124] at H
     have c124b0 : decide ((rd t455 x43_11) < (rd t455 (ji121))) = false:=decide_eq_false c124
     clear c124
     by_cases c126 : (wrap64 (2 * x43_11)) ≥ (t442.length : Int)
     rotate_left
     ·rw [if_neg c126] at H
      have c126b0 : decide ((t442.length : Int) ≤ (wrap64 (2 * x43_11))) = false:=decide_eq_false c126
      clear c126
      as_aux_lemma =>
       have H':=Aside0.mk H
       clear H
       obtain ⟨Ao130,co130,eo130⟩:=R_slice HO_32.out
       subst eo130
       have p480 : 0 ≤ (x43_11 : Int):=od
       have q480 : x43_11 < (t455.length : Int):=od
       obtain ⟨ad480,e480,hx480_0⟩:=Kd.at_int (R_reads' HO_32.out).2.2 x43_11 p480 q480
       cases e480
       replace p480:=eq_true p480
       replace q480:=eq_true q480
       have p481 : 0 ≤ (x43_11 : Int):=od
       have q481 : x43_11 < (t455.length : Int):=od
       obtain ⟨ad481,e481,hx481_0⟩:=Kd.at_int (R_reads' HO_32.out).2.2 x43_11 p481 q481
       obtain rfl : ad480 = ad481:=(by injection e481)
       replace p481:=eq_true p481
       replace q481:=eq_true q481
       have p482 : 0 ≤ ((ji121) : Int):=od
       have q482 : (ji121) < (t455.length : Int):=od
       obtain ⟨ad482,e482,hx482_0⟩:=Kd.at_int (R_reads' HO_32.out).2.2 (ji121) p482 q482
       obtain rfl : ad480 = ad482:=(by injection e482)
       replace p482:=eq_true p482
       replace q482:=eq_true q482
       go_wp2
       repeat (go_quiet (fail);try go_wp2)
       go_roundg k11
       case measure=>have:=HJ6.out;have:=HJ21.out;have:=HJ28.out;have:=HJ36.out;have:=HJ47.out;have:=HJ59.out;have:=HJ71.out;have:=HJ82.out;have:=HJ94.out;have:=HK10.out;have:=HK11.out;omega
       case rel=>exact ⟨(wrap64 (x43_11 + 1)),(by first|rfl|(simp;done)|(simp [*];done)),H',⟨by have:=HJ6.out;have:=HJ21.out;have:=HJ28.out;have:=HJ36.out;have:=HJ47.out;have:=HJ59.out;have:=HJ71.out;have:=HJ82.out;have:=HJ94.out;have:=HK10.out;have:=HK11.out;omega⟩,⟨rm HO_3.out⟩,⟨rm HO_4.out⟩,⟨rm HO_18.out⟩,⟨rm HO_22.out⟩,⟨rm HO_26.out⟩,⟨rm HO_32.out⟩,⟨hm HB.out⟩⟩
     rw [if_pos c126] at H
     have c126b0 : decide ((t442.length : Int) ≤ (wrap64 (2 * x43_11))) = true:=decide_eq_true c126
     clear c126
     by_cases c127 : (rd t455 x43_11) = t473
     rotate_left
     ·rw [if_neg c127] at H
      have c127b0 : ((rd t455 x43_11) == t473) = false:=beq_eq_false_iff_ne.mpr c127
      have c127b1 : ((rd t455 x43_11) != t473) = true:=bne_iff_ne.mpr c127
      as_aux_lemma =>
       obtain rfl:=Option.some.inj H
       obtain ⟨Ao129,co129,eo129⟩:=R_slice HO_32.out
       subst eo129
       have p480 : 0 ≤ (x43_11 : Int):=od
       have q480 : x43_11 < (t455.length : Int):=od
       obtain ⟨ad480,e480,hx480_0⟩:=Kd.at_int (R_reads' HO_32.out).2.2 x43_11 p480 q480
       cases e480
       replace p480:=eq_true p480
       replace q480:=eq_true q480
       have p481 : 0 ≤ (x43_11 : Int):=od
       have q481 : x43_11 < (t455.length : Int):=od
       obtain ⟨ad481,e481,hx481_0⟩:=Kd.at_int (R_reads' HO_32.out).2.2 x43_11 p481 q481
       obtain rfl : ad480 = ad481:=(by injection e481)
       replace p481:=eq_true p481
       replace q481:=eq_true q481
       have p482 : 0 ≤ ((ji121) : Int):=od
       have q482 : (ji121) < (t455.length : Int):=od
       obtain ⟨ad482,e482,hx482_0⟩:=Kd.at_int (R_reads' HO_32.out).2.2 (ji121) p482 q482
       obtain rfl : ad480 = ad482:=(by injection e482)
       replace p482:=eq_true p482
       replace q482:=eq_true q482
       have p483 : 0 ≤ (x43_11 : Int):=od
       have q483 : x43_11 < (t455.length : Int):=od
       obtain ⟨ad483,e483,hx483_0⟩:=Kd.at_int (R_reads' HO_32.out).2.2 x43_11 p483 q483
       obtain rfl : ad480 = ad483:=(by injection e483)
       replace p483:=eq_true p483
       replace q483:=eq_true q483
       go_wp2
       repeat (go_quiet (fail);try go_wp2)
       go_ret
       exact ⟨by first|rfl|(simp [errW_none,errW_some] <;> rfl)|(simp only [← hji121];first|rfl|(simp [errW_none,errW_some] <;> rfl))|(simp [*,errW_none,errW_some] <;> rfl),hm HB.out⟩
     rw [if_pos c127] at H
     have c127b0 : ((rd t455 x43_11) == t473) = true:=beq_iff_eq.mpr c127
     have c127b1 : ((rd t455 x43_11) != t473) = false:=bne_eq_false_iff_eq.mpr c127
     clear c127
     as_aux_lemma =>
      have H':=Aside0.mk H
      clear H
      obtain ⟨Ao128,co128,eo128⟩:=R_slice HO_32.out
      subst eo128
      have p480 : 0 ≤ (x43_11 : Int):=od
      have q480 : x43_11 < (t455.length : Int):=od
      obtain ⟨ad480,e480,hx480_0⟩:=Kd.at_int (R_reads' HO_32.out).2.2 x43_11 p480 q480
      cases e480
      replace p480:=eq_true p480
      replace q480:=eq_true q480
      have p481 : 0 ≤ (x43_11 : Int):=od
      have q481 : x43_11 < (t455.length : Int):=od
      obtain ⟨ad481,e481,hx481_0⟩:=Kd.at_int (R_reads' HO_32.out).2.2 x43_11 p481 q481
      obtain rfl : ad480 = ad481:=(by injection e481)
      replace p481:=eq_true p481
      replace q481:=eq_true q481
      have p482 : 0 ≤ ((ji121) : Int):=od
      have q482 : (ji121) < (t455.length : Int):=od
      obtain ⟨ad482,e482,hx482_0⟩:=Kd.at_int (R_reads' HO_32.out).2.2 (ji121) p482 q482
      obtain rfl : ad480 = ad482:=(by injection e482)
      replace p482:=eq_true p482
      replace q482:=eq_true q482
      have p483 : 0 ≤ (x43_11 : Int):=od
      have q483 : x43_11 < (t455.length : Int):=od
      obtain ⟨ad483,e483,hx483_0⟩:=Kd.at_int (R_reads' HO_32.out).2.2 x43_11 p483 q483
      obtain rfl : ad480 = ad483:=(by injection e483)
      replace p483:=eq_true p483
      replace q483:=eq_true q483
      go_wp2
      repeat (go_quiet (fail);try go_wp2)
      go_roundg k11
      case measure=>have:=HJ6.out;have:=HJ21.out;have:=HJ28.out;have:=HJ36.out;have:=HJ47.out;have:=HJ59.out;have:=HJ71.out;have:=HJ82.out;have:=HJ94.out;have:=HK10.out;have:=HK11.out;omega
      case rel=>exact ⟨(wrap64 (x43_11 + 1)),(by first|rfl|(simp;done)|(simp [*];done)),H',⟨by have:=HJ6.out;have:=HJ21.out;have:=HJ28.out;have:=HJ36.out;have:=HJ47.out;have:=HJ59.out;have:=HJ71.out;have:=HJ82.out;have:=HJ94.out;have:=HK10.out;have:=HK11.out;omega⟩,⟨rm HO_3.out⟩,⟨rm HO_4.out⟩,⟨rm HO_18.out⟩,⟨rm HO_22.out⟩,⟨rm HO_26.out⟩,⟨rm HO_32.out⟩,⟨hm HB.out⟩⟩
 clear HC92
 try clear c1
 try clear c2
 try clear p2
 try clear c3
 try clear c4
 try clear p4
 try clear q4
 try clear hx4
 try clear c5
 try clear c6
 try clear p6
 try clear c7
 try clear c8
 try clear c9
 try clear c10
 try clear c11
 try clear c12
 try clear c12b0
 try clear c12b1
 try clear c13
 try clear c13b0
 try clear c13b1
 try clear c13b2
 try clear c15
 try clear c15b0
 try clear c15b1
 try clear c15b2
 try clear c19
 try clear c24
 try clear c24b0
 try clear c24b1
 try clear c25
 try clear c25b0
 try clear c25b1
 try clear c25b2
 try clear c26
 try clear c32
 try clear c32b0
 try clear c32b1
 try clear c33
 try clear c33b0
 try clear c33b1
 try clear c33b2
 try clear c34
 try clear c40
 try clear c40b0
 try clear c40b1
 try clear c40b2
 try clear c41
 try clear c41b0
 try clear c41b1
 try clear c41b2
 try clear c45
 try clear p47
 try clear q47
 try clear hx47
 try clear p48
 try clear q48
 try clear hx48
 try clear c51
 try clear c51b0
 try clear c51b1
 try clear c51b2
 try clear c52
 try clear c52b0
 try clear c52b1
 try clear c52b2
 try clear c56
 try clear p64
 try clear c65
 try clear c65b0
 try clear c65b1
 try clear c65b2
 try clear c69
 try clear c75
 try clear c75b0
 try clear c75b1
 try clear c75b2
 try clear c76
 try clear c76b0
 try clear c76b1
 try clear c76b2
 try clear c80
 try clear c86
 try clear c86b0
 try clear c86b1
 try clear c86b2
 try clear c87
 try clear c87b0
 try clear c87b1
 try clear c87b2
 try clear c91
 try clear c93
 try clear c97
 try clear c100
 try clear c100b0
 try clear c100b1
 try clear c105
 try clear c106
 try clear c106b0
 try clear c107
 try clear c107b0
 try clear c108
 try clear c108b0
 try clear c109
 try clear c109b0
 try clear c110
 try clear c110b0
 try clear c110b1
 try clear c116
 try clear c116b0
 try clear c117
 try clear c117b0
 try clear c118
 try clear c118b0
 try clear c120
 try clear c120b0
 try clear c122
 try clear c122b0
 try clear c123
 try clear c123b0
 try clear c124
 try clear c124b0
 try clear c126
 try clear c126b0
 try clear c127
 try clear c127b0
 try clear c127b1
 try clear c131
 try clear c131b0
 try clear c132
 try clear c132b0
 try clear c132b1
 try clear hx478_0
 try clear hx479_0
 try clear hx480_0
 try clear hx481_0
 try clear hx482_0
 try clear hx483_0
 try clear hx484_0
 try clear p2
 try clear p4
 try clear p47
 try clear p478
 try clear p479
 try clear p480
 try clear p481
 try clear p482
 try clear p483
 try clear p484
 try clear p6
 try clear p64
 try clear q4
 try clear q47
 try clear q478
 try clear q479
 try clear q480
 try clear q481
 try clear q482
 try clear q483
 try clear q484
 obtain ⟨kq,HA,HJ91,HO_3,HO_4,HO_18,HO_22,HB⟩:=hcut
 cases kq with
 | zero=>exact absurd HA.out (by simp [laws_FnLanes.j11])
 | succ kj91 =>
  have H:=HA.out
  clear HA
  simp only [laws_FnLanes.j11] at H
  by_cases c137 : t406 = true
  rotate_left
  ·replace c137:=Bool.eq_false_iff.mpr c137
   subst c137
   have H1 : (some true) = some r:=by rw [if_neg (show ¬ (false = true) by decide)] at H;exact H
   clear H
   have H:=H1
   clear H1
   as_aux_lemma =>
    obtain rfl:=Option.some.inj H
    go_wp2
    repeat (go_quiet (fail);try go_wp2)
    go_ret
    exact ⟨by first|rfl|(simp [errW_none,errW_some] <;> rfl)|(simp [*,errW_none,errW_some] <;> rfl),hm HB.out⟩
  subst c137
  have H1 : ((impl_TurnLane.f kj91 t424).bind fun bt485=>((impl_TurnAround.f kj91 t404).bind fun bt490=>(if bt485.2.2 = true then (if bt490.2 = true then (if bt485.2.1 = t405 then ((laws_rInts.f kj91 bt485.1 bt490.1).bind fun t494=>(if t494 = true then ((laws_rSum.f kj91 t401).bind fun t495=>(if (wrap64 ((t433.length : Int) + t405)) = t495 then ((laws_rSum.f kj91 t404).bind fun t496=>((laws_rSum.f kj91 t401).bind fun t497=>(if t496 = t497 then (some (decide ((wrap64 (2 * t420)) ≤ (t401.length : Int)))) else (some false)))) else (some false))) else (some false))) else (some false)) else (some false)) else (some false)))) = some r:=by rw [if_pos rfl] at H;exact H
  clear H
  have H:=H1
  clear H1
  replace H:=Option.bind_eq_some_iff.mp H
  obtain ⟨⟨t485,t486,t487⟩,A1380,H⟩:=H
  replace H : ((impl_TurnAround.f kj91 t404).bind fun bt490=>(if t487 = true then (if bt490.2 = true then (if t486 = t405 then ((laws_rInts.f kj91 t485 bt490.1).bind fun t494=>(if t494 = true then ((laws_rSum.f kj91 t401).bind fun t495=>(if (wrap64 ((t433.length : Int) + t405)) = t495 then ((laws_rSum.f kj91 t404).bind fun t496=>((laws_rSum.f kj91 t401).bind fun t497=>(if t496 = t497 then (some (decide ((wrap64 (2 * t420)) ≤ (t401.length : Int)))) else (some false)))) else (some false))) else (some false))) else (some false)) else (some false)) else (some false))) = some r:=H
  have A138:=Aside0.mk A1380
  clear A1380
  replace H:=Option.bind_eq_some_iff.mp H
  obtain ⟨⟨t490,t491⟩,A1390,H⟩:=H
  replace H : (if t487 = true then (if t491 = true then (if t486 = t405 then ((laws_rInts.f kj91 t485 t490).bind fun t494=>(if t494 = true then ((laws_rSum.f kj91 t401).bind fun t495=>(if (wrap64 ((t433.length : Int) + t405)) = t495 then ((laws_rSum.f kj91 t404).bind fun t496=>((laws_rSum.f kj91 t401).bind fun t497=>(if t496 = t497 then (some (decide ((wrap64 (2 * t420)) ≤ (t401.length : Int)))) else (some false)))) else (some false))) else (some false))) else (some false)) else (some false)) else (some false)) = some r:=H
  have A139:=Aside0.mk A1390
  clear A1390
  by_cases c140 : t487 = true
  rotate_left
  ·replace c140:=Bool.eq_false_iff.mpr c140
   subst c140
   have H1 : (some false) = some r:=by rw [if_neg (show ¬ (false = true) by decide)] at H;exact H
   clear H
   have H:=H1
   clear H1
   as_aux_lemma =>
    obtain rfl:=Option.some.inj H
    obtain ⟨Ao185,co185,eo185⟩:=R_slice HO_18.out
    subst eo185
    go_wp2_with (first|(go_at_call 26;(with_reducible refine (impl_TurnLane.calls kj91 _ _ t424 t485 t486 false _ ?side1 ?side2 A138.out).mono ?_);(case side1=>exact cm (R_reads' HO_18.out).2.2);(case side2=>exact (R_reads' HO_18.out).2.1);rintro e w186 ⟨v488,rfl,ho0,hb⟩;have n0_:=Aside0.mk (R_elder' (rm HO_3.out) (R_base ho0) hb);have n1_:=Aside0.mk (R_elder' (rm HO_4.out) (R_base ho0) hb);have n2_:=Aside0.mk (R_elder' (rm HO_18.out) (R_base ho0) hb);have n3_:=Aside0.mk (R_elder' (rm HO_22.out) (R_base ho0) hb);have n4_:=Aside0.mk (R_lower (R_new' (R_new' (R_new' (R_new' ho0 (R_lt (rm HO_3.out))) (R_lt (rm HO_4.out))) (R_lt (rm HO_18.out))) (R_lt (rm HO_22.out))) (below_size (hm HB.out)));have n5_:=Aside0.mk (below_step (hm HB.out) hb);clear HO_3;clear HO_4;clear HO_18;clear HO_22;clear HB;have HO_3:=n0_;have HO_4:=n1_;have HO_18:=n2_;have HO_22:=n3_;have HO489:=n4_;have HB:=n5_;clear n0_ n1_ n2_ n3_ n4_ n5_;(try clear hb);(try clear hb2);(try clear hk);(try clear hi);(try clear ho0);obtain ⟨Ao187,co187,eo187⟩:=R_slice HO_4.out;subst eo187)|(go_at_call 20;(with_reducible refine (impl_TurnAround.calls kj91 _ _ t404 t490 t491 _ ?side1 ?side2 A139.out).mono ?_);(case side1=>exact cm (R_reads' HO_4.out).2.2);(case side2=>exact (R_reads' HO_4.out).2.1);rintro e w188 ⟨v492,rfl,ho0,hb⟩;have n0_:=Aside0.mk (R_elder' (rm HO_3.out) (R_base ho0) hb);have n1_:=Aside0.mk (R_elder' (rm HO_4.out) (R_base ho0) hb);have n2_:=Aside0.mk (R_elder' (rm HO_18.out) (R_base ho0) hb);have n3_:=Aside0.mk (R_elder' (rm HO_22.out) (R_base ho0) hb);have n4_:=Aside0.mk (R_elder' (rm HO489.out) (R_base ho0) hb);have n5_:=Aside0.mk (R_lower (R_new' (R_new' (R_new' (R_new' (R_new' ho0 (R_lt (rm HO_3.out))) (R_lt (rm HO_4.out))) (R_lt (rm HO_18.out))) (R_lt (rm HO_22.out))) (R_lt (rm HO489.out))) (below_size (hm HB.out)));have n6_:=Aside0.mk (below_step (hm HB.out) hb);clear HO_3;clear HO_4;clear HO_18;clear HO_22;clear HO489;clear HB;have HO_3:=n0_;have HO_4:=n1_;have HO_18:=n2_;have HO_22:=n3_;have HO489:=n4_;have HO493:=n5_;have HB:=n6_;clear n0_ n1_ n2_ n3_ n4_ n5_ n6_;(try clear hb);(try clear hb2);(try clear hk);(try clear hi);(try clear ho0)))
    repeat (go_quiet (fail);try go_wp2_with (first|(go_at_call 26;(with_reducible refine (impl_TurnLane.calls kj91 _ _ t424 t485 t486 false _ ?side1 ?side2 A138.out).mono ?_);(case side1=>exact cm (R_reads' HO_18.out).2.2);(case side2=>exact (R_reads' HO_18.out).2.1);rintro e w186 ⟨v488,rfl,ho0,hb⟩;have n0_:=Aside0.mk (R_elder' (rm HO_3.out) (R_base ho0) hb);have n1_:=Aside0.mk (R_elder' (rm HO_4.out) (R_base ho0) hb);have n2_:=Aside0.mk (R_elder' (rm HO_18.out) (R_base ho0) hb);have n3_:=Aside0.mk (R_elder' (rm HO_22.out) (R_base ho0) hb);have n4_:=Aside0.mk (R_lower (R_new' (R_new' (R_new' (R_new' ho0 (R_lt (rm HO_3.out))) (R_lt (rm HO_4.out))) (R_lt (rm HO_18.out))) (R_lt (rm HO_22.out))) (below_size (hm HB.out)));have n5_:=Aside0.mk (below_step (hm HB.out) hb);clear HO_3;clear HO_4;clear HO_18;clear HO_22;clear HB;have HO_3:=n0_;have HO_4:=n1_;have HO_18:=n2_;have HO_22:=n3_;have HO489:=n4_;have HB:=n5_;clear n0_ n1_ n2_ n3_ n4_ n5_;(try clear hb);(try clear hb2);(try clear hk);(try clear hi);(try clear ho0);obtain ⟨Ao187,co187,eo187⟩:=R_slice HO_4.out;subst eo187)|(go_at_call 20;(with_reducible refine (impl_TurnAround.calls kj91 _ _ t404 t490 t491 _ ?side1 ?side2 A139.out).mono ?_);(case side1=>exact cm (R_reads' HO_4.out).2.2);(case side2=>exact (R_reads' HO_4.out).2.1);rintro e w188 ⟨v492,rfl,ho0,hb⟩;have n0_:=Aside0.mk (R_elder' (rm HO_3.out) (R_base ho0) hb);have n1_:=Aside0.mk (R_elder' (rm HO_4.out) (R_base ho0) hb);have n2_:=Aside0.mk (R_elder' (rm HO_18.out) (R_base ho0) hb);have n3_:=Aside0.mk (R_elder' (rm HO_22.out) (R_base ho0) hb);have n4_:=Aside0.mk (R_elder' (rm HO489.out) (R_base ho0) hb);have n5_:=Aside0.mk (R_lower (R_new' (R_new' (R_new' (R_new' (R_new' ho0 (R_lt (rm HO_3.out))) (R_lt (rm HO_4.out))) (R_lt (rm HO_18.out))) (R_lt (rm HO_22.out))) (R_lt (rm HO489.out))) (below_size (hm HB.out)));have n6_:=Aside0.mk (below_step (hm HB.out) hb);clear HO_3;clear HO_4;clear HO_18;clear HO_22;clear HO489;clear HB;have HO_3:=n0_;have HO_4:=n1_;have HO_18:=n2_;have HO_22:=n3_;have HO489:=n4_;have HO493:=n5_;have HB:=n6_;clear n0_ n1_ n2_ n3_ n4_ n5_ n6_;(try clear hb);(try clear hb2);(try clear hk);(try clear hi);(try clear ho0))))
    go_ret
    exact ⟨by first|rfl|(simp [errW_none,errW_some] <;> rfl)|(simp [*,errW_none,errW_some] <;> rfl),hm HB.out⟩
  subst c140
  have H1 : (if t491 = true then (if t486 = t405 then ((laws_rInts.f kj91 t485 t490).bind fun t494=>(if t494 = true then ((laws_rSum.f kj91 t401).bind fun t495=>(if (wrap64 ((t433.length : Int) + t405)) = t495 then ((laws_rSum.f kj91 t404).bind fun t496=>((laws_rSum.f kj91 t401).bind fun t497=>(if t496 = t497 then (some (decide ((wrap64 (2 * t420)) ≤ (t401.length : Int)))) else (some false)))) else (some false))) else (some false))) else (some false)) else (some false)) = some r:=by rw [if_pos rfl] at H;exact H
  clear H
  have H:=H1
  clear H1
  by_cases c141 : t491 = true
  rotate_left
  ·replace c141:=Bool.eq_false_iff.mpr c141
   subst c141
   have H1 : (some false) = some r:=by rw [if_neg (show ¬ (false = true) by decide)] at H;exact H
   clear H
   have H:=H1
   clear H1
   as_aux_lemma =>
    obtain rfl:=Option.some.inj H
    obtain ⟨Ao181,co181,eo181⟩:=R_slice HO_18.out
    subst eo181
    go_wp2_with (first|(go_at_call 26;(with_reducible refine (impl_TurnLane.calls kj91 _ _ t424 t485 t486 true _ ?side1 ?side2 A138.out).mono ?_);(case side1=>exact cm (R_reads' HO_18.out).2.2);(case side2=>exact (R_reads' HO_18.out).2.1);rintro e w182 ⟨v488,rfl,ho0,hb⟩;have n0_:=Aside0.mk (R_elder' (rm HO_3.out) (R_base ho0) hb);have n1_:=Aside0.mk (R_elder' (rm HO_4.out) (R_base ho0) hb);have n2_:=Aside0.mk (R_elder' (rm HO_18.out) (R_base ho0) hb);have n3_:=Aside0.mk (R_elder' (rm HO_22.out) (R_base ho0) hb);have n4_:=Aside0.mk (R_lower (R_new' (R_new' (R_new' (R_new' ho0 (R_lt (rm HO_3.out))) (R_lt (rm HO_4.out))) (R_lt (rm HO_18.out))) (R_lt (rm HO_22.out))) (below_size (hm HB.out)));have n5_:=Aside0.mk (below_step (hm HB.out) hb);clear HO_3;clear HO_4;clear HO_18;clear HO_22;clear HB;have HO_3:=n0_;have HO_4:=n1_;have HO_18:=n2_;have HO_22:=n3_;have HO489:=n4_;have HB:=n5_;clear n0_ n1_ n2_ n3_ n4_ n5_;(try clear hb);(try clear hb2);(try clear hk);(try clear hi);(try clear ho0);obtain ⟨Ao183,co183,eo183⟩:=R_slice HO_4.out;subst eo183)|(go_at_call 20;(with_reducible refine (impl_TurnAround.calls kj91 _ _ t404 t490 false _ ?side1 ?side2 A139.out).mono ?_);(case side1=>exact cm (R_reads' HO_4.out).2.2);(case side2=>exact (R_reads' HO_4.out).2.1);rintro e w184 ⟨v492,rfl,ho0,hb⟩;have n0_:=Aside0.mk (R_elder' (rm HO_3.out) (R_base ho0) hb);have n1_:=Aside0.mk (R_elder' (rm HO_4.out) (R_base ho0) hb);have n2_:=Aside0.mk (R_elder' (rm HO_18.out) (R_base ho0) hb);have n3_:=Aside0.mk (R_elder' (rm HO_22.out) (R_base ho0) hb);have n4_:=Aside0.mk (R_elder' (rm HO489.out) (R_base ho0) hb);have n5_:=Aside0.mk (R_lower (R_new' (R_new' (R_new' (R_new' (R_new' ho0 (R_lt (rm HO_3.out))) (R_lt (rm HO_4.out))) (R_lt (rm HO_18.out))) (R_lt (rm HO_22.out))) (R_lt (rm HO489.out))) (below_size (hm HB.out)));have n6_:=Aside0.mk (below_step (hm HB.out) hb);clear HO_3;clear HO_4;clear HO_18;clear HO_22;clear HO489;clear HB;have HO_3:=n0_;have HO_4:=n1_;have HO_18:=n2_;have HO_22:=n3_;have HO489:=n4_;have HO493:=n5_;have HB:=n6_;clear n0_ n1_ n2_ n3_ n4_ n5_ n6_;(try clear hb);(try clear hb2);(try clear hk);(try clear hi);(try clear ho0)))
    repeat (go_quiet (fail);try go_wp2_with (first|(go_at_call 26;(with_reducible refine (impl_TurnLane.calls kj91 _ _ t424 t485 t486 true _ ?side1 ?side2 A138.out).mono ?_);(case side1=>exact cm (R_reads' HO_18.out).2.2);(case side2=>exact (R_reads' HO_18.out).2.1);rintro e w182 ⟨v488,rfl,ho0,hb⟩;have n0_:=Aside0.mk (R_elder' (rm HO_3.out) (R_base ho0) hb);have n1_:=Aside0.mk (R_elder' (rm HO_4.out) (R_base ho0) hb);have n2_:=Aside0.mk (R_elder' (rm HO_18.out) (R_base ho0) hb);have n3_:=Aside0.mk (R_elder' (rm HO_22.out) (R_base ho0) hb);have n4_:=Aside0.mk (R_lower (R_new' (R_new' (R_new' (R_new' ho0 (R_lt (rm HO_3.out))) (R_lt (rm HO_4.out))) (R_lt (rm HO_18.out))) (R_lt (rm HO_22.out))) (below_size (hm HB.out)));have n5_:=Aside0.mk (below_step (hm HB.out) hb);clear HO_3;clear HO_4;clear HO_18;clear HO_22;clear HB;have HO_3:=n0_;have HO_4:=n1_;have HO_18:=n2_;have HO_22:=n3_;have HO489:=n4_;have HB:=n5_;clear n0_ n1_ n2_ n3_ n4_ n5_;(try clear hb);(try clear hb2);(try clear hk);(try clear hi);(try clear ho0);obtain ⟨Ao183,co183,eo183⟩:=R_slice HO_4.out;subst eo183)|(go_at_call 20;(with_reducible refine (impl_TurnAround.calls kj91 _ _ t404 t490 false _ ?side1 ?side2 A139.out).mono ?_);(case side1=>exact cm (R_reads' HO_4.out).2.2);(case side2=>exact (R_reads' HO_4.out).2.1);rintro e w184 ⟨v492,rfl,ho0,hb⟩;have n0_:=Aside0.mk (R_elder' (rm HO_3.out) (R_base ho0) hb);have n1_:=Aside0.mk (R_elder' (rm HO_4.out) (R_base ho0) hb);have n2_:=Aside0.mk (R_elder' (rm HO_18.out) (R_base ho0) hb);have n3_:=Aside0.mk (R_elder' (rm HO_22.out) (R_base ho0) hb);have n4_:=Aside0.mk (R_elder' (rm HO489.out) (R_base ho0) hb);have n5_:=Aside0.mk (R_lower (R_new' (R_new' (R_new' (R_new' (R_new' ho0 (R_lt (rm HO_3.out))) (R_lt (rm HO_4.out))) (R_lt (rm HO_18.out))) (R_lt (rm HO_22.out))) (R_lt (rm HO489.out))) (below_size (hm HB.out)));have n6_:=Aside0.mk (below_step (hm HB.out) hb);clear HO_3;clear HO_4;clear HO_18;clear HO_22;clear HO489;clear HB;have HO_3:=n0_;have HO_4:=n1_;have HO_18:=n2_;have HO_22:=n3_;have HO489:=n4_;have HO493:=n5_;have HB:=n6_;clear n0_ n1_ n2_ n3_ n4_ n5_ n6_;(try clear hb);(try clear hb2);(try clear hk);(try clear hi);(try clear ho0))))
    go_ret
    exact ⟨by first|rfl|(simp [errW_none,errW_some] <;> rfl)|(simp [*,errW_none,errW_some] <;> rfl),hm HB.out⟩
  subst c141
  have H1 : (if t486 = t405 then ((laws_rInts.f kj91 t485 t490).bind fun t494=>(if t494 = true then ((laws_rSum.f kj91 t401).bind fun t495=>(if (wrap64 ((t433.length : Int) + t405)) = t495 then ((laws_rSum.f kj91 t404).bind fun t496=>((laws_rSum.f kj91 t401).bind fun t497=>(if t496 = t497 then (some (decide ((wrap64 (2 * t420)) ≤ (t401.length : Int)))) else (some false)))) else (some false))) else (some false))) else (some false)) = some r:=by rw [if_pos rfl] at H;exact H
  clear H
  have H:=H1
  clear H1
  by_cases c142 : t486 = t405
  rotate_left
  ·rw [if_neg c142] at H
   have c142b0 : (t486 == t405) = false:=beq_eq_false_iff_ne.mpr c142
   have c142b1 : (t486 != t405) = true:=bne_iff_ne.mpr c142
   as_aux_lemma =>
    obtain rfl:=Option.some.inj H
    obtain ⟨Ao177,co177,eo177⟩:=R_slice HO_18.out
    subst eo177
    go_wp2_with (first|(go_at_call 26;(with_reducible refine (impl_TurnLane.calls kj91 _ _ t424 t485 t486 true _ ?side1 ?side2 A138.out).mono ?_);(case side1=>exact cm (R_reads' HO_18.out).2.2);(case side2=>exact (R_reads' HO_18.out).2.1);rintro e w178 ⟨v488,rfl,ho0,hb⟩;have n0_:=Aside0.mk (R_elder' (rm HO_3.out) (R_base ho0) hb);have n1_:=Aside0.mk (R_elder' (rm HO_4.out) (R_base ho0) hb);have n2_:=Aside0.mk (R_elder' (rm HO_18.out) (R_base ho0) hb);have n3_:=Aside0.mk (R_elder' (rm HO_22.out) (R_base ho0) hb);have n4_:=Aside0.mk (R_lower (R_new' (R_new' (R_new' (R_new' ho0 (R_lt (rm HO_3.out))) (R_lt (rm HO_4.out))) (R_lt (rm HO_18.out))) (R_lt (rm HO_22.out))) (below_size (hm HB.out)));have n5_:=Aside0.mk (below_step (hm HB.out) hb);clear HO_3;clear HO_4;clear HO_18;clear HO_22;clear HB;have HO_3:=n0_;have HO_4:=n1_;have HO_18:=n2_;have HO_22:=n3_;have HO489:=n4_;have HB:=n5_;clear n0_ n1_ n2_ n3_ n4_ n5_;(try clear hb);(try clear hb2);(try clear hk);(try clear hi);(try clear ho0);obtain ⟨Ao179,co179,eo179⟩:=R_slice HO_4.out;subst eo179)|(go_at_call 20;(with_reducible refine (impl_TurnAround.calls kj91 _ _ t404 t490 true _ ?side1 ?side2 A139.out).mono ?_);(case side1=>exact cm (R_reads' HO_4.out).2.2);(case side2=>exact (R_reads' HO_4.out).2.1);rintro e w180 ⟨v492,rfl,ho0,hb⟩;have n0_:=Aside0.mk (R_elder' (rm HO_3.out) (R_base ho0) hb);have n1_:=Aside0.mk (R_elder' (rm HO_4.out) (R_base ho0) hb);have n2_:=Aside0.mk (R_elder' (rm HO_18.out) (R_base ho0) hb);have n3_:=Aside0.mk (R_elder' (rm HO_22.out) (R_base ho0) hb);have n4_:=Aside0.mk (R_elder' (rm HO489.out) (R_base ho0) hb);have n5_:=Aside0.mk (R_lower (R_new' (R_new' (R_new' (R_new' (R_new' ho0 (R_lt (rm HO_3.out))) (R_lt (rm HO_4.out))) (R_lt (rm HO_18.out))) (R_lt (rm HO_22.out))) (R_lt (rm HO489.out))) (below_size (hm HB.out)));have n6_:=Aside0.mk (below_step (hm HB.out) hb);clear HO_3;clear HO_4;clear HO_18;clear HO_22;clear HO489;clear HB;have HO_3:=n0_;have HO_4:=n1_;have HO_18:=n2_;have HO_22:=n3_;have HO489:=n4_;have HO493:=n5_;have HB:=n6_;clear n0_ n1_ n2_ n3_ n4_ n5_ n6_;(try clear hb);(try clear hb2);(try clear hk);(try clear hi);(try clear ho0)))
    repeat (go_quiet (fail);try go_wp2_with (first|(go_at_call 26;(with_reducible refine (impl_TurnLane.calls kj91 _ _ t424 t485 t486 true _ ?side1 ?side2 A138.out).mono ?_);(case side1=>exact cm (R_reads' HO_18.out).2.2);(case side2=>exact (R_reads' HO_18.out).2.1);rintro e w178 ⟨v488,rfl,ho0,hb⟩;have n0_:=Aside0.mk (R_elder' (rm HO_3.out) (R_base ho0) hb);have n1_:=Aside0.mk (R_elder' (rm HO_4.out) (R_base ho0) hb);have n2_:=Aside0.mk (R_elder' (rm HO_18.out) (R_base ho0) hb);have n3_:=Aside0.mk (R_elder' (rm HO_22.out) (R_base ho0) hb);have n4_:=Aside0.mk (R_lower (R_new' (R_new' (R_new' (R_new' ho0 (R_lt (rm HO_3.out))) (R_lt (rm HO_4.out))) (R_lt (rm HO_18.out))) (R_lt (rm HO_22.out))) (below_size (hm HB.out)));have n5_:=Aside0.mk (below_step (hm HB.out) hb);clear HO_3;clear HO_4;clear HO_18;clear HO_22;clear HB;have HO_3:=n0_;have HO_4:=n1_;have HO_18:=n2_;have HO_22:=n3_;have HO489:=n4_;have HB:=n5_;clear n0_ n1_ n2_ n3_ n4_ n5_;(try clear hb);(try clear hb2);(try clear hk);(try clear hi);(try clear ho0);obtain ⟨Ao179,co179,eo179⟩:=R_slice HO_4.out;subst eo179)|(go_at_call 20;(with_reducible refine (impl_TurnAround.calls kj91 _ _ t404 t490 true _ ?side1 ?side2 A139.out).mono ?_);(case side1=>exact cm (R_reads' HO_4.out).2.2);(case side2=>exact (R_reads' HO_4.out).2.1);rintro e w180 ⟨v492,rfl,ho0,hb⟩;have n0_:=Aside0.mk (R_elder' (rm HO_3.out) (R_base ho0) hb);have n1_:=Aside0.mk (R_elder' (rm HO_4.out) (R_base ho0) hb);have n2_:=Aside0.mk (R_elder' (rm HO_18.out) (R_base ho0) hb);have n3_:=Aside0.mk (R_elder' (rm HO_22.out) (R_base ho0) hb);have n4_:=Aside0.mk (R_elder' (rm HO489.out) (R_base ho0) hb);have n5_:=Aside0.mk (R_lower (R_new' (R_new' (R_new' (R_new' (R_new' ho0 (R_lt (rm HO_3.out))) (R_lt (rm HO_4.out))) (R_lt (rm HO_18.out))) (R_lt (rm HO_22.out))) (R_lt (rm HO489.out))) (below_size (hm HB.out)));have n6_:=Aside0.mk (below_step (hm HB.out) hb);clear HO_3;clear HO_4;clear HO_18;clear HO_22;clear HO489;clear HB;have HO_3:=n0_;have HO_4:=n1_;have HO_18:=n2_;have HO_22:=n3_;have HO489:=n4_;have HO493:=n5_;have HB:=n6_;clear n0_ n1_ n2_ n3_ n4_ n5_ n6_;(try clear hb);(try clear hb2);(try clear hk);(try clear hi);(try clear ho0))))
    go_ret
    exact ⟨by first|rfl|(simp [errW_none,errW_some] <;> rfl)|(simp [*,errW_none,errW_some] <;> rfl),hm HB.out⟩
  rw [if_pos c142] at H
  have c142b0 : (t486 == t405) = true:=beq_iff_eq.mpr c142
  have c142b1 : (t486 != t405) = false:=bne_eq_false_iff_eq.mpr c142
  clear c142
  replace H:=Option.bind_eq_some_iff.mp H
  obtain ⟨t494,A1430,H⟩:=H
  replace H : (if t494 = true then ((laws_rSum.f kj91 t401).bind fun t495=>(if (wrap64 ((t433.length : Int) + t405)) = t495 then ((laws_rSum.f kj91 t404).bind fun t496=>((laws_rSum.f kj91 t401).bind fun t497=>(if t496 = t497 then (some (decide ((wrap64 (2 * t420)) ≤ (t401.length : Int)))) else (some false)))) else (some false))) else (some false)) = some r:=H
  have A143:=Aside0.mk A1430
  clear A1430
  by_cases c144 : t494 = true
  rotate_left
  ·replace c144:=Bool.eq_false_iff.mpr c144
   subst c144
   have H1 : (some false) = some r:=by rw [if_neg (show ¬ (false = true) by decide)] at H;exact H
   clear H
   have H:=H1
   clear H1
   as_aux_lemma =>
    obtain rfl:=Option.some.inj H
    obtain ⟨Ao171,co171,eo171⟩:=R_slice HO_18.out
    subst eo171
    go_wp2_with (first|(go_at_call 26;(with_reducible refine (impl_TurnLane.calls kj91 _ _ t424 t485 t486 true _ ?side1 ?side2 A138.out).mono ?_);(case side1=>exact cm (R_reads' HO_18.out).2.2);(case side2=>exact (R_reads' HO_18.out).2.1);rintro e w172 ⟨v488,rfl,ho0,hb⟩;have n0_:=Aside0.mk (R_elder' (rm HO_3.out) (R_base ho0) hb);have n1_:=Aside0.mk (R_elder' (rm HO_4.out) (R_base ho0) hb);have n2_:=Aside0.mk (R_elder' (rm HO_18.out) (R_base ho0) hb);have n3_:=Aside0.mk (R_elder' (rm HO_22.out) (R_base ho0) hb);have n4_:=Aside0.mk (R_lower (R_new' (R_new' (R_new' (R_new' ho0 (R_lt (rm HO_3.out))) (R_lt (rm HO_4.out))) (R_lt (rm HO_18.out))) (R_lt (rm HO_22.out))) (below_size (hm HB.out)));have n5_:=Aside0.mk (below_step (hm HB.out) hb);clear HO_3;clear HO_4;clear HO_18;clear HO_22;clear HB;have HO_3:=n0_;have HO_4:=n1_;have HO_18:=n2_;have HO_22:=n3_;have HO489:=n4_;have HB:=n5_;clear n0_ n1_ n2_ n3_ n4_ n5_;(try clear hb);(try clear hb2);(try clear hk);(try clear hi);(try clear ho0);obtain ⟨Ao173,co173,eo173⟩:=R_slice HO_4.out;subst eo173)|(go_at_call 20;(with_reducible refine (impl_TurnAround.calls kj91 _ _ t404 t490 true _ ?side1 ?side2 A139.out).mono ?_);(case side1=>exact cm (R_reads' HO_4.out).2.2);(case side2=>exact (R_reads' HO_4.out).2.1);rintro e w174 ⟨v492,rfl,ho0,hb⟩;have n0_:=Aside0.mk (R_elder' (rm HO_3.out) (R_base ho0) hb);have n1_:=Aside0.mk (R_elder' (rm HO_4.out) (R_base ho0) hb);have n2_:=Aside0.mk (R_elder' (rm HO_18.out) (R_base ho0) hb);have n3_:=Aside0.mk (R_elder' (rm HO_22.out) (R_base ho0) hb);have n4_:=Aside0.mk (R_elder' (rm HO489.out) (R_base ho0) hb);have n5_:=Aside0.mk (R_lower (R_new' (R_new' (R_new' (R_new' (R_new' ho0 (R_lt (rm HO_3.out))) (R_lt (rm HO_4.out))) (R_lt (rm HO_18.out))) (R_lt (rm HO_22.out))) (R_lt (rm HO489.out))) (below_size (hm HB.out)));have n6_:=Aside0.mk (below_step (hm HB.out) hb);clear HO_3;clear HO_4;clear HO_18;clear HO_22;clear HO489;clear HB;have HO_3:=n0_;have HO_4:=n1_;have HO_18:=n2_;have HO_22:=n3_;have HO489:=n4_;have HO493:=n5_;have HB:=n6_;clear n0_ n1_ n2_ n3_ n4_ n5_ n6_;(try clear hb);(try clear hb2);(try clear hk);(try clear hi);(try clear ho0);obtain ⟨Ao175,co175,eo175⟩:=R_slice HO489.out;subst eo175;obtain ⟨Ao176,co176,eo176⟩:=R_slice HO493.out;subst eo176)|(go_at_call 37;(with_reducible refine (laws_rInts.calls kj91 _ _ t485 _ _ t490 false _ ?side1 ?side2 ?side3 ?side4 A143.out).mono ?_);(case side1=>exact cm (R_reads' HO489.out).2.2);(case side2=>exact (R_reads' HO489.out).2.1);(case side3=>exact cm (R_reads' HO493.out).2.2);(case side4=>exact (R_reads' HO493.out).2.1);rintro e w' ⟨rfl,⟨nd,rfl⟩⟩;(try first|exact ⟨rfl,_,World.drewN_drewN _ _ _⟩|exact ⟨rfl,_,Eq.trans (World.drewN_drewN _ _ _) (congrArg (World.drewN _) (Nat.add_assoc _ _ _))⟩)))
    repeat (go_quiet (first|(go_at_call 37;(with_reducible refine (laws_rInts.calls kj91 _ _ t485 _ _ t490 false _ ?side1 ?side2 ?side3 ?side4 A143.out).mono ?_);(case side1=>exact cm (R_reads' HO489.out).2.2);(case side2=>exact (R_reads' HO489.out).2.1);(case side3=>exact cm (R_reads' HO493.out).2.2);(case side4=>exact (R_reads' HO493.out).2.1);rintro e w' ⟨rfl,⟨nd,rfl⟩⟩;(try first|exact ⟨rfl,_,World.drewN_drewN _ _ _⟩|exact ⟨rfl,_,Eq.trans (World.drewN_drewN _ _ _) (congrArg (World.drewN _) (Nat.add_assoc _ _ _))⟩)));try go_wp2_with (first|(go_at_call 26;(with_reducible refine (impl_TurnLane.calls kj91 _ _ t424 t485 t486 true _ ?side1 ?side2 A138.out).mono ?_);(case side1=>exact cm (R_reads' HO_18.out).2.2);(case side2=>exact (R_reads' HO_18.out).2.1);rintro e w172 ⟨v488,rfl,ho0,hb⟩;have n0_:=Aside0.mk (R_elder' (rm HO_3.out) (R_base ho0) hb);have n1_:=Aside0.mk (R_elder' (rm HO_4.out) (R_base ho0) hb);have n2_:=Aside0.mk (R_elder' (rm HO_18.out) (R_base ho0) hb);have n3_:=Aside0.mk (R_elder' (rm HO_22.out) (R_base ho0) hb);have n4_:=Aside0.mk (R_lower (R_new' (R_new' (R_new' (R_new' ho0 (R_lt (rm HO_3.out))) (R_lt (rm HO_4.out))) (R_lt (rm HO_18.out))) (R_lt (rm HO_22.out))) (below_size (hm HB.out)));have n5_:=Aside0.mk (below_step (hm HB.out) hb);clear HO_3;clear HO_4;clear HO_18;clear HO_22;clear HB;have HO_3:=n0_;have HO_4:=n1_;have HO_18:=n2_;have HO_22:=n3_;have HO489:=n4_;have HB:=n5_;clear n0_ n1_ n2_ n3_ n4_ n5_;(try clear hb);(try clear hb2);(try clear hk);(try clear hi);(try clear ho0);obtain ⟨Ao173,co173,eo173⟩:=R_slice HO_4.out;subst eo173)|(go_at_call 20;(with_reducible refine (impl_TurnAround.calls kj91 _ _ t404 t490 true _ ?side1 ?side2 A139.out).mono ?_);(case side1=>exact cm (R_reads' HO_4.out).2.2);(case side2=>exact (R_reads' HO_4.out).2.1);rintro e w174 ⟨v492,rfl,ho0,hb⟩;have n0_:=Aside0.mk (R_elder' (rm HO_3.out) (R_base ho0) hb);have n1_:=Aside0.mk (R_elder' (rm HO_4.out) (R_base ho0) hb);have n2_:=Aside0.mk (R_elder' (rm HO_18.out) (R_base ho0) hb);have n3_:=Aside0.mk (R_elder' (rm HO_22.out) (R_base ho0) hb);have n4_:=Aside0.mk (R_elder' (rm HO489.out) (R_base ho0) hb);have n5_:=Aside0.mk (R_lower (R_new' (R_new' (R_new' (R_new' (R_new' ho0 (R_lt (rm HO_3.out))) (R_lt (rm HO_4.out))) (R_lt (rm HO_18.out))) (R_lt (rm HO_22.out))) (R_lt (rm HO489.out))) (below_size (hm HB.out)));have n6_:=Aside0.mk (below_step (hm HB.out) hb);clear HO_3;clear HO_4;clear HO_18;clear HO_22;clear HO489;clear HB;have HO_3:=n0_;have HO_4:=n1_;have HO_18:=n2_;have HO_22:=n3_;have HO489:=n4_;have HO493:=n5_;have HB:=n6_;clear n0_ n1_ n2_ n3_ n4_ n5_ n6_;(try clear hb);(try clear hb2);(try clear hk);(try clear hi);(try clear ho0);obtain ⟨Ao175,co175,eo175⟩:=R_slice HO489.out;subst eo175;obtain ⟨Ao176,co176,eo176⟩:=R_slice HO493.out;subst eo176)|(go_at_call 37;(with_reducible refine (laws_rInts.calls kj91 _ _ t485 _ _ t490 false _ ?side1 ?side2 ?side3 ?side4 A143.out).mono ?_);(case side1=>exact cm (R_reads' HO489.out).2.2);(case side2=>exact (R_reads' HO489.out).2.1);(case side3=>exact cm (R_reads' HO493.out).2.2);(case side4=>exact (R_reads' HO493.out).2.1);rintro e w' ⟨rfl,⟨nd,rfl⟩⟩;(try first|exact ⟨rfl,_,World.drewN_drewN _ _ _⟩|exact ⟨rfl,_,Eq.trans (World.drewN_drewN _ _ _) (congrArg (World.drewN _) (Nat.add_assoc _ _ _))⟩))))
    go_ret
    exact ⟨by first|rfl|(simp [errW_none,errW_some] <;> rfl)|(simp [*,errW_none,errW_some] <;> rfl),hm HB.out⟩
  subst c144
  have H1 : ((laws_rSum.f kj91 t401).bind fun t495=>(if (wrap64 ((t433.length : Int) + t405)) = t495 then ((laws_rSum.f kj91 t404).bind fun t496=>((laws_rSum.f kj91 t401).bind fun t497=>(if t496 = t497 then (some (decide ((wrap64 (2 * t420)) ≤ (t401.length : Int)))) else (some false)))) else (some false))) = some r:=by rw [if_pos rfl] at H;exact H
  clear H
  have H:=H1
  clear H1
  replace H:=Option.bind_eq_some_iff.mp H
  obtain ⟨t495,A1450,H⟩:=H
  replace H : (if (wrap64 ((t433.length : Int) + t405)) = t495 then ((laws_rSum.f kj91 t404).bind fun t496=>((laws_rSum.f kj91 t401).bind fun t497=>(if t496 = t497 then (some (decide ((wrap64 (2 * t420)) ≤ (t401.length : Int)))) else (some false)))) else (some false)) = some r:=H
  have A145:=Aside0.mk A1450
  clear A1450
  by_cases c146 : (wrap64 ((t433.length : Int) + t405)) = t495
  rotate_left
  ·rw [if_neg c146] at H
   have c146b0 : ((wrap64 ((t433.length : Int) + t405)) == t495) = false:=beq_eq_false_iff_ne.mpr c146
   have c146b1 : ((wrap64 ((t433.length : Int) + t405)) != t495) = true:=bne_iff_ne.mpr c146
   as_aux_lemma =>
    obtain rfl:=Option.some.inj H
    obtain ⟨Ao164,co164,eo164⟩:=R_slice HO_18.out
    subst eo164
    go_wp2_with (first|(go_at_call 26;(with_reducible refine (impl_TurnLane.calls kj91 _ _ t424 t485 t486 true _ ?side1 ?side2 A138.out).mono ?_);(case side1=>exact cm (R_reads' HO_18.out).2.2);(case side2=>exact (R_reads' HO_18.out).2.1);rintro e w165 ⟨v488,rfl,ho0,hb⟩;have n0_:=Aside0.mk (R_elder' (rm HO_3.out) (R_base ho0) hb);have n1_:=Aside0.mk (R_elder' (rm HO_4.out) (R_base ho0) hb);have n2_:=Aside0.mk (R_elder' (rm HO_18.out) (R_base ho0) hb);have n3_:=Aside0.mk (R_elder' (rm HO_22.out) (R_base ho0) hb);have n4_:=Aside0.mk (R_lower (R_new' (R_new' (R_new' (R_new' ho0 (R_lt (rm HO_3.out))) (R_lt (rm HO_4.out))) (R_lt (rm HO_18.out))) (R_lt (rm HO_22.out))) (below_size (hm HB.out)));have n5_:=Aside0.mk (below_step (hm HB.out) hb);clear HO_3;clear HO_4;clear HO_18;clear HO_22;clear HB;have HO_3:=n0_;have HO_4:=n1_;have HO_18:=n2_;have HO_22:=n3_;have HO489:=n4_;have HB:=n5_;clear n0_ n1_ n2_ n3_ n4_ n5_;(try clear hb);(try clear hb2);(try clear hk);(try clear hi);(try clear ho0);obtain ⟨Ao166,co166,eo166⟩:=R_slice HO_4.out;subst eo166)|(go_at_call 20;(with_reducible refine (impl_TurnAround.calls kj91 _ _ t404 t490 true _ ?side1 ?side2 A139.out).mono ?_);(case side1=>exact cm (R_reads' HO_4.out).2.2);(case side2=>exact (R_reads' HO_4.out).2.1);rintro e w167 ⟨v492,rfl,ho0,hb⟩;have n0_:=Aside0.mk (R_elder' (rm HO_3.out) (R_base ho0) hb);have n1_:=Aside0.mk (R_elder' (rm HO_4.out) (R_base ho0) hb);have n2_:=Aside0.mk (R_elder' (rm HO_18.out) (R_base ho0) hb);have n3_:=Aside0.mk (R_elder' (rm HO_22.out) (R_base ho0) hb);have n4_:=Aside0.mk (R_elder' (rm HO489.out) (R_base ho0) hb);have n5_:=Aside0.mk (R_lower (R_new' (R_new' (R_new' (R_new' (R_new' ho0 (R_lt (rm HO_3.out))) (R_lt (rm HO_4.out))) (R_lt (rm HO_18.out))) (R_lt (rm HO_22.out))) (R_lt (rm HO489.out))) (below_size (hm HB.out)));have n6_:=Aside0.mk (below_step (hm HB.out) hb);clear HO_3;clear HO_4;clear HO_18;clear HO_22;clear HO489;clear HB;have HO_3:=n0_;have HO_4:=n1_;have HO_18:=n2_;have HO_22:=n3_;have HO489:=n4_;have HO493:=n5_;have HB:=n6_;clear n0_ n1_ n2_ n3_ n4_ n5_ n6_;(try clear hb);(try clear hb2);(try clear hk);(try clear hi);(try clear ho0);obtain ⟨Ao168,co168,eo168⟩:=R_slice HO489.out;subst eo168;obtain ⟨Ao169,co169,eo169⟩:=R_slice HO493.out;subst eo169)|(go_at_call 37;(with_reducible refine (laws_rInts.calls kj91 _ _ t485 _ _ t490 true _ ?side1 ?side2 ?side3 ?side4 A143.out).mono ?_);(case side1=>exact cm (R_reads' HO489.out).2.2);(case side2=>exact (R_reads' HO489.out).2.1);(case side3=>exact cm (R_reads' HO493.out).2.2);(case side4=>exact (R_reads' HO493.out).2.1);rintro e w' ⟨rfl,⟨nd,rfl⟩⟩;(try first|exact ⟨rfl,_,World.drewN_drewN _ _ _⟩|exact ⟨rfl,_,Eq.trans (World.drewN_drewN _ _ _) (congrArg (World.drewN _) (Nat.add_assoc _ _ _))⟩);obtain ⟨Ao170,co170,eo170⟩:=R_slice HO_22.out;subst eo170)|(go_at_call 39;(with_reducible refine (laws_rSum.calls kj91 _ _ t401 t495 _ ?side1 ?side2 A145.out).mono ?_);(case side1=>exact cm (R_reads' HO_3.out).2.2);(case side2=>exact (R_reads' HO_3.out).2.1);rintro e w' ⟨rfl,⟨nd,rfl⟩⟩;(try first|exact ⟨rfl,_,World.drewN_drewN _ _ _⟩|exact ⟨rfl,_,Eq.trans (World.drewN_drewN _ _ _) (congrArg (World.drewN _) (Nat.add_assoc _ _ _))⟩)))
    repeat (go_quiet (first|(go_at_call 37;(with_reducible refine (laws_rInts.calls kj91 _ _ t485 _ _ t490 true _ ?side1 ?side2 ?side3 ?side4 A143.out).mono ?_);(case side1=>exact cm (R_reads' HO489.out).2.2);(case side2=>exact (R_reads' HO489.out).2.1);(case side3=>exact cm (R_reads' HO493.out).2.2);(case side4=>exact (R_reads' HO493.out).2.1);rintro e w' ⟨rfl,⟨nd,rfl⟩⟩;(try first|exact ⟨rfl,_,World.drewN_drewN _ _ _⟩|exact ⟨rfl,_,Eq.trans (World.drewN_drewN _ _ _) (congrArg (World.drewN _) (Nat.add_assoc _ _ _))⟩);obtain ⟨Ao170,co170,eo170⟩:=R_slice HO_22.out;subst eo170)|(go_at_call 39;(with_reducible refine (laws_rSum.calls kj91 _ _ t401 t495 _ ?side1 ?side2 A145.out).mono ?_);(case side1=>exact cm (R_reads' HO_3.out).2.2);(case side2=>exact (R_reads' HO_3.out).2.1);rintro e w' ⟨rfl,⟨nd,rfl⟩⟩;(try first|exact ⟨rfl,_,World.drewN_drewN _ _ _⟩|exact ⟨rfl,_,Eq.trans (World.drewN_drewN _ _ _) (congrArg (World.drewN _) (Nat.add_assoc _ _ _))⟩)));try go_wp2_with (first|(go_at_call 26;(with_reducible refine (impl_TurnLane.calls kj91 _ _ t424 t485 t486 true _ ?side1 ?side2 A138.out).mono ?_);(case side1=>exact cm (R_reads' HO_18.out).2.2);(case side2=>exact (R_reads' HO_18.out).2.1);rintro e w165 ⟨v488,rfl,ho0,hb⟩;have n0_:=Aside0.mk (R_elder' (rm HO_3.out) (R_base ho0) hb);have n1_:=Aside0.mk (R_elder' (rm HO_4.out) (R_base ho0) hb);have n2_:=Aside0.mk (R_elder' (rm HO_18.out) (R_base ho0) hb);have n3_:=Aside0.mk (R_elder' (rm HO_22.out) (R_base ho0) hb);have n4_:=Aside0.mk (R_lower (R_new' (R_new' (R_new' (R_new' ho0 (R_lt (rm HO_3.out))) (R_lt (rm HO_4.out))) (R_lt (rm HO_18.out))) (R_lt (rm HO_22.out))) (below_size (hm HB.out)));have n5_:=Aside0.mk (below_step (hm HB.out) hb);clear HO_3;clear HO_4;clear HO_18;clear HO_22;clear HB;have HO_3:=n0_;have HO_4:=n1_;have HO_18:=n2_;have HO_22:=n3_;have HO489:=n4_;have HB:=n5_;clear n0_ n1_ n2_ n3_ n4_ n5_;(try clear hb);(try clear hb2);(try clear hk);(try clear hi);(try clear ho0);obtain ⟨Ao166,co166,eo166⟩:=R_slice HO_4.out;subst eo166)|(go_at_call 20;(with_reducible refine (impl_TurnAround.calls kj91 _ _ t404 t490 true _ ?side1 ?side2 A139.out).mono ?_);(case side1=>exact cm (R_reads' HO_4.out).2.2);(case side2=>exact (R_reads' HO_4.out).2.1);rintro e w167 ⟨v492,rfl,ho0,hb⟩;have n0_:=Aside0.mk (R_elder' (rm HO_3.out) (R_base ho0) hb);have n1_:=Aside0.mk (R_elder' (rm HO_4.out) (R_base ho0) hb);have n2_:=Aside0.mk (R_elder' (rm HO_18.out) (R_base ho0) hb);have n3_:=Aside0.mk (R_elder' (rm HO_22.out) (R_base ho0) hb);have n4_:=Aside0.mk (R_elder' (rm HO489.out) (R_base ho0) hb);have n5_:=Aside0.mk (R_lower (R_new' (R_new' (R_new' (R_new' (R_new' ho0 (R_lt (rm HO_3.out))) (R_lt (rm HO_4.out))) (R_lt (rm HO_18.out))) (R_lt (rm HO_22.out))) (R_lt (rm HO489.out))) (below_size (hm HB.out)));have n6_:=Aside0.mk (below_step (hm HB.out) hb);clear HO_3;clear HO_4;clear HO_18;clear HO_22;clear HO489;clear HB;have HO_3:=n0_;have HO_4:=n1_;have HO_18:=n2_;have HO_22:=n3_;have HO489:=n4_;have HO493:=n5_;have HB:=n6_;clear n0_ n1_ n2_ n3_ n4_ n5_ n6_;(try clear hb);(try clear hb2);(try clear hk);(try clear hi);(try clear ho0);obtain ⟨Ao168,co168,eo168⟩:=R_slice HO489.out;subst eo168;obtain ⟨Ao169,co169,eo169⟩:=R_slice HO493.out;subst eo169)|(go_at_call 37;(with_reducible refine (laws_rInts.calls kj91 _ _ t485 _ _ t490 true _ ?side1 ?side2 ?side3 ?side4 A143.out).mono ?_);(case side1=>exact cm (R_reads' HO489.out).2.2);(case side2=>exact (R_reads' HO489.out).2.1);(case side3=>exact cm (R_reads' HO493.out).2.2);(case side4=>exact (R_reads' HO493.out).2.1);rintro e w' ⟨rfl,⟨nd,rfl⟩⟩;(try first|exact ⟨rfl,_,World.drewN_drewN _ _ _⟩|exact ⟨rfl,_,Eq.trans (World.drewN_drewN _ _ _) (congrArg (World.drewN _) (Nat.add_assoc _ _ _))⟩);obtain ⟨Ao170,co170,eo170⟩:=R_slice HO_22.out;subst eo170)|(go_at_call 39;(with_reducible refine (laws_rSum.calls kj91 _ _ t401 t495 _ ?side1 ?side2 A145.out).mono ?_);(case side1=>exact cm (R_reads' HO_3.out).2.2);(case side2=>exact (R_reads' HO_3.out).2.1);rintro e w' ⟨rfl,⟨nd,rfl⟩⟩;(try first|exact ⟨rfl,_,World.drewN_drewN _ _ _⟩|exact ⟨rfl,_,Eq.trans (World.drewN_drewN _ _ _) (congrArg (World.drewN _) (Nat.add_assoc _ _ _))⟩))))
    go_ret
    exact ⟨by first|rfl|(simp [errW_none,errW_some] <;> rfl)|(simp [*,errW_none,errW_some] <;> rfl),hm HB.out⟩
  rw [if_pos c146] at H
  have c146b0 : ((wrap64 ((t433.length : Int) + t405)) == t495) = true:=beq_iff_eq.mpr c146
  have c146b1 : ((wrap64 ((t433.length : Int) + t405)) != t495) = false:=bne_eq_false_iff_eq.mpr c146
  clear c146
  replace H:=Option.bind_eq_some_iff.mp H
  obtain ⟨t496,A1470,H⟩:=H
  replace H : ((laws_rSum.f kj91 t401).bind fun t497=>(if t496 = t497 then (some (decide ((wrap64 (2 * t420)) ≤ (t401.length : Int)))) else (some false))) = some r:=H
  have A147:=Aside0.mk A1470
  clear A1470
  replace H:=Option.bind_eq_some_iff.mp H
  obtain ⟨t497,A1480,H⟩:=H
  replace H : (if t496 = t497 then (some (decide ((wrap64 (2 * t420)) ≤ (t401.length : Int)))) else (some false)) = some r:=H
  have A148:=Aside0.mk A1480
  clear A1480
  by_cases c149 : t496 = t497
  rotate_left
  ·rw [if_neg c149] at H
   have c149b0 : (t496 == t497) = false:=beq_eq_false_iff_ne.mpr c149
   have c149b1 : (t496 != t497) = true:=bne_iff_ne.mpr c149
   have e_ := Option.some.inj (A145.out.symm.trans A148.out)
   have c149b2 : (t496 == t495) = false := by rw [e_]; exact c149b0
   have c149b3 : (t496 != t495) = true := by rw [e_]; exact c149b1
   clear e_
   as_aux_lemma =>
    obtain rfl:=Option.some.inj H
    obtain ⟨Ao157,co157,eo157⟩:=R_slice HO_18.out
    subst eo157
    go_wp2_with (first|(go_at_call 26;(with_reducible refine (impl_TurnLane.calls kj91 _ _ t424 t485 t486 true _ ?side1 ?side2 A138.out).mono ?_);(case side1=>exact cm (R_reads' HO_18.out).2.2);(case side2=>exact (R_reads' HO_18.out).2.1);rintro e w158 ⟨v488,rfl,ho0,hb⟩;have n0_:=Aside0.mk (R_elder' (rm HO_3.out) (R_base ho0) hb);have n1_:=Aside0.mk (R_elder' (rm HO_4.out) (R_base ho0) hb);have n2_:=Aside0.mk (R_elder' (rm HO_18.out) (R_base ho0) hb);have n3_:=Aside0.mk (R_elder' (rm HO_22.out) (R_base ho0) hb);have n4_:=Aside0.mk (R_lower (R_new' (R_new' (R_new' (R_new' ho0 (R_lt (rm HO_3.out))) (R_lt (rm HO_4.out))) (R_lt (rm HO_18.out))) (R_lt (rm HO_22.out))) (below_size (hm HB.out)));have n5_:=Aside0.mk (below_step (hm HB.out) hb);clear HO_3;clear HO_4;clear HO_18;clear HO_22;clear HB;have HO_3:=n0_;have HO_4:=n1_;have HO_18:=n2_;have HO_22:=n3_;have HO489:=n4_;have HB:=n5_;clear n0_ n1_ n2_ n3_ n4_ n5_;(try clear hb);(try clear hb2);(try clear hk);(try clear hi);(try clear ho0);obtain ⟨Ao159,co159,eo159⟩:=R_slice HO_4.out;subst eo159)|(go_at_call 20;(with_reducible refine (impl_TurnAround.calls kj91 _ _ t404 t490 true _ ?side1 ?side2 A139.out).mono ?_);(case side1=>exact cm (R_reads' HO_4.out).2.2);(case side2=>exact (R_reads' HO_4.out).2.1);rintro e w160 ⟨v492,rfl,ho0,hb⟩;have n0_:=Aside0.mk (R_elder' (rm HO_3.out) (R_base ho0) hb);have n1_:=Aside0.mk (R_elder' (rm HO_4.out) (R_base ho0) hb);have n2_:=Aside0.mk (R_elder' (rm HO_18.out) (R_base ho0) hb);have n3_:=Aside0.mk (R_elder' (rm HO_22.out) (R_base ho0) hb);have n4_:=Aside0.mk (R_elder' (rm HO489.out) (R_base ho0) hb);have n5_:=Aside0.mk (R_lower (R_new' (R_new' (R_new' (R_new' (R_new' ho0 (R_lt (rm HO_3.out))) (R_lt (rm HO_4.out))) (R_lt (rm HO_18.out))) (R_lt (rm HO_22.out))) (R_lt (rm HO489.out))) (below_size (hm HB.out)));have n6_:=Aside0.mk (below_step (hm HB.out) hb);clear HO_3;clear HO_4;clear HO_18;clear HO_22;clear HO489;clear HB;have HO_3:=n0_;have HO_4:=n1_;have HO_18:=n2_;have HO_22:=n3_;have HO489:=n4_;have HO493:=n5_;have HB:=n6_;clear n0_ n1_ n2_ n3_ n4_ n5_ n6_;(try clear hb);(try clear hb2);(try clear hk);(try clear hi);(try clear ho0);obtain ⟨Ao161,co161,eo161⟩:=R_slice HO489.out;subst eo161;obtain ⟨Ao162,co162,eo162⟩:=R_slice HO493.out;subst eo162)|(go_at_call 37;(with_reducible refine (laws_rInts.calls kj91 _ _ t485 _ _ t490 true _ ?side1 ?side2 ?side3 ?side4 A143.out).mono ?_);(case side1=>exact cm (R_reads' HO489.out).2.2);(case side2=>exact (R_reads' HO489.out).2.1);(case side3=>exact cm (R_reads' HO493.out).2.2);(case side4=>exact (R_reads' HO493.out).2.1);rintro e w' ⟨rfl,⟨nd,rfl⟩⟩;(try first|exact ⟨rfl,_,World.drewN_drewN _ _ _⟩|exact ⟨rfl,_,Eq.trans (World.drewN_drewN _ _ _) (congrArg (World.drewN _) (Nat.add_assoc _ _ _))⟩);obtain ⟨Ao163,co163,eo163⟩:=R_slice HO_22.out;subst eo163)|(go_at_call 39;(with_reducible refine (laws_rSum.calls kj91 _ _ t401 t495 _ ?side1 ?side2 A145.out).mono ?_);(case side1=>exact cm (R_reads' HO_3.out).2.2);(case side2=>exact (R_reads' HO_3.out).2.1);rintro e w' ⟨rfl,⟨nd,rfl⟩⟩;(try first|exact ⟨rfl,_,World.drewN_drewN _ _ _⟩|exact ⟨rfl,_,Eq.trans (World.drewN_drewN _ _ _) (congrArg (World.drewN _) (Nat.add_assoc _ _ _))⟩))|(go_at_call 39;(with_reducible refine (laws_rSum.calls kj91 _ _ t404 t496 _ ?side1 ?side2 A147.out).mono ?_);(case side1=>exact cm (R_reads' HO_4.out).2.2);(case side2=>exact (R_reads' HO_4.out).2.1);rintro e w' ⟨rfl,⟨nd,rfl⟩⟩;(try first|exact ⟨rfl,_,World.drewN_drewN _ _ _⟩|exact ⟨rfl,_,Eq.trans (World.drewN_drewN _ _ _) (congrArg (World.drewN _) (Nat.add_assoc _ _ _))⟩))|(go_at_call 39;(with_reducible refine (laws_rSum.calls kj91 _ _ t401 t497 _ ?side1 ?side2 A148.out).mono ?_);(case side1=>exact cm (R_reads' HO_3.out).2.2);(case side2=>exact (R_reads' HO_3.out).2.1);rintro e w' ⟨rfl,⟨nd,rfl⟩⟩;(try first|exact ⟨rfl,_,World.drewN_drewN _ _ _⟩|exact ⟨rfl,_,Eq.trans (World.drewN_drewN _ _ _) (congrArg (World.drewN _) (Nat.add_assoc _ _ _))⟩)))
    repeat (go_quiet (first|(go_at_call 37;(with_reducible refine (laws_rInts.calls kj91 _ _ t485 _ _ t490 true _ ?side1 ?side2 ?side3 ?side4 A143.out).mono ?_);(case side1=>exact cm (R_reads' HO489.out).2.2);(case side2=>exact (R_reads' HO489.out).2.1);(case side3=>exact cm (R_reads' HO493.out).2.2);(case side4=>exact (R_reads' HO493.out).2.1);rintro e w' ⟨rfl,⟨nd,rfl⟩⟩;(try first|exact ⟨rfl,_,World.drewN_drewN _ _ _⟩|exact ⟨rfl,_,Eq.trans (World.drewN_drewN _ _ _) (congrArg (World.drewN _) (Nat.add_assoc _ _ _))⟩);obtain ⟨Ao163,co163,eo163⟩:=R_slice HO_22.out;subst eo163)|(go_at_call 39;(with_reducible refine (laws_rSum.calls kj91 _ _ t401 t495 _ ?side1 ?side2 A145.out).mono ?_);(case side1=>exact cm (R_reads' HO_3.out).2.2);(case side2=>exact (R_reads' HO_3.out).2.1);rintro e w' ⟨rfl,⟨nd,rfl⟩⟩;(try first|exact ⟨rfl,_,World.drewN_drewN _ _ _⟩|exact ⟨rfl,_,Eq.trans (World.drewN_drewN _ _ _) (congrArg (World.drewN _) (Nat.add_assoc _ _ _))⟩))|(go_at_call 39;(with_reducible refine (laws_rSum.calls kj91 _ _ t404 t496 _ ?side1 ?side2 A147.out).mono ?_);(case side1=>exact cm (R_reads' HO_4.out).2.2);(case side2=>exact (R_reads' HO_4.out).2.1);rintro e w' ⟨rfl,⟨nd,rfl⟩⟩;(try first|exact ⟨rfl,_,World.drewN_drewN _ _ _⟩|exact ⟨rfl,_,Eq.trans (World.drewN_drewN _ _ _) (congrArg (World.drewN _) (Nat.add_assoc _ _ _))⟩))|(go_at_call 39;(with_reducible refine (laws_rSum.calls kj91 _ _ t401 t497 _ ?side1 ?side2 A148.out).mono ?_);(case side1=>exact cm (R_reads' HO_3.out).2.2);(case side2=>exact (R_reads' HO_3.out).2.1);rintro e w' ⟨rfl,⟨nd,rfl⟩⟩;(try first|exact ⟨rfl,_,World.drewN_drewN _ _ _⟩|exact ⟨rfl,_,Eq.trans (World.drewN_drewN _ _ _) (congrArg (World.drewN _) (Nat.add_assoc _ _ _))⟩)));try go_wp2_with (first|(go_at_call 26;(with_reducible refine (impl_TurnLane.calls kj91 _ _ t424 t485 t486 true _ ?side1 ?side2 A138.out).mono ?_);(case side1=>exact cm (R_reads' HO_18.out).2.2);(case side2=>exact (R_reads' HO_18.out).2.1);rintro e w158 ⟨v488,rfl,ho0,hb⟩;have n0_:=Aside0.mk (R_elder' (rm HO_3.out) (R_base ho0) hb);have n1_:=Aside0.mk (R_elder' (rm HO_4.out) (R_base ho0) hb);have n2_:=Aside0.mk (R_elder' (rm HO_18.out) (R_base ho0) hb);have n3_:=Aside0.mk (R_elder' (rm HO_22.out) (R_base ho0) hb);have n4_:=Aside0.mk (R_lower (R_new' (R_new' (R_new' (R_new' ho0 (R_lt (rm HO_3.out))) (R_lt (rm HO_4.out))) (R_lt (rm HO_18.out))) (R_lt (rm HO_22.out))) (below_size (hm HB.out)));have n5_:=Aside0.mk (below_step (hm HB.out) hb);clear HO_3;clear HO_4;clear HO_18;clear HO_22;clear HB;have HO_3:=n0_;have HO_4:=n1_;have HO_18:=n2_;have HO_22:=n3_;have HO489:=n4_;have HB:=n5_;clear n0_ n1_ n2_ n3_ n4_ n5_;(try clear hb);(try clear hb2);(try clear hk);(try clear hi);(try clear ho0);obtain ⟨Ao159,co159,eo159⟩:=R_slice HO_4.out;subst eo159)|(go_at_call 20;(with_reducible refine (impl_TurnAround.calls kj91 _ _ t404 t490 true _ ?side1 ?side2 A139.out).mono ?_);(case side1=>exact cm (R_reads' HO_4.out).2.2);(case side2=>exact (R_reads' HO_4.out).2.1);rintro e w160 ⟨v492,rfl,ho0,hb⟩;have n0_:=Aside0.mk (R_elder' (rm HO_3.out) (R_base ho0) hb);have n1_:=Aside0.mk (R_elder' (rm HO_4.out) (R_base ho0) hb);have n2_:=Aside0.mk (R_elder' (rm HO_18.out) (R_base ho0) hb);have n3_:=Aside0.mk (R_elder' (rm HO_22.out) (R_base ho0) hb);have n4_:=Aside0.mk (R_elder' (rm HO489.out) (R_base ho0) hb);have n5_:=Aside0.mk (R_lower (R_new' (R_new' (R_new' (R_new' (R_new' ho0 (R_lt (rm HO_3.out))) (R_lt (rm HO_4.out))) (R_lt (rm HO_18.out))) (R_lt (rm HO_22.out))) (R_lt (rm HO489.out))) (below_size (hm HB.out)));have n6_:=Aside0.mk (below_step (hm HB.out) hb);clear HO_3;clear HO_4;clear HO_18;clear HO_22;clear HO489;clear HB;have HO_3:=n0_;have HO_4:=n1_;have HO_18:=n2_;have HO_22:=n3_;have HO489:=n4_;have HO493:=n5_;have HB:=n6_;clear n0_ n1_ n2_ n3_ n4_ n5_ n6_;(try clear hb);(try clear hb2);(try clear hk);(try clear hi);(try clear ho0);obtain ⟨Ao161,co161,eo161⟩:=R_slice HO489.out;subst eo161;obtain ⟨Ao162,co162,eo162⟩:=R_slice HO493.out;subst eo162)|(go_at_call 37;(with_reducible refine (laws_rInts.calls kj91 _ _ t485 _ _ t490 true _ ?side1 ?side2 ?side3 ?side4 A143.out).mono ?_);(case side1=>exact cm (R_reads' HO489.out).2.2);(case side2=>exact (R_reads' HO489.out).2.1);(case side3=>exact cm (R_reads' HO493.out).2.2);(case side4=>exact (R_reads' HO493.out).2.1);rintro e w' ⟨rfl,⟨nd,rfl⟩⟩;(try first|exact ⟨rfl,_,World.drewN_drewN _ _ _⟩|exact ⟨rfl,_,Eq.trans (World.drewN_drewN _ _ _) (congrArg (World.drewN _) (Nat.add_assoc _ _ _))⟩);obtain ⟨Ao163,co163,eo163⟩:=R_slice HO_22.out;subst eo163)|(go_at_call 39;(with_reducible refine (laws_rSum.calls kj91 _ _ t401 t495 _ ?side1 ?side2 A145.out).mono ?_);(case side1=>exact cm (R_reads' HO_3.out).2.2);(case side2=>exact (R_reads' HO_3.out).2.1);rintro e w' ⟨rfl,⟨nd,rfl⟩⟩;(try first|exact ⟨rfl,_,World.drewN_drewN _ _ _⟩|exact ⟨rfl,_,Eq.trans (World.drewN_drewN _ _ _) (congrArg (World.drewN _) (Nat.add_assoc _ _ _))⟩))|(go_at_call 39;(with_reducible refine (laws_rSum.calls kj91 _ _ t404 t496 _ ?side1 ?side2 A147.out).mono ?_);(case side1=>exact cm (R_reads' HO_4.out).2.2);(case side2=>exact (R_reads' HO_4.out).2.1);rintro e w' ⟨rfl,⟨nd,rfl⟩⟩;(try first|exact ⟨rfl,_,World.drewN_drewN _ _ _⟩|exact ⟨rfl,_,Eq.trans (World.drewN_drewN _ _ _) (congrArg (World.drewN _) (Nat.add_assoc _ _ _))⟩))|(go_at_call 39;(with_reducible refine (laws_rSum.calls kj91 _ _ t401 t497 _ ?side1 ?side2 A148.out).mono ?_);(case side1=>exact cm (R_reads' HO_3.out).2.2);(case side2=>exact (R_reads' HO_3.out).2.1);rintro e w' ⟨rfl,⟨nd,rfl⟩⟩;(try first|exact ⟨rfl,_,World.drewN_drewN _ _ _⟩|exact ⟨rfl,_,Eq.trans (World.drewN_drewN _ _ _) (congrArg (World.drewN _) (Nat.add_assoc _ _ _))⟩))))
    go_ret
    exact ⟨by first|rfl|(simp [errW_none,errW_some] <;> rfl)|(simp [*,errW_none,errW_some] <;> rfl),hm HB.out⟩
  rw [if_pos c149] at H
  have c149b0 : (t496 == t497) = true:=beq_iff_eq.mpr c149
  have c149b1 : (t496 != t497) = false:=bne_eq_false_iff_eq.mpr c149
  have e_ := Option.some.inj (A145.out.symm.trans A148.out)
  have c149b2 : (t496 == t495) = true := by rw [e_]; exact c149b0
  have c149b3 : (t496 != t495) = false := by rw [e_]; exact c149b1
  clear e_
  clear c149
  as_aux_lemma =>
   obtain rfl:=Option.some.inj H
   obtain ⟨Ao150,co150,eo150⟩:=R_slice HO_18.out
   subst eo150
   go_wp2_with (first|(go_at_call 26;(with_reducible refine (impl_TurnLane.calls kj91 _ _ t424 t485 t486 true _ ?side1 ?side2 A138.out).mono ?_);(case side1=>exact cm (R_reads' HO_18.out).2.2);(case side2=>exact (R_reads' HO_18.out).2.1);rintro e w151 ⟨v488,rfl,ho0,hb⟩;have n0_:=Aside0.mk (R_elder' (rm HO_3.out) (R_base ho0) hb);have n1_:=Aside0.mk (R_elder' (rm HO_4.out) (R_base ho0) hb);have n2_:=Aside0.mk (R_elder' (rm HO_18.out) (R_base ho0) hb);have n3_:=Aside0.mk (R_elder' (rm HO_22.out) (R_base ho0) hb);have n4_:=Aside0.mk (R_lower (R_new' (R_new' (R_new' (R_new' ho0 (R_lt (rm HO_3.out))) (R_lt (rm HO_4.out))) (R_lt (rm HO_18.out))) (R_lt (rm HO_22.out))) (below_size (hm HB.out)));have n5_:=Aside0.mk (below_step (hm HB.out) hb);clear HO_3;clear HO_4;clear HO_18;clear HO_22;clear HB;have HO_3:=n0_;have HO_4:=n1_;have HO_18:=n2_;have HO_22:=n3_;have HO489:=n4_;have HB:=n5_;clear n0_ n1_ n2_ n3_ n4_ n5_;(try clear hb);(try clear hb2);(try clear hk);(try clear hi);(try clear ho0);obtain ⟨Ao152,co152,eo152⟩:=R_slice HO_4.out;subst eo152)|(go_at_call 20;(with_reducible refine (impl_TurnAround.calls kj91 _ _ t404 t490 true _ ?side1 ?side2 A139.out).mono ?_);(case side1=>exact cm (R_reads' HO_4.out).2.2);(case side2=>exact (R_reads' HO_4.out).2.1);rintro e w153 ⟨v492,rfl,ho0,hb⟩;have n0_:=Aside0.mk (R_elder' (rm HO_3.out) (R_base ho0) hb);have n1_:=Aside0.mk (R_elder' (rm HO_4.out) (R_base ho0) hb);have n2_:=Aside0.mk (R_elder' (rm HO_18.out) (R_base ho0) hb);have n3_:=Aside0.mk (R_elder' (rm HO_22.out) (R_base ho0) hb);have n4_:=Aside0.mk (R_elder' (rm HO489.out) (R_base ho0) hb);have n5_:=Aside0.mk (R_lower (R_new' (R_new' (R_new' (R_new' (R_new' ho0 (R_lt (rm HO_3.out))) (R_lt (rm HO_4.out))) (R_lt (rm HO_18.out))) (R_lt (rm HO_22.out))) (R_lt (rm HO489.out))) (below_size (hm HB.out)));have n6_:=Aside0.mk (below_step (hm HB.out) hb);clear HO_3;clear HO_4;clear HO_18;clear HO_22;clear HO489;clear HB;have HO_3:=n0_;have HO_4:=n1_;have HO_18:=n2_;have HO_22:=n3_;have HO489:=n4_;have HO493:=n5_;have HB:=n6_;clear n0_ n1_ n2_ n3_ n4_ n5_ n6_;(try clear hb);(try clear hb2);(try clear hk);(try clear hi);(try clear ho0);obtain ⟨Ao154,co154,eo154⟩:=R_slice HO489.out;subst eo154;obtain ⟨Ao155,co155,eo155⟩:=R_slice HO493.out;subst eo155)|(go_at_call 37;(with_reducible refine (laws_rInts.calls kj91 _ _ t485 _ _ t490 true _ ?side1 ?side2 ?side3 ?side4 A143.out).mono ?_);(case side1=>exact cm (R_reads' HO489.out).2.2);(case side2=>exact (R_reads' HO489.out).2.1);(case side3=>exact cm (R_reads' HO493.out).2.2);(case side4=>exact (R_reads' HO493.out).2.1);rintro e w' ⟨rfl,⟨nd,rfl⟩⟩;(try first|exact ⟨rfl,_,World.drewN_drewN _ _ _⟩|exact ⟨rfl,_,Eq.trans (World.drewN_drewN _ _ _) (congrArg (World.drewN _) (Nat.add_assoc _ _ _))⟩);obtain ⟨Ao156,co156,eo156⟩:=R_slice HO_22.out;subst eo156)|(go_at_call 39;(with_reducible refine (laws_rSum.calls kj91 _ _ t401 t495 _ ?side1 ?side2 A145.out).mono ?_);(case side1=>exact cm (R_reads' HO_3.out).2.2);(case side2=>exact (R_reads' HO_3.out).2.1);rintro e w' ⟨rfl,⟨nd,rfl⟩⟩;(try first|exact ⟨rfl,_,World.drewN_drewN _ _ _⟩|exact ⟨rfl,_,Eq.trans (World.drewN_drewN _ _ _) (congrArg (World.drewN _) (Nat.add_assoc _ _ _))⟩))|(go_at_call 39;(with_reducible refine (laws_rSum.calls kj91 _ _ t404 t496 _ ?side1 ?side2 A147.out).mono ?_);(case side1=>exact cm (R_reads' HO_4.out).2.2);(case side2=>exact (R_reads' HO_4.out).2.1);rintro e w' ⟨rfl,⟨nd,rfl⟩⟩;(try first|exact ⟨rfl,_,World.drewN_drewN _ _ _⟩|exact ⟨rfl,_,Eq.trans (World.drewN_drewN _ _ _) (congrArg (World.drewN _) (Nat.add_assoc _ _ _))⟩))|(go_at_call 39;(with_reducible refine (laws_rSum.calls kj91 _ _ t401 t497 _ ?side1 ?side2 A148.out).mono ?_);(case side1=>exact cm (R_reads' HO_3.out).2.2);(case side2=>exact (R_reads' HO_3.out).2.1);rintro e w' ⟨rfl,⟨nd,rfl⟩⟩;(try first|exact ⟨rfl,_,World.drewN_drewN _ _ _⟩|exact ⟨rfl,_,Eq.trans (World.drewN_drewN _ _ _) (congrArg (World.drewN _) (Nat.add_assoc _ _ _))⟩)))
   repeat (go_quiet (first|(go_at_call 37;(with_reducible refine (laws_rInts.calls kj91 _ _ t485 _ _ t490 true _ ?side1 ?side2 ?side3 ?side4 A143.out).mono ?_);(case side1=>exact cm (R_reads' HO489.out).2.2);(case side2=>exact (R_reads' HO489.out).2.1);(case side3=>exact cm (R_reads' HO493.out).2.2);(case side4=>exact (R_reads' HO493.out).2.1);rintro e w' ⟨rfl,⟨nd,rfl⟩⟩;(try first|exact ⟨rfl,_,World.drewN_drewN _ _ _⟩|exact ⟨rfl,_,Eq.trans (World.drewN_drewN _ _ _) (congrArg (World.drewN _) (Nat.add_assoc _ _ _))⟩);obtain ⟨Ao156,co156,eo156⟩:=R_slice HO_22.out;subst eo156)|(go_at_call 39;(with_reducible refine (laws_rSum.calls kj91 _ _ t401 t495 _ ?side1 ?side2 A145.out).mono ?_);(case side1=>exact cm (R_reads' HO_3.out).2.2);(case side2=>exact (R_reads' HO_3.out).2.1);rintro e w' ⟨rfl,⟨nd,rfl⟩⟩;(try first|exact ⟨rfl,_,World.drewN_drewN _ _ _⟩|exact ⟨rfl,_,Eq.trans (World.drewN_drewN _ _ _) (congrArg (World.drewN _) (Nat.add_assoc _ _ _))⟩))|(go_at_call 39;(with_reducible refine (laws_rSum.calls kj91 _ _ t404 t496 _ ?side1 ?side2 A147.out).mono ?_);(case side1=>exact cm (R_reads' HO_4.out).2.2);(case side2=>exact (R_reads' HO_4.out).2.1);rintro e w' ⟨rfl,⟨nd,rfl⟩⟩;(try first|exact ⟨rfl,_,World.drewN_drewN _ _ _⟩|exact ⟨rfl,_,Eq.trans (World.drewN_drewN _ _ _) (congrArg (World.drewN _) (Nat.add_assoc _ _ _))⟩))|(go_at_call 39;(with_reducible refine (laws_rSum.calls kj91 _ _ t401 t497 _ ?side1 ?side2 A148.out).mono ?_);(case side1=>exact cm (R_reads' HO_3.out).2.2);(case side2=>exact (R_reads' HO_3.out).2.1);rintro e w' ⟨rfl,⟨nd,rfl⟩⟩;(try first|exact ⟨rfl,_,World.drewN_drewN _ _ _⟩|exact ⟨rfl,_,Eq.trans (World.drewN_drewN _ _ _) (congrArg (World.drewN _) (Nat.add_assoc _ _ _))⟩)));try go_wp2_with (first|(go_at_call 26;(with_reducible refine (impl_TurnLane.calls kj91 _ _ t424 t485 t486 true _ ?side1 ?side2 A138.out).mono ?_);(case side1=>exact cm (R_reads' HO_18.out).2.2);(case side2=>exact (R_reads' HO_18.out).2.1);rintro e w151 ⟨v488,rfl,ho0,hb⟩;have n0_:=Aside0.mk (R_elder' (rm HO_3.out) (R_base ho0) hb);have n1_:=Aside0.mk (R_elder' (rm HO_4.out) (R_base ho0) hb);have n2_:=Aside0.mk (R_elder' (rm HO_18.out) (R_base ho0) hb);have n3_:=Aside0.mk (R_elder' (rm HO_22.out) (R_base ho0) hb);have n4_:=Aside0.mk (R_lower (R_new' (R_new' (R_new' (R_new' ho0 (R_lt (rm HO_3.out))) (R_lt (rm HO_4.out))) (R_lt (rm HO_18.out))) (R_lt (rm HO_22.out))) (below_size (hm HB.out)));have n5_:=Aside0.mk (below_step (hm HB.out) hb);clear HO_3;clear HO_4;clear HO_18;clear HO_22;clear HB;have HO_3:=n0_;have HO_4:=n1_;have HO_18:=n2_;have HO_22:=n3_;have HO489:=n4_;have HB:=n5_;clear n0_ n1_ n2_ n3_ n4_ n5_;(try clear hb);(try clear hb2);(try clear hk);(try clear hi);(try clear ho0);obtain ⟨Ao152,co152,eo152⟩:=R_slice HO_4.out;subst eo152)|(go_at_call 20;(with_reducible refine (impl_TurnAround.calls kj91 _ _ t404 t490 true _ ?side1 ?side2 A139.out).mono ?_);(case side1=>exact cm (R_reads' HO_4.out).2.2);(case side2=>exact (R_reads' HO_4.out).2.1);rintro e w153 ⟨v492,rfl,ho0,hb⟩;have n0_:=Aside0.mk (R_elder' (rm HO_3.out) (R_base ho0) hb);have n1_:=Aside0.mk (R_elder' (rm HO_4.out) (R_base ho0) hb);have n2_:=Aside0.mk (R_elder' (rm HO_18.out) (R_base ho0) hb);have n3_:=Aside0.mk (R_elder' (rm HO_22.out) (R_base ho0) hb);have n4_:=Aside0.mk (R_elder' (rm HO489.out) (R_base ho0) hb);have n5_:=Aside0.mk (R_lower (R_new' (R_new' (R_new' (R_new' (R_new' ho0 (R_lt (rm HO_3.out))) (R_lt (rm HO_4.out))) (R_lt (rm HO_18.out))) (R_lt (rm HO_22.out))) (R_lt (rm HO489.out))) (below_size (hm HB.out)));have n6_:=Aside0.mk (below_step (hm HB.out) hb);clear HO_3;clear HO_4;clear HO_18;clear HO_22;clear HO489;clear HB;have HO_3:=n0_;have HO_4:=n1_;have HO_18:=n2_;have HO_22:=n3_;have HO489:=n4_;have HO493:=n5_;have HB:=n6_;clear n0_ n1_ n2_ n3_ n4_ n5_ n6_;(try clear hb);(try clear hb2);(try clear hk);(try clear hi);(try clear ho0);obtain ⟨Ao154,co154,eo154⟩:=R_slice HO489.out;subst eo154;obtain ⟨Ao155,co155,eo155⟩:=R_slice HO493.out;subst eo155)|(go_at_call 37;(with_reducible refine (laws_rInts.calls kj91 _ _ t485 _ _ t490 true _ ?side1 ?side2 ?side3 ?side4 A143.out).mono ?_);(case side1=>exact cm (R_reads' HO489.out).2.2);(case side2=>exact (R_reads' HO489.out).2.1);(case side3=>exact cm (R_reads' HO493.out).2.2);(case side4=>exact (R_reads' HO493.out).2.1);rintro e w' ⟨rfl,⟨nd,rfl⟩⟩;(try first|exact ⟨rfl,_,World.drewN_drewN _ _ _⟩|exact ⟨rfl,_,Eq.trans (World.drewN_drewN _ _ _) (congrArg (World.drewN _) (Nat.add_assoc _ _ _))⟩);obtain ⟨Ao156,co156,eo156⟩:=R_slice HO_22.out;subst eo156)|(go_at_call 39;(with_reducible refine (laws_rSum.calls kj91 _ _ t401 t495 _ ?side1 ?side2 A145.out).mono ?_);(case side1=>exact cm (R_reads' HO_3.out).2.2);(case side2=>exact (R_reads' HO_3.out).2.1);rintro e w' ⟨rfl,⟨nd,rfl⟩⟩;(try first|exact ⟨rfl,_,World.drewN_drewN _ _ _⟩|exact ⟨rfl,_,Eq.trans (World.drewN_drewN _ _ _) (congrArg (World.drewN _) (Nat.add_assoc _ _ _))⟩))|(go_at_call 39;(with_reducible refine (laws_rSum.calls kj91 _ _ t404 t496 _ ?side1 ?side2 A147.out).mono ?_);(case side1=>exact cm (R_reads' HO_4.out).2.2);(case side2=>exact (R_reads' HO_4.out).2.1);rintro e w' ⟨rfl,⟨nd,rfl⟩⟩;(try first|exact ⟨rfl,_,World.drewN_drewN _ _ _⟩|exact ⟨rfl,_,Eq.trans (World.drewN_drewN _ _ _) (congrArg (World.drewN _) (Nat.add_assoc _ _ _))⟩))|(go_at_call 39;(with_reducible refine (laws_rSum.calls kj91 _ _ t401 t497 _ ?side1 ?side2 A148.out).mono ?_);(case side1=>exact cm (R_reads' HO_3.out).2.2);(case side2=>exact (R_reads' HO_3.out).2.1);rintro e w' ⟨rfl,⟨nd,rfl⟩⟩;(try first|exact ⟨rfl,_,World.drewN_drewN _ _ _⟩|exact ⟨rfl,_,Eq.trans (World.drewN_drewN _ _ _) (congrArg (World.drewN _) (Nat.add_assoc _ _ _))⟩))))
   go_ret
   exact ⟨by first|rfl|(simp [errW_none,errW_some] <;> rfl)|(simp [*,errW_none,errW_some] <;> rfl),hm HB.out⟩

end
end Go.Proofs.Ythkbjcihelmaeaa.QFnLanes
