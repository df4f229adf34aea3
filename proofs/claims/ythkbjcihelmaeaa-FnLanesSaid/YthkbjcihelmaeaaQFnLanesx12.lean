/- Functions that the law FnLanes comes to, as Lean functions, with the proof that the Go code does what they say: written by a program of this session over the kit's print. No condition but those named. -/
import Derived.Test.YthkbjcihelmaeaaQFnLanesx0
import Derived.Test.YthkbjcihelmaeaaQFnLanesx1
import Derived.Test.YthkbjcihelmaeaaQFnLanesx2
import Derived.Test.YthkbjcihelmaeaaQFnLanesx3
import Derived.Test.YthkbjcihelmaeaaQFnLanesx4
import Derived.Test.YthkbjcihelmaeaaQFnLanesx5
import Derived.Test.YthkbjcihelmaeaaQFnLanesx6
import Derived.Test.YthkbjcihelmaeaaQFnLanesx7
import Derived.Test.YthkbjcihelmaeaaQFnLanesx8
import Derived.Test.YthkbjcihelmaeaaQFnLanesx9
import Derived.Test.YthkbjcihelmaeaaQFnLanesx11
namespace Go.Proofs.Ythkbjcihelmaeaa.QFnLanes
open Go.RowKit Go.Proofs.YthkbjcihelmaeaaW.PrintWords Go.Proofs.YthkbjcihelmaeaaW.PrintLast Go.Proofs.YthkbjcihelmaeaaW.PrintMore Go.Proofs.Ythkbjcihelmaeaa.Short
attribute [local go_sem] max2_int min2_int max_two min_two max_three min_three max_four min_four   -- for this text's walks alone
set_option linter.unusedVariables false
set_option linter.unusedSimpArgs false

section
open Kd
set_option maxHeartbeats 8000000 in
set_option maxRecDepth 1000000 in
theorem laws_FnLanes.rest6 {k : Nat} {A0 : Option Addr} {c0 : Nat} {l0 : List Int} {r : Bool} {w : World} {t401 t404 : List Int} {t405 : Int} {t406 : Bool} {t410 : Int} {t411 : Bool} {Ao9 : Option Addr} {co9 : Nat} {v407 v412 : Value} {kj6 : Nat} {t416 : Int} {t417 : Bool} {t418 : Int} {t419 : Bool} {kj21 : Nat} {t420 : Int} {t421 : Bool} {t422 : Int} {t423 : Bool} {kj28 : Nat} {t424 : List Int} {t425 t429 : Bool} {v426 v430 : Value} {kj36 : Nat} {t433 : List Int} {t434 t438 : Bool} {v435 v439 : Value} {kj47 : Nat} {t442 : List Int} {t443 : Int} {t446 : List Int} {t447 t451 : Bool} {Ao62 : Option Addr} {co62 : Nat} {v448 v452 : Value} {wc : World} {u49 u50 u51 u52 u53 u54 u55 u56 u57 u58 u59 u60 u61 u62 u63 u64 u65 u66 u67 u68 u69 u70 u71 u72 u73 u74 u75 u76 u77 u78 u79 u80 u81 u82 u83 u84 u85 u86 u87 u88 u89 u90 u91 u92 u93 u94 u95 u96 u97 u98 u99 u100 u101 u102 u103 u104 u105 u106 u107 u108 u109 u110 u111 u112 u113 u114 u115 u116 u117 u118 u119 u120 u121 u122 u123 u124 u125 u126 u127 u128 u129 u130 u131 u132 u133 u134 u135 u136 u137 u138 u139 u140 u141 u142 u143 u144 u145 u146 u147 u148 u149 u150 u151 u152 u153 u154 u155 u156 u157 u158 u159 u160 u161 u162 u163 u164 u165 u166 u167 u168 u169 u170 u171 u172 u173 u174 u175 u176 u177 u178 u179 u180 u181 u182 u183 u184 u185 u186 u187 u188 u189 u190 u191 u192 u193 u194 u195 u196 u197 u198 u199 u200 u201 u202 u203 u205 u206 u207 u208 u209 u210 u211 u212 u213 u214 u215 u216 u217 u218 u219 u220 u221 u222 u223 u224 u225 u226 u227 u228 u229 u230 u231 u232 u233 u234 u235 u236 u237 u238 u239 u240 u241 u242 u243 u244 u245 u246 u247 u248 u249 u250 u251 u252 u253 u254 u255 u256 u257 u258 u259 u260 u261 u262 u263 u264 u265 u266 u267 u268 u269 u270 u271 u272 u273 u274 u275 u276 u277 u278 u279 u280 u281 u282 u283 u284 u285 u286 u287 u288 u289 u290 u291 u292 u293 u294 u295 u296 u297 u298 u299 u300 u301 u302 u303 u304 u305 u306 u307 u308 u309 u310 u311 u312 u313 u314 u315 u316 u317 u318 u319 u320 u321 u322 u323 u324 u325 u326 u327 u328 u329 u330 u331 u332 u333 u334 u335 u336 u337 u338 u339 u340 u341 u342 u343 u344 u345 u346 u347 u348 u349 u350 u351 u352 u353 u354 u355 u356 u357 u358 u359 u360 u361 u362 u363 u364 u365 u366 u367 u368 u369 u370 u371 u372 u373 u374 u375 u376 u377 u378 u379 u380 u381 u382 u383 u384 u385 : Value} {kj59 : Nat} {K1 K : Act → World → Prop} (hK1 : ∀ a w_, Code.wp Try.prog (follow [true, true, true, true, true, true, true, true, true, true, true, true, true, true, true, true] (Try.f12.body.getD Code.skip)) (bodyPost Try.prog Try.f12 fun e w' => e = Ending.returned (Value.bool r) ∧ Below w.heap.size w w') a w_ → K1 a w_) (hK : ∀ a w_, Code.wp Try.prog (follow [true, true, true, true, true, true, true, true, true, true, true, true, true, true, true, false, true, true] (Try.f12.body.getD Code.skip)) (Exit.then K1 (bodyPost Try.prog Try.f12 fun e w' => e = Ending.returned (Value.bool r) ∧ Below w.heap.size w w')) a w_ → K a w_) (HJ6 : Aside0 (kj6 + 1 ≤ k)) (HJ21 : Aside0 (kj21 + 1 ≤ kj6)) (HJ28 : Aside0 (kj28 + 1 ≤ kj21)) (HJ36 : Aside0 (kj36 + 1 ≤ kj28)) (HJ47 : Aside0 (kj47 + 1 ≤ kj36)) (HO_3 : Aside0 ((int IntKind.i64).R 3 wc w.heap.size (fun k_ => some k_ ≠ v407.ownBlock ∧ some k_ ≠ v426.ownBlock ∧ some k_ ≠ v435.ownBlock ∧ some k_ ≠ (Value.slice Ao62 t442.length co62).ownBlock ∧ some k_ ≠ v448.ownBlock) (Value.slice Ao9 t401.length co9) t401)) (HO_4 : Aside0 ((int IntKind.i64).R 3 wc w.heap.size (fun k_ => some k_ ≠ (Value.slice Ao9 t401.length co9).ownBlock ∧ some k_ ≠ v426.ownBlock ∧ some k_ ≠ v435.ownBlock ∧ some k_ ≠ (Value.slice Ao62 t442.length co62).ownBlock ∧ some k_ ≠ v448.ownBlock) v407 t404)) (HO_18 : Aside0 ((int IntKind.i64).R 3 wc w.heap.size (fun k_ => some k_ ≠ (Value.slice Ao9 t401.length co9).ownBlock ∧ some k_ ≠ v407.ownBlock ∧ some k_ ≠ v435.ownBlock ∧ some k_ ≠ (Value.slice Ao62 t442.length co62).ownBlock ∧ some k_ ≠ v448.ownBlock) v426 t424)) (HO_22 : Aside0 ((int IntKind.i64).R 3 wc w.heap.size (fun k_ => some k_ ≠ (Value.slice Ao9 t401.length co9).ownBlock ∧ some k_ ≠ v407.ownBlock ∧ some k_ ≠ v426.ownBlock ∧ some k_ ≠ (Value.slice Ao62 t442.length co62).ownBlock ∧ some k_ ≠ v448.ownBlock) v435 t433)) (HO_26 : Aside0 ((int IntKind.i64).R 3 wc w.heap.size (fun k_ => some k_ ≠ (Value.slice Ao9 t401.length co9).ownBlock ∧ some k_ ≠ v407.ownBlock ∧ some k_ ≠ v426.ownBlock ∧ some k_ ≠ v435.ownBlock ∧ some k_ ≠ v448.ownBlock) (Value.slice Ao62 t442.length co62) t442)) (HO_28 : Aside0 ((int IntKind.i64).R 3 wc w.heap.size (fun k_ => some k_ ≠ (Value.slice Ao9 t401.length co9).ownBlock ∧ some k_ ≠ v407.ownBlock ∧ some k_ ≠ v426.ownBlock ∧ some k_ ≠ v435.ownBlock ∧ some k_ ≠ (Value.slice Ao62 t442.length co62).ownBlock) v448 t446)) (HB : Aside0 (Below w.heap.size w wc)) (HJ59 : Aside0 (kj59 + 1 ≤ kj47)) (H : ((impl_FlowsOf.f kj59 t442 t443).bind fun bt455 => (spec_FlowsOf.f kj59 t442 t443).bind fun bt459 => if (bt455.snd != bt459.snd) = true then j6 kj59 t401 t404 t405 t406 t420 t424 t433 t442 t443 t446 t447 bt455.fst true else if (bt455.snd != t447) = true then j6 kj59 t401 t404 t405 t406 t420 t424 t433 t442 t443 t446 t447 bt455.fst true else (laws_rInts.f kj59 bt455.fst bt459.fst).bind fun t463 => j6 kj59 t401 t404 t405 t406 t420 t424 t433 t442 t443 t446 t447 bt455.fst !t463) = some r) :
  K { tmps := #[Value.slice A0 l0.length c0, undef, Value.bool false, Value.slice Ao9 t401.length co9, v407, Value.int IntKind.i64 t405, Value.bool t406, v412, Value.int IntKind.i64 t410, Value.bool t411, Value.int IntKind.i64 t416, Value.bool t417, Value.int IntKind.i64 t418, Value.bool t419, Value.int IntKind.i64 t420, Value.bool t421, Value.int IntKind.i64 t422, Value.bool t423, v426, Value.bool t425, v430, Value.bool t429, v435, Value.bool t434, v439, Value.bool t438, Value.slice Ao62 t442.length co62, Value.int IntKind.i64 t443, v448, Value.bool t447, v452, Value.bool t451, undef, undef, undef, undef, undef, undef, undef, undef, undef, undef, undef, undef, undef, undef, undef, undef, undef, u49, u50, u51, u52, u53, u54, u55, u56, u57, u58, u59, u60, u61, u62, u63, u64, u65, u66, u67, u68, u69, u70, u71, u72, u73, u74, u75, u76, u77, u78, u79, u80, u81, u82, u83, u84, u85, u86, u87, u88, u89, u90, u91, u92, u93, u94, u95, u96, u97, u98, u99, u100, u101, u102, u103, u104, u105, u106, u107, u108, u109, u110, u111, u112, u113, u114, u115, u116, u117, u118, u119, u120, u121, u122, u123, u124, u125, u126, u127, u128, u129, u130, u131, u132, u133, u134, u135, u136, u137, u138, u139, u140, u141, u142, u143, u144, u145, u146, u147, u148, u149, u150, u151, u152, u153, u154, u155, u156, u157, u158, u159, u160, u161, u162, u163, u164, u165, u166, u167, u168, u169, u170, u171, u172, u173, u174, u175, u176, u177, u178, u179, u180, u181, u182, u183, u184, u185, u186, u187, u188, u189, u190, u191, u192, u193, u194, u195, u196, u197, u198, u199, u200, u201, u202, u203, Value.bool false, u205, u206, u207, u208, u209, u210, u211, u212, u213, u214, u215, u216, u217, u218, u219, u220, u221, u222, u223, u224, u225, u226, u227, u228, u229, u230, u231, u232, u233, u234, u235, u236, u237, u238, u239, u240, u241, u242, u243, u244, u245, u246, u247, u248, u249, u250, u251, u252, u253, u254, u255, u256, u257, u258, u259, u260, u261, u262, u263, u264, u265, u266, u267, u268, u269, u270, u271, u272, u273, u274, u275, u276, u277, u278, u279, u280, u281, u282, u283, u284, u285, u286, u287, u288, u289, u290, u291, u292, u293, u294, u295, u296, u297, u298, u299, u300, u301, u302, u303, u304, u305, u306, u307, u308, u309, u310, u311, u312, u313, u314, u315, u316, u317, u318, u319, u320, u321, u322, u323, u324, u325, u326, u327, u328, u329, u330, u331, u332, u333, u334, u335, u336, u337, u338, u339, u340, u341, u342, u343, u344, u345, u346, u347, u348, u349, u350, u351, u352, u353, u354, u355, u356, u357, u358, u359, u360, u361, u362, u363, u364, u365, u366, u367, u368, u369, u370, u371, u372, u373, u374, u375, u376, u377, u378, u379, u380, u381, u382, u383, u384, u385], defers := [] } wc := by
 conv at hK1 => enter [a, w_, 1, 2]; whnf
 conv at hK => enter [a, w_, 1, 2]; whnf
 replace H:=Option.bind_eq_some_iff.mp H
 obtain ⟨⟨t455,t458⟩,A700,H⟩:=H
 replace H : ((spec_FlowsOf.f kj59 t442 t443).bind fun bt459=>(if (t458 != bt459.2) = true then (laws_FnLanes.j6 kj59 t401 t404 t405 t406 t420 t424 t433 t442 t443 t446 t447 t455 true) else (if (t458 != t447) = true then (laws_FnLanes.j6 kj59 t401 t404 t405 t406 t420 t424 t433 t442 t443 t446 t447 t455 true) else ((laws_rInts.f kj59 t455 bt459.1).bind fun t463=>(laws_FnLanes.j6 kj59 t401 t404 t405 t406 t420 t424 t433 t442 t443 t446 t447 t455 (!t463)))))) = some r:=H
 have A70:=Aside0.mk A700
 clear A700
 replace H:=Option.bind_eq_some_iff.mp H
 obtain ⟨⟨t459,t460⟩,A710,H⟩:=H
 replace H : (if (t458 != t460) = true then (laws_FnLanes.j6 kj59 t401 t404 t405 t406 t420 t424 t433 t442 t443 t446 t447 t455 true) else (if (t458 != t447) = true then (laws_FnLanes.j6 kj59 t401 t404 t405 t406 t420 t424 t433 t442 t443 t446 t447 t455 true) else ((laws_rInts.f kj59 t455 t459).bind fun t463=>(laws_FnLanes.j6 kj59 t401 t404 t405 t406 t420 t424 t433 t442 t443 t446 t447 t455 (!t463))))) = some r:=H
 have A71:=Aside0.mk A710
 clear A710
 have HC72:=Aside0.mk H
 clear H
 go_upto_region 31 with (first|(go_at_call 30;(with_reducible refine (impl_FlowsOf.calls kj59 (fun k_=>some k_ = (.slice Ao62 t442.length co62 : Value).ownBlock) _ _ t442 t443 t455 t458 _ ?side1 A70.out).mono ?_);(case side1=>exact R_V (R_tight rfl (HO_26.out)));rintro e w73 ⟨v456,rfl,ho0,hb⟩;have n0_:=Aside0.mk (R_elder' (rm HO_3.out) (R_base ho0) hb);have n1_:=Aside0.mk (R_elder' (rm HO_4.out) (R_base ho0) hb);have n2_:=Aside0.mk (R_elder' (rm HO_18.out) (R_base ho0) hb);have n3_:=Aside0.mk (R_elder' (rm HO_22.out) (R_base ho0) hb);have n4_:=Aside0.mk (R_elder' (rm HO_26.out) (R_base ho0) hb);have n5_:=Aside0.mk (R_elder' (rm HO_28.out) (R_base ho0) hb);have n6_:=Aside0.mk (R_lower (R_new' (R_new' (R_new' (R_new' (R_new' (R_new' (R_mono (ok':=fun k_=>True) ho0 (fun _ hk_=>trivial)) (R_lt (rm HO_3.out))) (R_lt (rm HO_4.out))) (R_lt (rm HO_18.out))) (R_lt (rm HO_22.out))) (R_lt (rm HO_26.out))) (R_lt (rm HO_28.out))) (below_size (hm HB.out)));have n7_:=Aside0.mk (below_step (hm HB.out) hb);clear HO_3;clear HO_4;clear HO_18;clear HO_22;clear HO_26;clear HO_28;clear HB;have HO_3:=n0_;have HO_4:=n1_;have HO_18:=n2_;have HO_22:=n3_;have HO_26:=n4_;have HO_28:=n5_;have HO457:=n6_;have HB:=n7_;clear n0_ n1_ n2_ n3_ n4_ n5_ n6_ n7_;(try clear hb);(try clear hb2);(try clear hk);(try clear hi);(try clear ho0))|(go_at_call 29;(with_reducible refine (spec_FlowsOf.calls kj59 _ _ t442 t443 t459 t460 _ ?side1 ?side2 A71.out).mono ?_);(case side1=>exact cm (R_reads' HO_26.out).2.2);(case side2=>exact (R_reads' HO_26.out).2.1);rintro e w74 ⟨v461,rfl,ho0,hb⟩;have n0_:=Aside0.mk (R_elder' (rm HO_3.out) (R_base ho0) hb);have n1_:=Aside0.mk (R_elder' (rm HO_4.out) (R_base ho0) hb);have n2_:=Aside0.mk (R_elder' (rm HO_18.out) (R_base ho0) hb);have n3_:=Aside0.mk (R_elder' (rm HO_22.out) (R_base ho0) hb);have n4_:=Aside0.mk (R_elder' (rm HO_26.out) (R_base ho0) hb);have n5_:=Aside0.mk (R_elder' (rm HO_28.out) (R_base ho0) hb);have n6_:=Aside0.mk (R_elder' (rm HO457.out) (R_base ho0) hb);have n7_:=Aside0.mk (R_lower (R_new' (R_new' (R_new' (R_new' (R_new' (R_new' (R_new' ho0 (R_lt (rm HO_3.out))) (R_lt (rm HO_4.out))) (R_lt (rm HO_18.out))) (R_lt (rm HO_22.out))) (R_lt (rm HO_26.out))) (R_lt (rm HO_28.out))) (R_lt (rm HO457.out))) (below_size (hm HB.out)));have n8_:=Aside0.mk (below_step (hm HB.out) hb);clear HO_3;clear HO_4;clear HO_18;clear HO_22;clear HO_26;clear HO_28;clear HO457;clear HB;have HO_3:=n0_;have HO_4:=n1_;have HO_18:=n2_;have HO_22:=n3_;have HO_26:=n4_;have HO_28:=n5_;have HO457:=n6_;have HO462:=n7_;have HB:=n8_;clear n0_ n1_ n2_ n3_ n4_ n5_ n6_ n7_ n8_;(try clear hb);(try clear hb2);(try clear hk);(try clear hi);(try clear ho0)))
 repeat (go_quiet (fail);go_upto_region 31 with (first|(go_at_call 30;(with_reducible refine (impl_FlowsOf.calls kj59 (fun k_=>some k_ = (.slice Ao62 t442.length co62 : Value).ownBlock) _ _ t442 t443 t455 t458 _ ?side1 A70.out).mono ?_);(case side1=>exact R_V (R_tight rfl (HO_26.out)));rintro e w73 ⟨v456,rfl,ho0,hb⟩;have n0_:=Aside0.mk (R_elder' (rm HO_3.out) (R_base ho0) hb);have n1_:=Aside0.mk (R_elder' (rm HO_4.out) (R_base ho0) hb);have n2_:=Aside0.mk (R_elder' (rm HO_18.out) (R_base ho0) hb);have n3_:=Aside0.mk (R_elder' (rm HO_22.out) (R_base ho0) hb);have n4_:=Aside0.mk (R_elder' (rm HO_26.out) (R_base ho0) hb);have n5_:=Aside0.mk (R_elder' (rm HO_28.out) (R_base ho0) hb);have n6_:=Aside0.mk (R_lower (R_new' (R_new' (R_new' (R_new' (R_new' (R_new' (R_mono (ok':=fun k_=>True) ho0 (fun _ hk_=>trivial)) (R_lt (rm HO_3.out))) (R_lt (rm HO_4.out))) (R_lt (rm HO_18.out))) (R_lt (rm HO_22.out))) (R_lt (rm HO_26.out))) (R_lt (rm HO_28.out))) (below_size (hm HB.out)));have n7_:=Aside0.mk (below_step (hm HB.out) hb);clear HO_3;clear HO_4;clear HO_18;clear HO_22;clear HO_26;clear HO_28;clear HB;have HO_3:=n0_;have HO_4:=n1_;have HO_18:=n2_;have HO_22:=n3_;have HO_26:=n4_;have HO_28:=n5_;have HO457:=n6_;have HB:=n7_;clear n0_ n1_ n2_ n3_ n4_ n5_ n6_ n7_;(try clear hb);(try clear hb2);(try clear hk);(try clear hi);(try clear ho0))|(go_at_call 29;(with_reducible refine (spec_FlowsOf.calls kj59 _ _ t442 t443 t459 t460 _ ?side1 ?side2 A71.out).mono ?_);(case side1=>exact cm (R_reads' HO_26.out).2.2);(case side2=>exact (R_reads' HO_26.out).2.1);rintro e w74 ⟨v461,rfl,ho0,hb⟩;have n0_:=Aside0.mk (R_elder' (rm HO_3.out) (R_base ho0) hb);have n1_:=Aside0.mk (R_elder' (rm HO_4.out) (R_base ho0) hb);have n2_:=Aside0.mk (R_elder' (rm HO_18.out) (R_base ho0) hb);have n3_:=Aside0.mk (R_elder' (rm HO_22.out) (R_base ho0) hb);have n4_:=Aside0.mk (R_elder' (rm HO_26.out) (R_base ho0) hb);have n5_:=Aside0.mk (R_elder' (rm HO_28.out) (R_base ho0) hb);have n6_:=Aside0.mk (R_elder' (rm HO457.out) (R_base ho0) hb);have n7_:=Aside0.mk (R_lower (R_new' (R_new' (R_new' (R_new' (R_new' (R_new' (R_new' ho0 (R_lt (rm HO_3.out))) (R_lt (rm HO_4.out))) (R_lt (rm HO_18.out))) (R_lt (rm HO_22.out))) (R_lt (rm HO_26.out))) (R_lt (rm HO_28.out))) (R_lt (rm HO457.out))) (below_size (hm HB.out)));have n8_:=Aside0.mk (below_step (hm HB.out) hb);clear HO_3;clear HO_4;clear HO_18;clear HO_22;clear HO_26;clear HO_28;clear HO457;clear HB;have HO_3:=n0_;have HO_4:=n1_;have HO_18:=n2_;have HO_22:=n3_;have HO_26:=n4_;have HO_28:=n5_;have HO457:=n6_;have HO462:=n7_;have HB:=n8_;clear n0_ n1_ n2_ n3_ n4_ n5_ n6_ n7_ n8_;(try clear hb);(try clear hb2);(try clear hk);(try clear hi);(try clear ho0))))
 (try simp only [ap])
 go_cut [230] (fun v230 wc=>∃ (kq : Nat) (x230_71 : Bool),v230 = .bool x230_71 ∧ Aside0 (laws_FnLanes.j6 kq t401 t404 t405 t406 t420 t424 t433 t442 t443 t446 t447 t455 x230_71 = some r) ∧ Aside0 (kq ≤ kj59) ∧ Aside0 (Kd.R (Kd.int .i64) 3 wc w.heap.size (fun k_=>some k_ ≠ (v407 : Value).ownBlock ∧ some k_ ≠ (v426 : Value).ownBlock ∧ some k_ ≠ (v435 : Value).ownBlock ∧ some k_ ≠ ((.slice Ao62 t442.length co62) : Value).ownBlock ∧ some k_ ≠ (v448 : Value).ownBlock ∧ some k_ ≠ (v456 : Value).ownBlock) (.slice Ao9 t401.length co9) t401) ∧ Aside0 (Kd.R (Kd.int .i64) 3 wc w.heap.size (fun k_=>some k_ ≠ ((.slice Ao9 t401.length co9) : Value).ownBlock ∧ some k_ ≠ (v426 : Value).ownBlock ∧ some k_ ≠ (v435 : Value).ownBlock ∧ some k_ ≠ ((.slice Ao62 t442.length co62) : Value).ownBlock ∧ some k_ ≠ (v448 : Value).ownBlock ∧ some k_ ≠ (v456 : Value).ownBlock) v407 t404) ∧ Aside0 (Kd.R (Kd.int .i64) 3 wc w.heap.size (fun k_=>some k_ ≠ ((.slice Ao9 t401.length co9) : Value).ownBlock ∧ some k_ ≠ (v407 : Value).ownBlock ∧ some k_ ≠ (v435 : Value).ownBlock ∧ some k_ ≠ ((.slice Ao62 t442.length co62) : Value).ownBlock ∧ some k_ ≠ (v448 : Value).ownBlock ∧ some k_ ≠ (v456 : Value).ownBlock) v426 t424) ∧ Aside0 (Kd.R (Kd.int .i64) 3 wc w.heap.size (fun k_=>some k_ ≠ ((.slice Ao9 t401.length co9) : Value).ownBlock ∧ some k_ ≠ (v407 : Value).ownBlock ∧ some k_ ≠ (v426 : Value).ownBlock ∧ some k_ ≠ ((.slice Ao62 t442.length co62) : Value).ownBlock ∧ some k_ ≠ (v448 : Value).ownBlock ∧ some k_ ≠ (v456 : Value).ownBlock) v435 t433) ∧ Aside0 (Kd.R (Kd.int .i64) 3 wc w.heap.size (fun k_=>some k_ ≠ ((.slice Ao9 t401.length co9) : Value).ownBlock ∧ some k_ ≠ (v407 : Value).ownBlock ∧ some k_ ≠ (v426 : Value).ownBlock ∧ some k_ ≠ (v435 : Value).ownBlock ∧ some k_ ≠ (v448 : Value).ownBlock ∧ some k_ ≠ (v456 : Value).ownBlock) (.slice Ao62 t442.length co62) t442) ∧ Aside0 (Kd.R (Kd.int .i64) 3 wc w.heap.size (fun k_=>some k_ ≠ ((.slice Ao9 t401.length co9) : Value).ownBlock ∧ some k_ ≠ (v407 : Value).ownBlock ∧ some k_ ≠ (v426 : Value).ownBlock ∧ some k_ ≠ (v435 : Value).ownBlock ∧ some k_ ≠ ((.slice Ao62 t442.length co62) : Value).ownBlock ∧ some k_ ≠ (v456 : Value).ownBlock) v448 t446) ∧ Aside0 (Kd.R (Kd.int .i64) 3 wc w.heap.size (fun k_=>some k_ ≠ ((.slice Ao9 t401.length co9) : Value).ownBlock ∧ some k_ ≠ (v407 : Value).ownBlock ∧ some k_ ≠ (v426 : Value).ownBlock ∧ some k_ ≠ (v435 : Value).ownBlock ∧ some k_ ≠ ((.slice Ao62 t442.length co62) : Value).ownBlock ∧ some k_ ≠ (v448 : Value).ownBlock) v456 t455) ∧ Aside0 (Below w.heap.size w wc))
 case first =>
  have H:=HC72.out
  clear HC72
  by_cases c75 : (t458 != t460) = true
  ·rw [if_pos c75] at H
   have c75b0 : (t458 != t460) = true:=c75
   (try (have c75b1 : decide (t458 = t460) = false:=by simpa using c75))
   (try (have c75b2 : (t458 == t460) = false:=by simpa using c75))
   (try (have c75b3 : ¬ (t458 = t460):=by simpa using c75))
   clear c75
   (first|rw [c75b0]|(simp only [i64_w,i32_w];rw [c75b0])|skip)
   as_aux_lemma =>
    have H':=Aside0.mk H
    clear H
    go_wp2
    repeat (go_quiet (fail);try go_wp2)
    go_meet
    case rel=>exact ⟨_,(true),(by first|rfl|(simp;done)|(simp [*];done)),H',⟨by have:=HJ6.out;have:=HJ21.out;have:=HJ28.out;have:=HJ36.out;have:=HJ47.out;have:=HJ59.out;first|omega|exact Nat.le_refl _⟩,⟨rm (R_mono HO_3.out (fun _ hk=>⟨hk.1.1.1,⟨hk.1.1.2.1,⟨hk.1.1.2.2.1,⟨hk.1.1.2.2.2.1,⟨hk.1.1.2.2.2.2,hk.1.2⟩⟩⟩⟩⟩))⟩,⟨rm (R_mono HO_4.out (fun _ hk=>⟨hk.1.1.1,⟨hk.1.1.2.1,⟨hk.1.1.2.2.1,⟨hk.1.1.2.2.2.1,⟨hk.1.1.2.2.2.2,hk.1.2⟩⟩⟩⟩⟩))⟩,⟨rm (R_mono HO_18.out (fun _ hk=>⟨hk.1.1.1,⟨hk.1.1.2.1,⟨hk.1.1.2.2.1,⟨hk.1.1.2.2.2.1,⟨hk.1.1.2.2.2.2,hk.1.2⟩⟩⟩⟩⟩))⟩,⟨rm (R_mono HO_22.out (fun _ hk=>⟨hk.1.1.1,⟨hk.1.1.2.1,⟨hk.1.1.2.2.1,⟨hk.1.1.2.2.2.1,⟨hk.1.1.2.2.2.2,hk.1.2⟩⟩⟩⟩⟩))⟩,⟨rm (R_mono HO_26.out (fun _ hk=>⟨hk.1.1.1,⟨hk.1.1.2.1,⟨hk.1.1.2.2.1,⟨hk.1.1.2.2.2.1,⟨hk.1.1.2.2.2.2,hk.1.2⟩⟩⟩⟩⟩))⟩,⟨rm (R_mono HO_28.out (fun _ hk=>⟨hk.1.1.1,⟨hk.1.1.2.1,⟨hk.1.1.2.2.1,⟨hk.1.1.2.2.2.1,⟨hk.1.1.2.2.2.2,hk.1.2⟩⟩⟩⟩⟩))⟩,⟨rm (R_mono HO457.out (fun _ hk=>⟨hk.1.1.1.1.1.1.2,⟨hk.1.1.1.1.1.2,⟨hk.1.1.1.1.2,⟨hk.1.1.1.2,⟨hk.1.1.2,hk.1.2⟩⟩⟩⟩⟩))⟩,⟨hm HB.out⟩⟩
  rw [if_neg c75] at H
  have c75b0 : (t458 != t460) = false:=by simpa using c75
  (try (have c75b1 : decide (t458 = t460) = true:=by simpa using c75))
  (try (have c75b2 : (t458 == t460) = true:=by simpa using c75))
  clear c75
  (first|rw [c75b0]|(simp only [i64_w,i32_w];rw [c75b0])|skip)
  by_cases c76 : (t458 != t447) = true
  ·rw [if_pos c76] at H
   have c76b0 : (t458 != t447) = true:=c76
   (try (have c76b1 : decide (t458 = t447) = false:=by simpa using c76))
   (try (have c76b2 : (t458 == t447) = false:=by simpa using c76))
   (try (have c76b3 : ¬ (t458 = t447):=by simpa using c76))
   clear c76
   as_aux_lemma =>
    have H':=Aside0.mk H
    clear H
    go_wp2
    repeat (go_quiet (fail);try go_wp2)
    go_meet
    case rel=>exact ⟨_,(true),(by first|rfl|(simp;done)|(simp [*];done)),H',⟨by have:=HJ6.out;have:=HJ21.out;have:=HJ28.out;have:=HJ36.out;have:=HJ47.out;have:=HJ59.out;first|omega|exact Nat.le_refl _⟩,⟨rm (R_mono HO_3.out (fun _ hk=>⟨hk.1.1.1,⟨hk.1.1.2.1,⟨hk.1.1.2.2.1,⟨hk.1.1.2.2.2.1,⟨hk.1.1.2.2.2.2,hk.1.2⟩⟩⟩⟩⟩))⟩,⟨rm (R_mono HO_4.out (fun _ hk=>⟨hk.1.1.1,⟨hk.1.1.2.1,⟨hk.1.1.2.2.1,⟨hk.1.1.2.2.2.1,⟨hk.1.1.2.2.2.2,hk.1.2⟩⟩⟩⟩⟩))⟩,⟨rm (R_mono HO_18.out (fun _ hk=>⟨hk.1.1.1,⟨hk.1.1.2.1,⟨hk.1.1.2.2.1,⟨hk.1.1.2.2.2.1,⟨hk.1.1.2.2.2.2,hk.1.2⟩⟩⟩⟩⟩))⟩,⟨rm (R_mono HO_22.out (fun _ hk=>⟨hk.1.1.1,⟨hk.1.1.2.1,⟨hk.1.1.2.2.1,⟨hk.1.1.2.2.2.1,⟨hk.1.1.2.2.2.2,hk.1.2⟩⟩⟩⟩⟩))⟩,⟨rm (R_mono HO_26.out (fun _ hk=>⟨hk.1.1.1,⟨hk.1.1.2.1,⟨hk.1.1.2.2.1,⟨hk.1.1.2.2.2.1,⟨hk.1.1.2.2.2.2,hk.1.2⟩⟩⟩⟩⟩))⟩,⟨rm (R_mono HO_28.out (fun _ hk=>⟨hk.1.1.1,⟨hk.1.1.2.1,⟨hk.1.1.2.2.1,⟨hk.1.1.2.2.2.1,⟨hk.1.1.2.2.2.2,hk.1.2⟩⟩⟩⟩⟩))⟩,⟨rm (R_mono HO457.out (fun _ hk=>⟨hk.1.1.1.1.1.1.2,⟨hk.1.1.1.1.1.2,⟨hk.1.1.1.1.2,⟨hk.1.1.1.2,⟨hk.1.1.2,hk.1.2⟩⟩⟩⟩⟩))⟩,⟨hm HB.out⟩⟩
  rw [if_neg c76] at H
  have c76b0 : (t458 != t447) = false:=by simpa using c76
  (try (have c76b1 : decide (t458 = t447) = true:=by simpa using c76))
  (try (have c76b2 : (t458 == t447) = true:=by simpa using c76))
  clear c76
  replace H:=Option.bind_eq_some_iff.mp H
  obtain ⟨t463,A770,H⟩:=H
  replace H : (laws_FnLanes.j6 kj59 t401 t404 t405 t406 t420 t424 t433 t442 t443 t446 t447 t455 (!t463)) = some r:=H
  have A77:=Aside0.mk A770
  clear A770
  as_aux_lemma =>
   have H':=Aside0.mk H
   clear H
   obtain ⟨Ao78,co78,eo78⟩:=R_slice HO457.out
   subst eo78
   obtain ⟨Ao79,co79,eo79⟩:=R_slice HO462.out
   subst eo79
   go_wp2_with (first|(go_at_call 37;(with_reducible refine (laws_rInts.calls kj59 _ _ t455 _ _ t459 t463 _ ?side1 ?side2 ?side3 ?side4 A77.out).mono ?_);(case side1=>exact cm (R_reads' HO457.out).2.2);(case side2=>exact (R_reads' HO457.out).2.1);(case side3=>exact cm (R_reads' HO462.out).2.2);(case side4=>exact (R_reads' HO462.out).2.1);rintro e w' ⟨rfl,⟨nd,rfl⟩⟩;(try first|exact ⟨rfl,_,World.drewN_drewN _ _ _⟩|exact ⟨rfl,_,Eq.trans (World.drewN_drewN _ _ _) (congrArg (World.drewN _) (Nat.add_assoc _ _ _))⟩)))
   repeat (go_quiet (first|(go_at_call 37;(with_reducible refine (laws_rInts.calls kj59 _ _ t455 _ _ t459 t463 _ ?side1 ?side2 ?side3 ?side4 A77.out).mono ?_);(case side1=>exact cm (R_reads' HO457.out).2.2);(case side2=>exact (R_reads' HO457.out).2.1);(case side3=>exact cm (R_reads' HO462.out).2.2);(case side4=>exact (R_reads' HO462.out).2.1);rintro e w' ⟨rfl,⟨nd,rfl⟩⟩;(try first|exact ⟨rfl,_,World.drewN_drewN _ _ _⟩|exact ⟨rfl,_,Eq.trans (World.drewN_drewN _ _ _) (congrArg (World.drewN _) (Nat.add_assoc _ _ _))⟩)));try go_wp2_with (first|(go_at_call 37;(with_reducible refine (laws_rInts.calls kj59 _ _ t455 _ _ t459 t463 _ ?side1 ?side2 ?side3 ?side4 A77.out).mono ?_);(case side1=>exact cm (R_reads' HO457.out).2.2);(case side2=>exact (R_reads' HO457.out).2.1);(case side3=>exact cm (R_reads' HO462.out).2.2);(case side4=>exact (R_reads' HO462.out).2.1);rintro e w' ⟨rfl,⟨nd,rfl⟩⟩;(try first|exact ⟨rfl,_,World.drewN_drewN _ _ _⟩|exact ⟨rfl,_,Eq.trans (World.drewN_drewN _ _ _) (congrArg (World.drewN _) (Nat.add_assoc _ _ _))⟩))))
   go_meet
   case rel=>exact ⟨_,(!t463),(by first|rfl|(simp;done)|(simp [*];done)),H',⟨by have:=HJ6.out;have:=HJ21.out;have:=HJ28.out;have:=HJ36.out;have:=HJ47.out;have:=HJ59.out;first|omega|exact Nat.le_refl _⟩,⟨rm (R_mono HO_3.out (fun _ hk=>⟨hk.1.1.1,⟨hk.1.1.2.1,⟨hk.1.1.2.2.1,⟨hk.1.1.2.2.2.1,⟨hk.1.1.2.2.2.2,hk.1.2⟩⟩⟩⟩⟩))⟩,⟨rm (R_mono HO_4.out (fun _ hk=>⟨hk.1.1.1,⟨hk.1.1.2.1,⟨hk.1.1.2.2.1,⟨hk.1.1.2.2.2.1,⟨hk.1.1.2.2.2.2,hk.1.2⟩⟩⟩⟩⟩))⟩,⟨rm (R_mono HO_18.out (fun _ hk=>⟨hk.1.1.1,⟨hk.1.1.2.1,⟨hk.1.1.2.2.1,⟨hk.1.1.2.2.2.1,⟨hk.1.1.2.2.2.2,hk.1.2⟩⟩⟩⟩⟩))⟩,⟨rm (R_mono HO_22.out (fun _ hk=>⟨hk.1.1.1,⟨hk.1.1.2.1,⟨hk.1.1.2.2.1,⟨hk.1.1.2.2.2.1,⟨hk.1.1.2.2.2.2,hk.1.2⟩⟩⟩⟩⟩))⟩,⟨rm (R_mono HO_26.out (fun _ hk=>⟨hk.1.1.1,⟨hk.1.1.2.1,⟨hk.1.1.2.2.1,⟨hk.1.1.2.2.2.1,⟨hk.1.1.2.2.2.2,hk.1.2⟩⟩⟩⟩⟩))⟩,⟨rm (R_mono HO_28.out (fun _ hk=>⟨hk.1.1.1,⟨hk.1.1.2.1,⟨hk.1.1.2.2.1,⟨hk.1.1.2.2.2.1,⟨hk.1.1.2.2.2.2,hk.1.2⟩⟩⟩⟩⟩))⟩,⟨rm (R_mono HO457.out (fun _ hk=>⟨hk.1.1.1.1.1.1.2,⟨hk.1.1.1.1.1.2,⟨hk.1.1.1.1.2,⟨hk.1.1.1.2,⟨hk.1.1.2,hk.1.2⟩⟩⟩⟩⟩))⟩,⟨hm HB.out⟩⟩
 clear HC72
 try clear c1
 try clear c2
 try clear p2
 try clear c3
 try clear c4
 try clear c5
 try clear c6
 try clear c7
 try clear c12
 try clear c12b0
 try clear c12b1
 try clear c13
 try clear c13b0
 try clear c13b1
 try clear c13b2
 try clear c15
 try clear c15b0
 try clear c15b1
 try clear c15b2
 try clear c19
 try clear c24
 try clear c24b0
 try clear c24b1
 try clear c25
 try clear c25b0
 try clear c25b1
 try clear c25b2
 try clear c26
 try clear c32
 try clear c32b0
 try clear c32b1
 try clear c33
 try clear c33b0
 try clear c33b1
 try clear c33b2
 try clear c34
 try clear c40
 try clear c40b0
 try clear c40b1
 try clear c40b2
 try clear c41
 try clear c41b0
 try clear c41b1
 try clear c41b2
 try clear c45
 try clear c51
 try clear c51b0
 try clear c51b1
 try clear c51b2
 try clear c52
 try clear c52b0
 try clear c52b1
 try clear c52b2
 try clear c56
 try clear c65
 try clear c65b0
 try clear c65b1
 try clear c65b2
 try clear c69
 try clear c75
 try clear c75b0
 try clear c75b1
 try clear c75b2
 try clear c76
 try clear c76b0
 try clear c76b1
 try clear c76b2
 try clear p2
 obtain ⟨kq,x230_71,rfl,HA,HJ71,HO_3,HO_4,HO_18,HO_22,HO_26,HO_28,HO_32,HB⟩:=hcut
 cases kq with
 | zero=>exact absurd HA.out (by simp [laws_FnLanes.j6])
 | succ kj71 =>
  have H:=HA.out
  clear HA
  simp only [laws_FnLanes.j6] at H
  by_cases c80 : x230_71 = true
  ·subst c80
   have H1 : (some false) = some r:=by rw [if_pos rfl] at H;exact H
   clear H
   have H:=H1
   clear H1
   as_aux_lemma =>
    obtain rfl:=Option.some.inj H
    go_wp2
    repeat (go_quiet (fail);try go_wp2)
    go_ret
    exact ⟨by first|rfl|(simp [errW_none,errW_some] <;> rfl)|(simp [*,errW_none,errW_some] <;> rfl),hm HB.out⟩
  replace c80:=Bool.eq_false_iff.mpr c80
  subst c80
  have H1 : ((impl_CarPlaces.f kj71 t442 t443).bind fun bt464=>((spec_CarPlaces.f kj71 t442 t443).bind fun bt468=>(if (bt464.2 != bt468.2) = true then (laws_FnLanes.j7 kj71 t401 t404 t405 t406 t420 t424 t433 t442 t446 t447 t455 bt464.1 true) else (if (bt464.2 != t447) = true then (laws_FnLanes.j7 kj71 t401 t404 t405 t406 t420 t424 t433 t442 t446 t447 t455 bt464.1 true) else ((laws_rInts.f kj71 bt464.1 bt468.1).bind fun t472=>(laws_FnLanes.j7 kj71 t401 t404 t405 t406 t420 t424 t433 t442 t446 t447 t455 bt464.1 (!t472))))))) = some r:=by rw [if_neg (show ¬ (false = true) by decide)] at H;exact H
  clear H
  have H:=H1
  clear H1
  exact laws_FnLanes.rest7 (by assumption) (by assumption) HJ6 HJ21 HJ28 HJ36 HJ47 HJ59 HO_3 HO_4 HO_18 HO_22 HO_26 HO_28 HO_32 HB HJ71 H
end
end Go.Proofs.Ythkbjcihelmaeaa.QFnLanes
