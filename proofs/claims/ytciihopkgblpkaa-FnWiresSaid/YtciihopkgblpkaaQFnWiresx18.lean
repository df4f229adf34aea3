/- Functions that the law FnWires comes to, and their walks: no condition but those named. -/
import Derived.Test.YtciihopkgblpkaaQFnWiresx0
import Derived.Test.YtciihopkgblpkaaQFnWiresx1
import Derived.Test.YtciihopkgblpkaaQFnWiresx3
import Derived.Test.YtciihopkgblpkaaQFnWiresx4
import Derived.Test.YtciihopkgblpkaaQFnWiresx5
import Derived.Test.YtciihopkgblpkaaQFnWiresx6
import Derived.Test.YtciihopkgblpkaaQFnWiresx7
import Derived.Test.YtciihopkgblpkaaQFnWiresx9
import Derived.Test.YtciihopkgblpkaaQFnWiresx10
import Derived.Test.YtciihopkgblpkaaQFnWiresx11
import Derived.Test.YtciihopkgblpkaaQFnWiresx14
import Derived.Test.YtciihopkgblpkaaQFnWiresx15
import Derived.Test.YtciihopkgblpkaaQFnWiresx17
namespace Go.Proofs.Ytciihopkgblpkaa.QFnWires
open Go.RowKit Go.Proofs.YtciihopkgblpkaaW.PrintWords Go.Proofs.YtciihopkgblpkaaW.PrintLast Go.Proofs.YtciihopkgblpkaaW.PrintMore Go.Proofs.Ytciihopkgblpkaa.Short
attribute [local go_sem] max2_int min2_int max_two min_two max_three min_three max_four min_four
set_option linter.unusedVariables false
set_option linter.unusedSimpArgs false

section
open Kd
set_option maxHeartbeats 8000000 in
set_option maxRecDepth 1000000 in
theorem laws_FnWires.rest5 {k : Nat} {A0 : Option Addr} {c0 : Nat} {l0 : List Int} {r : Bool} {w : World} {t520 : Int} {t521 t524 t528 t531 : List Int} {t534 t541 : Bool} {gb527 : Nat} {Ao11 : Option Addr} {co11 : Nat} {Ao12 : Option Addr} {co12 : Nat} {v529 v532 v536 v539 : Value} {kj6 : Nat} {t545 : List Int} {t548 t552 : Bool} {v546 v550 : Value} {kj36 : Nat} {t554 : Int} {t555 : Bool} {t556 : Int} {t557 : Bool} {kj49 : Nat} {t558 : Int} {t559 : Bool} {t560 : Int} {t561 : Bool} {kj59 : Nat} {t562 : Int} {t563 t566 : List Int} {t569 : Bool} {t571 : Int} {t572 t575 : List Int} {t578 : Bool} {gb570 : Nat} {Ao76 : Option Addr} {co76 : Nat} {Ao77 : Option Addr} {co77 gb579 : Nat} {Ao84 : Option Addr} {co84 : Nat} {Ao85 : Option Addr} {co85 : Nat} {wc : World} {u47 u48 u49 u50 u51 u52 u53 u54 u55 u56 u57 u58 u59 u60 u61 u62 u63 u64 u65 u66 u67 u68 u69 u70 u71 u72 u73 u74 u75 u76 u77 u78 u79 u80 u81 u82 u83 u84 u85 u86 u87 u88 u89 u90 u91 u92 u93 u94 u95 u96 u97 u98 u99 u100 u101 u102 u103 u104 u105 u106 u107 u108 u109 u110 u111 u112 u113 u114 u115 u116 u117 u118 u119 u120 u121 u122 u123 u124 u125 u126 u127 u128 u129 u130 u131 u132 u133 u134 u135 u136 u137 u138 u139 u140 u141 u142 u143 u144 u145 u146 u147 u148 u149 u150 u151 u152 u153 u154 u155 u156 u157 u158 u159 u160 u161 u162 u163 u164 u165 u166 u167 u168 u169 u170 u171 u172 u173 u174 u175 u176 u178 u179 u180 u181 u182 u183 u184 u185 u186 u187 u188 u189 u190 u191 u192 u193 u194 u195 u196 u197 u198 u199 u200 u201 u202 u203 u204 u205 u206 u207 u208 u209 u210 u211 u212 u213 u214 u215 u216 u217 u218 u219 u220 u221 u222 u223 u224 u225 u226 u227 u228 u229 u230 u231 u232 u233 u234 u235 u236 u237 u238 u239 u240 u241 u242 u243 u244 u245 u246 u247 u248 u249 u250 u251 u252 u253 u254 u255 u256 u257 u258 u259 u260 u261 u262 u263 u264 u265 u266 u267 u268 u269 u270 u271 u272 u273 u274 u275 u276 u277 u278 u279 u280 u281 u282 u283 u284 u285 u286 u287 u288 u289 u290 u291 u292 u293 u294 u295 u296 u297 u298 u299 u300 u301 u302 u303 u304 u305 u306 u307 u308 u309 u310 u311 u312 u313 u314 u315 u316 u317 u318 u319 u320 u321 u322 u323 u324 u325 u326 u327 u328 u329 u330 u331 u332 u333 u334 u335 u336 u337 u338 u339 u340 u341 u342 u343 u344 u345 u346 u347 u348 u349 u350 u351 u352 u353 u354 u355 u356 u357 u358 u359 u360 u361 u362 u363 u364 u365 u366 u367 u368 u369 u370 u371 u372 u373 u374 u375 u376 u377 u378 u379 u380 u381 : Value} {kj69 : Nat} {K1 K : Act → World → Prop} (hK1 : ∀ a w_, Code.wp Try.prog (follow [true, true, true, true, true, true, true, true, true, true, true, true, true] (Try.f10.body.getD Code.skip)) (bodyPost Try.prog Try.f10 fun e w' => e = Ending.returned (Value.bool r) ∧ Below w.heap.size w w') a w_ → K1 a w_) (hK : ∀ a w_, Code.wp Try.prog (follow [true, true, true, true, true, true, true, true, true, true, true, true, false, true, true] (Try.f10.body.getD Code.skip)) (Exit.then K1 (bodyPost Try.prog Try.f10 fun e w' => e = Ending.returned (Value.bool r) ∧ Below w.heap.size w w')) a w_ → K a w_) (HR0 : Aside0 ((int IntKind.u8).C w A0 l0.length l0)) (HC0 : Aside0 (l0.length ≤ c0)) (GE527 : Aside0 (w.heap.size ≤ gb527)) (HJ6 : Aside0 (kj6 + 1 ≤ k)) (HJ36 : Aside0 (kj36 + 1 ≤ kj6)) (HJ49 : Aside0 (kj49 + 1 ≤ kj36)) (HJ59 : Aside0 (kj59 + 1 ≤ kj49)) (GE570 : Aside0 (w.heap.size ≤ gb570)) (NB527_570 : Aside0 (gb527 ≠ gb570)) (NB570_527 : Aside0 (gb570 ≠ gb527)) (GE579 : Aside0 (w.heap.size ≤ gb579)) (NB527_579 : Aside0 (gb527 ≠ gb579)) (NB579_527 : Aside0 (gb579 ≠ gb527)) (NB570_579 : Aside0 (gb570 ≠ gb579)) (NB579_570 : Aside0 (gb579 ≠ gb570)) (HO_4 : Aside0 ((int IntKind.i64).R 3 wc w.heap.size (fun k_ => ob k_ v532 ∧ ob k_ v546 ∧ ob k_ (.slice Ao11 t521.length co11) ∧ ob k_ (.slice Ao12 t524.length co12) ∧ ob k_ (.slice Ao76 t563.length co76) ∧ ob k_ (.slice Ao77 t566.length co77) ∧ ob k_ (.slice Ao84 t572.length co84) ∧ ob k_ (.slice Ao85 t575.length co85)) v529 t528)) (HO_5 : Aside0 ((int IntKind.i64).R 3 wc w.heap.size (fun k_ => ob k_ v529 ∧ ob k_ v546 ∧ ob k_ (.slice Ao11 t521.length co11) ∧ ob k_ (.slice Ao12 t524.length co12) ∧ ob k_ (.slice Ao76 t563.length co76) ∧ ob k_ (.slice Ao77 t566.length co77) ∧ ob k_ (.slice Ao84 t572.length co84) ∧ ob k_ (.slice Ao85 t575.length co85)) v532 t531)) (HO_10 : Aside0 ((int IntKind.i64).R 3 wc w.heap.size (fun k_ => ob k_ v529 ∧ ob k_ v532 ∧ ob k_ (.slice Ao11 t521.length co11) ∧ ob k_ (.slice Ao12 t524.length co12) ∧ ob k_ (.slice Ao76 t563.length co76) ∧ ob k_ (.slice Ao77 t566.length co77) ∧ ob k_ (.slice Ao84 t572.length co84) ∧ ob k_ (.slice Ao85 t575.length co85)) v546 t545)) (HO_528001 : Aside0 ((int IntKind.i64).R 3 wc w.heap.size (fun k_ => ob k_ v529 ∧ ob k_ v532 ∧ ob k_ v546 ∧ ob k_ (.slice Ao12 t524.length co12) ∧ ob k_ (.slice Ao76 t563.length co76) ∧ ob k_ (.slice Ao77 t566.length co77) ∧ ob k_ (.slice Ao84 t572.length co84) ∧ ob k_ (.slice Ao85 t575.length co85)) (Value.slice Ao11 t521.length co11) t521)) (HO_528002 : Aside0 ((int IntKind.i64).R 3 wc w.heap.size (fun k_ => ob k_ v529 ∧ ob k_ v532 ∧ ob k_ v546 ∧ ob k_ (.slice Ao11 t521.length co11) ∧ ob k_ (.slice Ao76 t563.length co76) ∧ ob k_ (.slice Ao77 t566.length co77) ∧ ob k_ (.slice Ao84 t572.length co84) ∧ ob k_ (.slice Ao85 t575.length co85)) (Value.slice Ao12 t524.length co12) t524)) (HO_571001 : Aside0 ((int IntKind.i64).R 3 wc w.heap.size (fun k_ => ob k_ v529 ∧ ob k_ v532 ∧ ob k_ v546 ∧ ob k_ (.slice Ao11 t521.length co11) ∧ ob k_ (.slice Ao12 t524.length co12) ∧ ob k_ (.slice Ao77 t566.length co77) ∧ ob k_ (.slice Ao84 t572.length co84) ∧ ob k_ (.slice Ao85 t575.length co85)) (Value.slice Ao76 t563.length co76) t563)) (HO_571002 : Aside0 ((int IntKind.i64).R 3 wc w.heap.size (fun k_ => ob k_ v529 ∧ ob k_ v532 ∧ ob k_ v546 ∧ ob k_ (.slice Ao11 t521.length co11) ∧ ob k_ (.slice Ao12 t524.length co12) ∧ ob k_ (.slice Ao76 t563.length co76) ∧ ob k_ (.slice Ao84 t572.length co84) ∧ ob k_ (.slice Ao85 t575.length co85)) (Value.slice Ao77 t566.length co77) t566)) (HO_580001 : Aside0 ((int IntKind.i64).R 3 wc w.heap.size (fun k_ => ob k_ v529 ∧ ob k_ v532 ∧ ob k_ v546 ∧ ob k_ (.slice Ao11 t521.length co11) ∧ ob k_ (.slice Ao12 t524.length co12) ∧ ob k_ (.slice Ao76 t563.length co76) ∧ ob k_ (.slice Ao77 t566.length co77) ∧ ob k_ (.slice Ao85 t575.length co85)) (Value.slice Ao84 t572.length co84) t572)) (HO_580002 : Aside0 ((int IntKind.i64).R 3 wc w.heap.size (fun k_ => ob k_ v529 ∧ ob k_ v532 ∧ ob k_ v546 ∧ ob k_ (.slice Ao11 t521.length co11) ∧ ob k_ (.slice Ao12 t524.length co12) ∧ ob k_ (.slice Ao76 t563.length co76) ∧ ob k_ (.slice Ao77 t566.length co77) ∧ ob k_ (.slice Ao84 t572.length co84)) (Value.slice Ao85 t575.length co85) t575)) (BK527 : Aside0 (wc.heap[gb527]? = some (Obj.cells #[Value.int IntKind.i64 t520, Value.slice Ao11 t521.length co11, Value.slice Ao12 t524.length co12] 27))) (BK570 : Aside0 (wc.heap[gb570]? = some (Obj.cells #[Value.int IntKind.i64 t562, Value.slice Ao76 t563.length co76, Value.slice Ao77 t566.length co77] 27))) (BK579 : Aside0 (wc.heap[gb579]? = some (Obj.cells #[Value.int IntKind.i64 t571, Value.slice Ao84 t572.length co84, Value.slice Ao85 t575.length co85] 27))) (HB : Aside0 (Below w.heap.size w wc)) (HJ69 : Aside0 (kj69 + 1 ≤ kj59)) (H : ((spec_DrawBeadsAt.f kj69 l0).bind fun bt581 => (impl_BeadsAt.f kj69 bt581.fst bt581.snd.fst bt581.snd.snd.fst bt581.snd.snd.snd).bind fun bt590 => (spec_BeadsAt.f kj69 bt581.fst bt581.snd.fst bt581.snd.snd.fst bt581.snd.snd.snd).bind fun bt597 => if (bt590.snd.snd != bt597.snd.snd) = true then j5 kj69 t528 t531 t534 t545 t554 t558 bt581.snd.snd.snd bt590.fst bt590.snd.fst bt590.snd.snd true t520 t521 t524 t562 t563 t566 bt581.fst bt581.snd.fst bt581.snd.snd.fst else (laws_rInts.f kj69 bt590.fst bt597.fst).bind fun t604 => if t604 = true then (laws_rInts.f kj69 bt590.snd.fst bt597.snd.fst).bind fun t605 => j5 kj69 t528 t531 t534 t545 t554 t558 bt581.snd.snd.snd bt590.fst bt590.snd.fst bt590.snd.snd (!t605) t520 t521 t524 t562 t563 t566 bt581.fst bt581.snd.fst bt581.snd.snd.fst else j5 kj69 t528 t531 t534 t545 t554 t558 bt581.snd.snd.snd bt590.fst bt590.snd.fst bt590.snd.snd true t520 t521 t524 t562 t563 t566 bt581.fst bt581.snd.fst bt581.snd.snd.fst) = some r) :
  K { tmps := #[Value.slice A0 l0.length c0, undef, Value.bool false, Value.pointer (some { block := gb527, off := 0 }), v529, v532, Value.bool t534, v536, v539, Value.bool t541, v546, Value.bool t548, v550, Value.bool t552, Value.int IntKind.i64 t554, Value.bool t555, Value.int IntKind.i64 t556, Value.bool t557, Value.int IntKind.i64 t558, Value.bool t559, Value.int IntKind.i64 t560, Value.bool t561, Value.pointer (some { block := gb570, off := 0 }), Value.bool t569, Value.pointer (some { block := gb579, off := 0 }), Value.bool t578, undef, undef, undef, undef, undef, undef, undef, undef, undef, undef, undef, undef, undef, undef, undef, undef, undef, undef, undef, undef, undef, u47, u48, u49, u50, u51, u52, u53, u54, u55, u56, u57, u58, u59, u60, u61, u62, u63, u64, u65, u66, u67, u68, u69, u70, u71, u72, u73, u74, u75, u76, u77, u78, u79, u80, u81, u82, u83, u84, u85, u86, u87, u88, u89, u90, u91, u92, u93, u94, u95, u96, u97, u98, u99, u100, u101, u102, u103, u104, u105, u106, u107, u108, u109, u110, u111, u112, u113, u114, u115, u116, u117, u118, u119, u120, u121, u122, u123, u124, u125, u126, u127, u128, u129, u130, u131, u132, u133, u134, u135, u136, u137, u138, u139, u140, u141, u142, u143, u144, u145, u146, u147, u148, u149, u150, u151, u152, u153, u154, u155, u156, u157, u158, u159, u160, u161, u162, u163, u164, u165, u166, u167, u168, u169, u170, u171, u172, u173, u174, u175, u176, Value.bool false, u178, u179, u180, u181, u182, u183, u184, u185, u186, u187, u188, u189, u190, u191, u192, u193, u194, u195, u196, u197, u198, u199, u200, u201, u202, u203, u204, u205, u206, u207, u208, u209, u210, u211, u212, u213, u214, u215, u216, u217, u218, u219, u220, u221, u222, u223, u224, u225, u226, u227, u228, u229, u230, u231, u232, u233, u234, u235, u236, u237, u238, u239, u240, u241, u242, u243, u244, u245, u246, u247, u248, u249, u250, u251, u252, u253, u254, u255, u256, u257, u258, u259, u260, u261, u262, u263, u264, u265, u266, u267, u268, u269, u270, u271, u272, u273, u274, u275, u276, u277, u278, u279, u280, u281, u282, u283, u284, u285, u286, u287, u288, u289, u290, u291, u292, u293, u294, u295, u296, u297, u298, u299, u300, u301, u302, u303, u304, u305, u306, u307, u308, u309, u310, u311, u312, u313, u314, u315, u316, u317, u318, u319, u320, u321, u322, u323, u324, u325, u326, u327, u328, u329, u330, u331, u332, u333, u334, u335, u336, u337, u338, u339, u340, u341, u342, u343, u344, u345, u346, u347, u348, u349, u350, u351, u352, u353, u354, u355, u356, u357, u358, u359, u360, u361, u362, u363, u364, u365, u366, u367, u368, u369, u370, u371, u372, u373, u374, u375, u376, u377, u378, u379, u380, u381], defers := [] } wc := by
 have hu27:=Try.underlying27
 conv at hK1 => enter [a, w_, 1, 2]; whnf
 conv at hK => enter [a, w_, 1, 2]; whnf
 obtain ⟨⟨t581,t582,t585,t588⟩,A96,H⟩:=bd H;(try dsimp only at H)
 obtain ⟨⟨t590,t593,t596⟩,A97,H⟩:=bd H;(try dsimp only at H)
 obtain ⟨⟨t597,t600,t603⟩,A98,H⟩:=bd H;(try dsimp only at H)
 have HC99:=Aside0.mk H
 clear H
 have go_:=trivial;repeat ((first|clear go_|go_quiet (fail));go_upto_region 27 with (first|(go_at_call 37;(with_reducible refine (spec_DrawBeadsAt.calls kj69 _ _ l0 t581 t582 t585 t588 _ ?side1 ?side2 A96.out).mono ?_);(case side1=>exact cm (C_below HR0.out HB.out));(case side2=>exact HC0.out);rintro e w100 ⟨v583,v586,rfl,ho0,ho1,hb⟩;have HO584:=ak (R_lower (R_new' (R_new' (R_new' (R_new' (R_new' (R_new' (R_new' (R_new' (R_new' ho0 (R_lt (rm HO_4.out))) (R_lt (rm HO_5.out))) (R_lt (rm HO_10.out))) (R_lt (rm HO_528001.out))) (R_lt (rm HO_528002.out))) (R_lt (rm HO_571001.out))) (R_lt (rm HO_571002.out))) (R_lt (rm HO_580001.out))) (R_lt (rm HO_580002.out))) (below_size (h3 HB.out GE527.out GE570.out GE579.out)));have HO587:=ak (R_lower (R_new' (R_new' (R_new' (R_new' (R_new' (R_new' (R_new' (R_new' (R_new' ho1 (R_lt (rm HO_4.out))) (R_lt (rm HO_5.out))) (R_lt (rm HO_10.out))) (R_lt (rm HO_528001.out))) (R_lt (rm HO_528002.out))) (R_lt (rm HO_571001.out))) (R_lt (rm HO_571002.out))) (R_lt (rm HO_580001.out))) (R_lt (rm HO_580002.out))) (below_size (h3 HB.out GE527.out GE570.out GE579.out)));replace HO_4:=ak (R_mono (R_told (R_told (R_old (rm HO_4.out) hb) (R_base ho0)) (R_base ho1)) (fun _ h_=>h_.1));replace HO_5:=ak (R_mono (R_told (R_told (R_old (rm HO_5.out) hb) (R_base ho0)) (R_base ho1)) (fun _ h_=>h_.1));replace HO_10:=ak (R_mono (R_told (R_told (R_old (rm HO_10.out) hb) (R_base ho0)) (R_base ho1)) (fun _ h_=>h_.1));replace HO_528001:=ak (R_mono (R_told (R_told (R_old (rm HO_528001.out) hb) (R_base ho0)) (R_base ho1)) (fun _ h_=>h_.1));replace HO_528002:=ak (R_mono (R_told (R_told (R_old (rm HO_528002.out) hb) (R_base ho0)) (R_base ho1)) (fun _ h_=>h_.1));replace HO_571001:=ak (R_mono (R_told (R_told (R_old (rm HO_571001.out) hb) (R_base ho0)) (R_base ho1)) (fun _ h_=>h_.1));replace HO_571002:=ak (R_mono (R_told (R_told (R_old (rm HO_571002.out) hb) (R_base ho0)) (R_base ho1)) (fun _ h_=>h_.1));replace HO_580001:=ak (R_mono (R_told (R_told (R_old (rm HO_580001.out) hb) (R_base ho0)) (R_base ho1)) (fun _ h_=>h_.1));replace HO_580002:=ak (R_mono (R_told (R_told (R_old (rm HO_580002.out) hb) (R_base ho0)) (R_base ho1)) (fun _ h_=>h_.1));replace BK527:=kb BK527 hb;replace BK570:=kb BK570 hb;replace BK579:=kb BK579 hb;replace HB:=ak (below_step (h3 HB.out GE527.out GE570.out GE579.out) hb);(try clear hb);(try clear hk);(try clear hi);(try clear ho0);(try clear ho1))|((with_reducible refine gate_dst (N:=26) rfl ?_);(try (refine gate_guard (by rfl) ?_;dsimp only));refine box_event ?hg (N:=26) ?hd (cs:=#[.int .i64 0,.slice none 0 0,.slice none 0 0]) (t:=27) ?hr ?_;(case hd=>rfl);(case hg=>rfl);(case hr=>first|(go_simp;done)|(go_simp;rfl));intro gb589 hg w101 hbox hb;replace HO_4:=rb HO_4 hb;replace HO_5:=rb HO_5 hb;replace HO_10:=rb HO_10 hb;replace HO_528001:=rb HO_528001 hb;replace HO_528002:=rb HO_528002 hb;replace HO_571001:=rb HO_571001 hb;replace HO_571002:=rb HO_571002 hb;replace HO_580001:=rb HO_580001 hb;replace HO_580002:=rb HO_580002 hb;replace HO584:=rb HO584 hb;replace HO587:=rb HO587 hb;have BK589:=ak hbox;have GW589:=ak ((by rw [hg];exact (below_size (h3 HB.out GE527.out GE570.out GE579.out)) : w.heap.size ≤ gb589));have GE589:=ak ((by rw [hg];exact (below_size (h3 HB.out GE527.out GE570.out GE579.out)) : w.heap.size ≤ gb589));replace HB:=ak (below_step (h3 HB.out GE527.out GE570.out GE579.out) hb);have NB527_589:=nl BK527 hg;have NB589_527:=ng BK527 hg;replace BK527:=kb BK527 hb;have NB570_589:=nl BK570 hg;have NB589_570:=ng BK570 hg;replace BK570:=kb BK570 hb;have NB579_589:=nl BK579 hg;have NB589_579:=ng BK579 hg;replace BK579:=kb BK579 hb;clear hb hbox hg;have hnb102:=NB589_527.out;have hnc102:=NB527_589.out;have hnb103:=NB589_570.out;have hnc103:=NB570_589.out;have hnb104:=NB589_579.out;have hnc104:=NB579_589.out;have hcz105_0:=bc BK589 0 rfl;have hcz105_1:=bc BK589 1 rfl;have hcz105_2:=bc BK589 2 rfl;have hfz105_0:=bf BK589 0;have hfz105_1:=bf BK589 1;have hfz105_2:=bf BK589 2;obtain ⟨Ao106,co106,eo106⟩:=R_slice HO584.out;subst eo106;obtain ⟨Ao107,co107,eo107⟩:=R_slice HO587.out;subst eo107)|(go_at_call 32;(with_reducible refine (impl_BeadsAt.calls kj69 t581 _ _ t582 _ _ t585 t588 t590 t593 t596 _ ?side1 ?side2 ?side3 ?side4 A97.out).mono ?_);(case side1=>refine (R_reads' (e:=3) (base:=w.heap.size) (ok:=fun k_=>(((((((((ob k_ (.slice Ao107 t585.length co107) ∧ ob k_ v529) ∧ ob k_ v532) ∧ ob k_ v546) ∧ ob k_ (.slice Ao11 t521.length co11)) ∧ ob k_ (.slice Ao12 t524.length co12)) ∧ ob k_ (.slice Ao76 t563.length co76)) ∧ ob k_ (.slice Ao77 t566.length co77)) ∧ ob k_ (.slice Ao84 t572.length co84)) ∧ ob k_ (.slice Ao85 t575.length co85))) (n:=t582.length) (c:=co106) ?_).2.2;exact (by (with_reducible repeat (first|apply R_alloc|apply R_drewN|apply R_drew));exact (R_mono (R_far (p:=⟨gb589,2,none⟩) (R_far (p:=⟨gb589,1,none⟩) (R_far (p:=⟨gb589,0,none⟩) (R_types HO584.out BK589.out (by decide)) (fun _ hk=>hk.2) (.int .i64 t581)) (fun _ hk=>hk.2) (.slice Ao106 t582.length co106)) (fun _ hk=>hk.2) (.slice Ao107 t585.length co107)) (fun _ h_=>h_.1))));(case side2=>exact (R_reads' HO584.out).2.1);(case side3=>refine (R_reads' (e:=3) (base:=w.heap.size) (ok:=fun k_=>(((((((((ob k_ (.slice Ao106 t582.length co106) ∧ ob k_ v529) ∧ ob k_ v532) ∧ ob k_ v546) ∧ ob k_ (.slice Ao11 t521.length co11)) ∧ ob k_ (.slice Ao12 t524.length co12)) ∧ ob k_ (.slice Ao76 t563.length co76)) ∧ ob k_ (.slice Ao77 t566.length co77)) ∧ ob k_ (.slice Ao84 t572.length co84)) ∧ ob k_ (.slice Ao85 t575.length co85))) (n:=t585.length) (c:=co107) ?_).2.2;exact (by (with_reducible repeat (first|apply R_alloc|apply R_drewN|apply R_drew));exact (R_mono (R_far (p:=⟨gb589,2,none⟩) (R_far (p:=⟨gb589,1,none⟩) (R_far (p:=⟨gb589,0,none⟩) (R_types HO587.out BK589.out (by decide)) (fun _ hk=>hk.2) (.int .i64 t581)) (fun _ hk=>hk.2) (.slice Ao106 t582.length co106)) (fun _ hk=>hk.2) (.slice Ao107 t585.length co107)) (fun _ h_=>h_.1))));(case side4=>exact (R_reads' HO587.out).2.1);rintro e w108 ⟨v591,v594,rfl,ho0,ho1,hb⟩;have HO592:=ak (R_lower (R_new' (R_new' (R_new' (R_new' (R_new' (R_new' (R_new' (R_new' (R_new' (R_new' (R_new' ho0 (R_lt (by (with_reducible repeat (first|apply R_alloc|apply R_drewN|apply R_drew));exact (R_mono (R_far (p:=⟨gb589,2,none⟩) (R_far (p:=⟨gb589,1,none⟩) (R_far (p:=⟨gb589,0,none⟩) (R_types HO_4.out BK589.out (by decide)) (fun _ hk=>hk.2) (.int .i64 t581)) (fun _ hk=>hk.2) (.slice Ao106 t582.length co106)) (fun _ hk=>hk.2) (.slice Ao107 t585.length co107)) (fun _ h_=>h_.1))))) (R_lt (by (with_reducible repeat (first|apply R_alloc|apply R_drewN|apply R_drew));exact (R_mono (R_far (p:=⟨gb589,2,none⟩) (R_far (p:=⟨gb589,1,none⟩) (R_far (p:=⟨gb589,0,none⟩) (R_types HO_5.out BK589.out (by decide)) (fun _ hk=>hk.2) (.int .i64 t581)) (fun _ hk=>hk.2) (.slice Ao106 t582.length co106)) (fun _ hk=>hk.2) (.slice Ao107 t585.length co107)) (fun _ h_=>h_.1))))) (R_lt (by (with_reducible repeat (first|apply R_alloc|apply R_drewN|apply R_drew));exact (R_mono (R_far (p:=⟨gb589,2,none⟩) (R_far (p:=⟨gb589,1,none⟩) (R_far (p:=⟨gb589,0,none⟩) (R_types HO_10.out BK589.out (by decide)) (fun _ hk=>hk.2) (.int .i64 t581)) (fun _ hk=>hk.2) (.slice Ao106 t582.length co106)) (fun _ hk=>hk.2) (.slice Ao107 t585.length co107)) (fun _ h_=>h_.1))))) (R_lt (by (with_reducible repeat (first|apply R_alloc|apply R_drewN|apply R_drew));exact (R_mono (R_far (p:=⟨gb589,2,none⟩) (R_far (p:=⟨gb589,1,none⟩) (R_far (p:=⟨gb589,0,none⟩) (R_types HO_528001.out BK589.out (by decide)) (fun _ hk=>hk.2) (.int .i64 t581)) (fun _ hk=>hk.2) (.slice Ao106 t582.length co106)) (fun _ hk=>hk.2) (.slice Ao107 t585.length co107)) (fun _ h_=>h_.1))))) (R_lt (by (with_reducible repeat (first|apply R_alloc|apply R_drewN|apply R_drew));exact (R_mono (R_far (p:=⟨gb589,2,none⟩) (R_far (p:=⟨gb589,1,none⟩) (R_far (p:=⟨gb589,0,none⟩) (R_types HO_528002.out BK589.out (by decide)) (fun _ hk=>hk.2) (.int .i64 t581)) (fun _ hk=>hk.2) (.slice Ao106 t582.length co106)) (fun _ hk=>hk.2) (.slice Ao107 t585.length co107)) (fun _ h_=>h_.1))))) (R_lt (by (with_reducible repeat (first|apply R_alloc|apply R_drewN|apply R_drew));exact (R_mono (R_far (p:=⟨gb589,2,none⟩) (R_far (p:=⟨gb589,1,none⟩) (R_far (p:=⟨gb589,0,none⟩) (R_types HO_571001.out BK589.out (by decide)) (fun _ hk=>hk.2) (.int .i64 t581)) (fun _ hk=>hk.2) (.slice Ao106 t582.length co106)) (fun _ hk=>hk.2) (.slice Ao107 t585.length co107)) (fun _ h_=>h_.1))))) (R_lt (by (with_reducible repeat (first|apply R_alloc|apply R_drewN|apply R_drew));exact (R_mono (R_far (p:=⟨gb589,2,none⟩) (R_far (p:=⟨gb589,1,none⟩) (R_far (p:=⟨gb589,0,none⟩) (R_types HO_571002.out BK589.out (by decide)) (fun _ hk=>hk.2) (.int .i64 t581)) (fun _ hk=>hk.2) (.slice Ao106 t582.length co106)) (fun _ hk=>hk.2) (.slice Ao107 t585.length co107)) (fun _ h_=>h_.1))))) (R_lt (by (with_reducible repeat (first|apply R_alloc|apply R_drewN|apply R_drew));exact (R_mono (R_far (p:=⟨gb589,2,none⟩) (R_far (p:=⟨gb589,1,none⟩) (R_far (p:=⟨gb589,0,none⟩) (R_types HO_580001.out BK589.out (by decide)) (fun _ hk=>hk.2) (.int .i64 t581)) (fun _ hk=>hk.2) (.slice Ao106 t582.length co106)) (fun _ hk=>hk.2) (.slice Ao107 t585.length co107)) (fun _ h_=>h_.1))))) (R_lt (by (with_reducible repeat (first|apply R_alloc|apply R_drewN|apply R_drew));exact (R_mono (R_far (p:=⟨gb589,2,none⟩) (R_far (p:=⟨gb589,1,none⟩) (R_far (p:=⟨gb589,0,none⟩) (R_types HO_580002.out BK589.out (by decide)) (fun _ hk=>hk.2) (.int .i64 t581)) (fun _ hk=>hk.2) (.slice Ao106 t582.length co106)) (fun _ hk=>hk.2) (.slice Ao107 t585.length co107)) (fun _ h_=>h_.1))))) (R_lt (by (with_reducible repeat (first|apply R_alloc|apply R_drewN|apply R_drew));exact (R_mono (R_far (p:=⟨gb589,2,none⟩) (R_far (p:=⟨gb589,1,none⟩) (R_far (p:=⟨gb589,0,none⟩) (R_types HO584.out BK589.out (by decide)) (fun _ hk=>hk.2) (.int .i64 t581)) (fun _ hk=>hk.2) (.slice Ao106 t582.length co106)) (fun _ hk=>hk.2) (.slice Ao107 t585.length co107)) (fun _ h_=>h_.1))))) (R_lt (by (with_reducible repeat (first|apply R_alloc|apply R_drewN|apply R_drew));exact (R_mono (R_far (p:=⟨gb589,2,none⟩) (R_far (p:=⟨gb589,1,none⟩) (R_far (p:=⟨gb589,0,none⟩) (R_types HO587.out BK589.out (by decide)) (fun _ hk=>hk.2) (.int .i64 t581)) (fun _ hk=>hk.2) (.slice Ao106 t582.length co106)) (fun _ hk=>hk.2) (.slice Ao107 t585.length co107)) (fun _ h_=>h_.1))))) (below_size (by repeat (first|(with_reducible first|exact HB.out|apply below_alloc|apply pw_below_drewN|apply below_drew1|refine below_set ?_ GE527.out|refine below_set ?_ GE570.out|refine below_set ?_ GE579.out|refine below_set ?_ GE589.out)|exact HB.out))));have HO595:=ak (R_lower (R_new' (R_new' (R_new' (R_new' (R_new' (R_new' (R_new' (R_new' (R_new' (R_new' (R_new' ho1 (R_lt (by (with_reducible repeat (first|apply R_alloc|apply R_drewN|apply R_drew));exact (R_mono (R_far (p:=⟨gb589,2,none⟩) (R_far (p:=⟨gb589,1,none⟩) (R_far (p:=⟨gb589,0,none⟩) (R_types HO_4.out BK589.out (by decide)) (fun _ hk=>hk.2) (.int .i64 t581)) (fun _ hk=>hk.2) (.slice Ao106 t582.length co106)) (fun _ hk=>hk.2) (.slice Ao107 t585.length co107)) (fun _ h_=>h_.1))))) (R_lt (by (with_reducible repeat (first|apply R_alloc|apply R_drewN|apply R_drew));exact (R_mono (R_far (p:=⟨gb589,2,none⟩) (R_far (p:=⟨gb589,1,none⟩) (R_far (p:=⟨gb589,0,none⟩) (R_types HO_5.out BK589.out (by decide)) (fun _ hk=>hk.2) (.int .i64 t581)) (fun _ hk=>hk.2) (.slice Ao106 t582.length co106)) (fun _ hk=>hk.2) (.slice Ao107 t585.length co107)) (fun _ h_=>h_.1))))) (R_lt (by (with_reducible repeat (first|apply R_alloc|apply R_drewN|apply R_drew));exact (R_mono (R_far (p:=⟨gb589,2,none⟩) (R_far (p:=⟨gb589,1,none⟩) (R_far (p:=⟨gb589,0,none⟩) (R_types HO_10.out BK589.out (by decide)) (fun _ hk=>hk.2) (.int .i64 t581)) (fun _ hk=>hk.2) (.slice Ao106 t582.length co106)) (fun _ hk=>hk.2) (.slice Ao107 t585.length co107)) (fun _ h_=>h_.1))))) (R_lt (by (with_reducible repeat (first|apply R_alloc|apply R_drewN|apply R_drew));exact (R_mono (R_far (p:=⟨gb589,2,none⟩) (R_far (p:=⟨gb589,1,none⟩) (R_far (p:=⟨gb589,0,none⟩) (R_types HO_528001.out BK589.out (by decide)) (fun _ hk=>hk.2) (.int .i64 t581)) (fun _ hk=>hk.2) (.slice Ao106 t582.length co106)) (fun _ hk=>hk.2) (.slice Ao107 t585.length co107)) (fun _ h_=>h_.1))))) (R_lt (by (with_reducible repeat (first|apply R_alloc|apply R_drewN|apply R_drew));exact (R_mono (R_far (p:=⟨gb589,2,none⟩) (R_far (p:=⟨gb589,1,none⟩) (R_far (p:=⟨gb589,0,none⟩) (R_types HO_528002.out BK589.out (by decide)) (fun _ hk=>hk.2) (.int .i64 t581)) (fun _ hk=>hk.2) (.slice Ao106 t582.length co106)) (fun _ hk=>hk.2) (.slice Ao107 t585.length co107)) (fun _ h_=>h_.1))))) (R_lt (by (with_reducible repeat (first|apply R_alloc|apply R_drewN|apply R_drew));exact (R_mono (R_far (p:=⟨gb589,2,none⟩) (R_far (p:=⟨gb589,1,none⟩) (R_far (p:=⟨gb589,0,none⟩) (R_types HO_571001.out BK589.out (by decide)) (fun _ hk=>hk.2) (.int .i64 t581)) (fun _ hk=>hk.2) (.slice Ao106 t582.length co106)) (fun _ hk=>hk.2) (.slice Ao107 t585.length co107)) (fun _ h_=>h_.1))))) (R_lt (by (with_reducible repeat (first|apply R_alloc|apply R_drewN|apply R_drew));exact (R_mono (R_far (p:=⟨gb589,2,none⟩) (R_far (p:=⟨gb589,1,none⟩) (R_far (p:=⟨gb589,0,none⟩) (R_types HO_571002.out BK589.out (by decide)) (fun _ hk=>hk.2) (.int .i64 t581)) (fun _ hk=>hk.2) (.slice Ao106 t582.length co106)) (fun _ hk=>hk.2) (.slice Ao107 t585.length co107)) (fun _ h_=>h_.1))))) (R_lt (by (with_reducible repeat (first|apply R_alloc|apply R_drewN|apply R_drew));exact (R_mono (R_far (p:=⟨gb589,2,none⟩) (R_far (p:=⟨gb589,1,none⟩) (R_far (p:=⟨gb589,0,none⟩) (R_types HO_580001.out BK589.out (by decide)) (fun _ hk=>hk.2) (.int .i64 t581)) (fun _ hk=>hk.2) (.slice Ao106 t582.length co106)) (fun _ hk=>hk.2) (.slice Ao107 t585.length co107)) (fun _ h_=>h_.1))))) (R_lt (by (with_reducible repeat (first|apply R_alloc|apply R_drewN|apply R_drew));exact (R_mono (R_far (p:=⟨gb589,2,none⟩) (R_far (p:=⟨gb589,1,none⟩) (R_far (p:=⟨gb589,0,none⟩) (R_types HO_580002.out BK589.out (by decide)) (fun _ hk=>hk.2) (.int .i64 t581)) (fun _ hk=>hk.2) (.slice Ao106 t582.length co106)) (fun _ hk=>hk.2) (.slice Ao107 t585.length co107)) (fun _ h_=>h_.1))))) (R_lt (by (with_reducible repeat (first|apply R_alloc|apply R_drewN|apply R_drew));exact (R_mono (R_far (p:=⟨gb589,2,none⟩) (R_far (p:=⟨gb589,1,none⟩) (R_far (p:=⟨gb589,0,none⟩) (R_types HO584.out BK589.out (by decide)) (fun _ hk=>hk.2) (.int .i64 t581)) (fun _ hk=>hk.2) (.slice Ao106 t582.length co106)) (fun _ hk=>hk.2) (.slice Ao107 t585.length co107)) (fun _ h_=>h_.1))))) (R_lt (by (with_reducible repeat (first|apply R_alloc|apply R_drewN|apply R_drew));exact (R_mono (R_far (p:=⟨gb589,2,none⟩) (R_far (p:=⟨gb589,1,none⟩) (R_far (p:=⟨gb589,0,none⟩) (R_types HO587.out BK589.out (by decide)) (fun _ hk=>hk.2) (.int .i64 t581)) (fun _ hk=>hk.2) (.slice Ao106 t582.length co106)) (fun _ hk=>hk.2) (.slice Ao107 t585.length co107)) (fun _ h_=>h_.1))))) (below_size (by repeat (first|(with_reducible first|exact HB.out|apply below_alloc|apply pw_below_drewN|apply below_drew1|refine below_set ?_ GE527.out|refine below_set ?_ GE570.out|refine below_set ?_ GE579.out|refine below_set ?_ GE589.out)|exact HB.out))));replace HO_4:=ak (R_mono (R_told (R_told (R_old (by (with_reducible repeat (first|apply R_alloc|apply R_drewN|apply R_drew));exact (R_mono (R_far (p:=⟨gb589,2,none⟩) (R_far (p:=⟨gb589,1,none⟩) (R_far (p:=⟨gb589,0,none⟩) (R_types HO_4.out BK589.out (by decide)) (fun _ hk=>hk.2) (.int .i64 t581)) (fun _ hk=>hk.2) (.slice Ao106 t582.length co106)) (fun _ hk=>hk.2) (.slice Ao107 t585.length co107)) (fun _ h_=>h_.1))) hb) (R_base ho0)) (R_base ho1)) (fun _ h_=>h_.1));replace HO_5:=ak (R_mono (R_told (R_told (R_old (by (with_reducible repeat (first|apply R_alloc|apply R_drewN|apply R_drew));exact (R_mono (R_far (p:=⟨gb589,2,none⟩) (R_far (p:=⟨gb589,1,none⟩) (R_far (p:=⟨gb589,0,none⟩) (R_types HO_5.out BK589.out (by decide)) (fun _ hk=>hk.2) (.int .i64 t581)) (fun _ hk=>hk.2) (.slice Ao106 t582.length co106)) (fun _ hk=>hk.2) (.slice Ao107 t585.length co107)) (fun _ h_=>h_.1))) hb) (R_base ho0)) (R_base ho1)) (fun _ h_=>h_.1));replace HO_10:=ak (R_mono (R_told (R_told (R_old (by (with_reducible repeat (first|apply R_alloc|apply R_drewN|apply R_drew));exact (R_mono (R_far (p:=⟨gb589,2,none⟩) (R_far (p:=⟨gb589,1,none⟩) (R_far (p:=⟨gb589,0,none⟩) (R_types HO_10.out BK589.out (by decide)) (fun _ hk=>hk.2) (.int .i64 t581)) (fun _ hk=>hk.2) (.slice Ao106 t582.length co106)) (fun _ hk=>hk.2) (.slice Ao107 t585.length co107)) (fun _ h_=>h_.1))) hb) (R_base ho0)) (R_base ho1)) (fun _ h_=>h_.1));replace HO_528001:=ak (R_mono (R_told (R_told (R_old (by (with_reducible repeat (first|apply R_alloc|apply R_drewN|apply R_drew));exact (R_mono (R_far (p:=⟨gb589,2,none⟩) (R_far (p:=⟨gb589,1,none⟩) (R_far (p:=⟨gb589,0,none⟩) (R_types HO_528001.out BK589.out (by decide)) (fun _ hk=>hk.2) (.int .i64 t581)) (fun _ hk=>hk.2) (.slice Ao106 t582.length co106)) (fun _ hk=>hk.2) (.slice Ao107 t585.length co107)) (fun _ h_=>h_.1))) hb) (R_base ho0)) (R_base ho1)) (fun _ h_=>h_.1));replace HO_528002:=ak (R_mono (R_told (R_told (R_old (by (with_reducible repeat (first|apply R_alloc|apply R_drewN|apply R_drew));exact (R_mono (R_far (p:=⟨gb589,2,none⟩) (R_far (p:=⟨gb589,1,none⟩) (R_far (p:=⟨gb589,0,none⟩) (R_types HO_528002.out BK589.out (by decide)) (fun _ hk=>hk.2) (.int .i64 t581)) (fun _ hk=>hk.2) (.slice Ao106 t582.length co106)) (fun _ hk=>hk.2) (.slice Ao107 t585.length co107)) (fun _ h_=>h_.1))) hb) (R_base ho0)) (R_base ho1)) (fun _ h_=>h_.1));replace HO_571001:=ak (R_mono (R_told (R_told (R_old (by (with_reducible repeat (first|apply R_alloc|apply R_drewN|apply R_drew));exact (R_mono (R_far (p:=⟨gb589,2,none⟩) (R_far (p:=⟨gb589,1,none⟩) (R_far (p:=⟨gb589,0,none⟩) (R_types HO_571001.out BK589.out (by decide)) (fun _ hk=>hk.2) (.int .i64 t581)) (fun _ hk=>hk.2) (.slice Ao106 t582.length co106)) (fun _ hk=>hk.2) (.slice Ao107 t585.length co107)) (fun _ h_=>h_.1))) hb) (R_base ho0)) (R_base ho1)) (fun _ h_=>h_.1));replace HO_571002:=ak (R_mono (R_told (R_told (R_old (by (with_reducible repeat (first|apply R_alloc|apply R_drewN|apply R_drew));exact (R_mono (R_far (p:=⟨gb589,2,none⟩) (R_far (p:=⟨gb589,1,none⟩) (R_far (p:=⟨gb589,0,none⟩) (R_types HO_571002.out BK589.out (by decide)) (fun _ hk=>hk.2) (.int .i64 t581)) (fun _ hk=>hk.2) (.slice Ao106 t582.length co106)) (fun _ hk=>hk.2) (.slice Ao107 t585.length co107)) (fun _ h_=>h_.1))) hb) (R_base ho0)) (R_base ho1)) (fun _ h_=>h_.1));replace HO_580001:=ak (R_mono (R_told (R_told (R_old (by (with_reducible repeat (first|apply R_alloc|apply R_drewN|apply R_drew));exact (R_mono (R_far (p:=⟨gb589,2,none⟩) (R_far (p:=⟨gb589,1,none⟩) (R_far (p:=⟨gb589,0,none⟩) (R_types HO_580001.out BK589.out (by decide)) (fun _ hk=>hk.2) (.int .i64 t581)) (fun _ hk=>hk.2) (.slice Ao106 t582.length co106)) (fun _ hk=>hk.2) (.slice Ao107 t585.length co107)) (fun _ h_=>h_.1))) hb) (R_base ho0)) (R_base ho1)) (fun _ h_=>h_.1));replace HO_580002:=ak (R_mono (R_told (R_told (R_old (by (with_reducible repeat (first|apply R_alloc|apply R_drewN|apply R_drew));exact (R_mono (R_far (p:=⟨gb589,2,none⟩) (R_far (p:=⟨gb589,1,none⟩) (R_far (p:=⟨gb589,0,none⟩) (R_types HO_580002.out BK589.out (by decide)) (fun _ hk=>hk.2) (.int .i64 t581)) (fun _ hk=>hk.2) (.slice Ao106 t582.length co106)) (fun _ hk=>hk.2) (.slice Ao107 t585.length co107)) (fun _ h_=>h_.1))) hb) (R_base ho0)) (R_base ho1)) (fun _ h_=>h_.1));replace HO584:=ak (R_mono (R_told (R_told (R_old (by (with_reducible repeat (first|apply R_alloc|apply R_drewN|apply R_drew));exact (R_mono (R_far (p:=⟨gb589,2,none⟩) (R_far (p:=⟨gb589,1,none⟩) (R_far (p:=⟨gb589,0,none⟩) (R_types HO584.out BK589.out (by decide)) (fun _ hk=>hk.2) (.int .i64 t581)) (fun _ hk=>hk.2) (.slice Ao106 t582.length co106)) (fun _ hk=>hk.2) (.slice Ao107 t585.length co107)) (fun _ h_=>h_.1))) hb) (R_base ho0)) (R_base ho1)) (fun _ h_=>h_.1));replace HO587:=ak (R_mono (R_told (R_told (R_old (by (with_reducible repeat (first|apply R_alloc|apply R_drewN|apply R_drew));exact (R_mono (R_far (p:=⟨gb589,2,none⟩) (R_far (p:=⟨gb589,1,none⟩) (R_far (p:=⟨gb589,0,none⟩) (R_types HO587.out BK589.out (by decide)) (fun _ hk=>hk.2) (.int .i64 t581)) (fun _ hk=>hk.2) (.slice Ao106 t582.length co106)) (fun _ hk=>hk.2) (.slice Ao107 t585.length co107)) (fun _ h_=>h_.1))) hb) (R_base ho0)) (R_base ho1)) (fun _ h_=>h_.1));replace BK527:=ak (blk_below (g:=gb527) (o:=.cells #[.int .i64 t520,.slice Ao11 t521.length co11,.slice Ao12 t524.length co12] 27 (0,0)) (by (with_reducible repeat (first|apply blk_drewN|apply blk_drew|apply blk_alloc));refine blk_far ?_ NB527_589.out _;(with_reducible repeat (first|apply blk_drewN|apply blk_drew|apply blk_alloc));refine blk_far ?_ NB527_589.out _;(with_reducible repeat (first|apply blk_drewN|apply blk_drew|apply blk_alloc));refine blk_far ?_ NB527_589.out _;exact bm BK527.out) hb);replace BK570:=ak (blk_below (g:=gb570) (o:=.cells #[.int .i64 t562,.slice Ao76 t563.length co76,.slice Ao77 t566.length co77] 27 (0,0)) (by (with_reducible repeat (first|apply blk_drewN|apply blk_drew|apply blk_alloc));refine blk_far ?_ NB570_589.out _;(with_reducible repeat (first|apply blk_drewN|apply blk_drew|apply blk_alloc));refine blk_far ?_ NB570_589.out _;(with_reducible repeat (first|apply blk_drewN|apply blk_drew|apply blk_alloc));refine blk_far ?_ NB570_589.out _;exact bm BK570.out) hb);replace BK579:=ak (blk_below (g:=gb579) (o:=.cells #[.int .i64 t571,.slice Ao84 t572.length co84,.slice Ao85 t575.length co85] 27 (0,0)) (by (with_reducible repeat (first|apply blk_drewN|apply blk_drew|apply blk_alloc));refine blk_far ?_ NB579_589.out _;(with_reducible repeat (first|apply blk_drewN|apply blk_drew|apply blk_alloc));refine blk_far ?_ NB579_589.out _;(with_reducible repeat (first|apply blk_drewN|apply blk_drew|apply blk_alloc));refine blk_far ?_ NB579_589.out _;exact bm BK579.out) hb);replace BK589:=ak (blk_below (g:=gb589) (o:=.cells #[.int .i64 t581,.slice Ao106 t582.length co106,.slice Ao107 t585.length co107] 27 (0,0)) (by (with_reducible repeat (first|apply blk_drewN|apply blk_drew|apply blk_alloc));refine blk_put (cs:=#[.int .i64 t581,.slice Ao106 t582.length co106,.slice none 0 0]) ?_ 2 _ rfl;(with_reducible repeat (first|apply blk_drewN|apply blk_drew|apply blk_alloc));refine blk_put (cs:=#[.int .i64 t581,.slice none 0 0,.slice none 0 0]) ?_ 1 _ rfl;(with_reducible repeat (first|apply blk_drewN|apply blk_drew|apply blk_alloc));refine blk_put (cs:=#[.int .i64 0,.slice none 0 0,.slice none 0 0]) ?_ 0 _ rfl;exact bm BK589.out) hb);replace HB:=ak (below_step (by repeat (first|(with_reducible first|exact HB.out|apply below_alloc|apply pw_below_drewN|apply below_drew1|refine below_set ?_ GE527.out|refine below_set ?_ GE570.out|refine below_set ?_ GE579.out|refine below_set ?_ GE589.out)|exact HB.out)) hb);(try clear hb);(try clear hk);(try clear hi);(try clear ho0);(try clear ho1);have hcz109_0:=bc BK589 0 rfl;have hcz109_1:=bc BK589 1 rfl;have hcz109_2:=bc BK589 2 rfl;have hfz109_0:=bf BK589 0;have hfz109_1:=bf BK589 1;have hfz109_2:=bf BK589 2)|(go_at_call 31;(with_reducible refine (spec_BeadsAt.calls kj69 t581 _ _ t582 _ _ t585 t588 t597 t600 t603 _ ?side1 ?side2 ?side3 ?side4 A98.out).mono ?_);(case side1=>exact cm (R_reads' HO584.out).2.2);(case side2=>exact (R_reads' HO584.out).2.1);(case side3=>exact cm (R_reads' HO587.out).2.2);(case side4=>exact (R_reads' HO587.out).2.1);rintro e w110 ⟨v598,v601,rfl,ho0,ho1,hb⟩;have HO599:=ak (R_lower (R_new' (R_new' (R_new' (R_new' (R_new' (R_new' (R_new' (R_new' (R_new' (R_new' (R_new' (R_new' (R_new' ho0 (R_lt (rm HO_4.out))) (R_lt (rm HO_5.out))) (R_lt (rm HO_10.out))) (R_lt (rm HO_528001.out))) (R_lt (rm HO_528002.out))) (R_lt (rm HO_571001.out))) (R_lt (rm HO_571002.out))) (R_lt (rm HO_580001.out))) (R_lt (rm HO_580002.out))) (R_lt (rm HO584.out))) (R_lt (rm HO587.out))) (R_lt (rm HO592.out))) (R_lt (rm HO595.out))) (below_size (by repeat (first|(with_reducible first|exact HB.out|apply below_alloc|apply pw_below_drewN|apply below_drew1|refine below_set ?_ GE527.out|refine below_set ?_ GE570.out|refine below_set ?_ GE579.out|refine below_set ?_ GE589.out)|exact HB.out))));have HO602:=ak (R_lower (R_new' (R_new' (R_new' (R_new' (R_new' (R_new' (R_new' (R_new' (R_new' (R_new' (R_new' (R_new' (R_new' ho1 (R_lt (rm HO_4.out))) (R_lt (rm HO_5.out))) (R_lt (rm HO_10.out))) (R_lt (rm HO_528001.out))) (R_lt (rm HO_528002.out))) (R_lt (rm HO_571001.out))) (R_lt (rm HO_571002.out))) (R_lt (rm HO_580001.out))) (R_lt (rm HO_580002.out))) (R_lt (rm HO584.out))) (R_lt (rm HO587.out))) (R_lt (rm HO592.out))) (R_lt (rm HO595.out))) (below_size (by repeat (first|(with_reducible first|exact HB.out|apply below_alloc|apply pw_below_drewN|apply below_drew1|refine below_set ?_ GE527.out|refine below_set ?_ GE570.out|refine below_set ?_ GE579.out|refine below_set ?_ GE589.out)|exact HB.out))));replace HO_4:=ak (R_mono (R_told (R_told (R_old (rm HO_4.out) hb) (R_base ho0)) (R_base ho1)) (fun _ h_=>h_.1));replace HO_5:=ak (R_mono (R_told (R_told (R_old (rm HO_5.out) hb) (R_base ho0)) (R_base ho1)) (fun _ h_=>h_.1));replace HO_10:=ak (R_mono (R_told (R_told (R_old (rm HO_10.out) hb) (R_base ho0)) (R_base ho1)) (fun _ h_=>h_.1));replace HO_528001:=ak (R_mono (R_told (R_told (R_old (rm HO_528001.out) hb) (R_base ho0)) (R_base ho1)) (fun _ h_=>h_.1));replace HO_528002:=ak (R_mono (R_told (R_told (R_old (rm HO_528002.out) hb) (R_base ho0)) (R_base ho1)) (fun _ h_=>h_.1));replace HO_571001:=ak (R_mono (R_told (R_told (R_old (rm HO_571001.out) hb) (R_base ho0)) (R_base ho1)) (fun _ h_=>h_.1));replace HO_571002:=ak (R_mono (R_told (R_told (R_old (rm HO_571002.out) hb) (R_base ho0)) (R_base ho1)) (fun _ h_=>h_.1));replace HO_580001:=ak (R_mono (R_told (R_told (R_old (rm HO_580001.out) hb) (R_base ho0)) (R_base ho1)) (fun _ h_=>h_.1));replace HO_580002:=ak (R_mono (R_told (R_told (R_old (rm HO_580002.out) hb) (R_base ho0)) (R_base ho1)) (fun _ h_=>h_.1));replace HO584:=ak (R_mono (R_told (R_told (R_old (rm HO584.out) hb) (R_base ho0)) (R_base ho1)) (fun _ h_=>h_.1));replace HO587:=ak (R_mono (R_told (R_told (R_old (rm HO587.out) hb) (R_base ho0)) (R_base ho1)) (fun _ h_=>h_.1));replace HO592:=ak (R_mono (R_told (R_told (R_old (rm HO592.out) hb) (R_base ho0)) (R_base ho1)) (fun _ h_=>h_.1));replace HO595:=ak (R_mono (R_told (R_told (R_old (rm HO595.out) hb) (R_base ho0)) (R_base ho1)) (fun _ h_=>h_.1));replace BK527:=kb BK527 hb;replace BK570:=kb BK570 hb;replace BK579:=kb BK579 hb;replace BK589:=kb BK589 hb;replace HB:=ak (below_step (by repeat (first|(with_reducible first|exact HB.out|apply below_alloc|apply pw_below_drewN|apply below_drew1|refine below_set ?_ GE527.out|refine below_set ?_ GE570.out|refine below_set ?_ GE579.out|refine below_set ?_ GE589.out)|exact HB.out)) hb);(try clear hb);(try clear hk);(try clear hi);(try clear ho0);(try clear ho1))))
 (try simp only [ap])
 go_cut [211] (fun v211 wc=>∃ (kq : Nat) (x211_98 : Bool),v211 = .bool x211_98 ∧ Aside0 (laws_FnWires.j5 kq t528 t531 t534 t545 t554 t558 t588 t590 t593 t596 x211_98 t520 t521 t524 t562 t563 t566 t581 t582 t585 = some r) ∧ Aside0 (kq ≤ kj69) ∧ Aside0 (Kd.R (Kd.int .i64) 3 wc w.heap.size (fun k_=>ob k_ v532 ∧ ob k_ v546 ∧ ob k_ v591 ∧ ob k_ v594 ∧ ob k_ (.slice Ao11 t521.length co11) ∧ ob k_ (.slice Ao12 t524.length co12) ∧ ob k_ (.slice Ao76 t563.length co76) ∧ ob k_ (.slice Ao77 t566.length co77) ∧ ob k_ (.slice Ao84 t572.length co84) ∧ ob k_ (.slice Ao85 t575.length co85) ∧ ob k_ (.slice Ao106 t582.length co106) ∧ ob k_ (.slice Ao107 t585.length co107)) v529 t528) ∧ Aside0 (Kd.R (Kd.int .i64) 3 wc w.heap.size (fun k_=>ob k_ v529 ∧ ob k_ v546 ∧ ob k_ v591 ∧ ob k_ v594 ∧ ob k_ (.slice Ao11 t521.length co11) ∧ ob k_ (.slice Ao12 t524.length co12) ∧ ob k_ (.slice Ao76 t563.length co76) ∧ ob k_ (.slice Ao77 t566.length co77) ∧ ob k_ (.slice Ao84 t572.length co84) ∧ ob k_ (.slice Ao85 t575.length co85) ∧ ob k_ (.slice Ao106 t582.length co106) ∧ ob k_ (.slice Ao107 t585.length co107)) v532 t531) ∧ Aside0 (Kd.R (Kd.int .i64) 3 wc w.heap.size (fun k_=>ob k_ v529 ∧ ob k_ v532 ∧ ob k_ v591 ∧ ob k_ v594 ∧ ob k_ (.slice Ao11 t521.length co11) ∧ ob k_ (.slice Ao12 t524.length co12) ∧ ob k_ (.slice Ao76 t563.length co76) ∧ ob k_ (.slice Ao77 t566.length co77) ∧ ob k_ (.slice Ao84 t572.length co84) ∧ ob k_ (.slice Ao85 t575.length co85) ∧ ob k_ (.slice Ao106 t582.length co106) ∧ ob k_ (.slice Ao107 t585.length co107)) v546 t545) ∧ Aside0 (Kd.R (Kd.int .i64) 3 wc w.heap.size (fun k_=>ob k_ v529 ∧ ob k_ v532 ∧ ob k_ v546 ∧ ob k_ v594 ∧ ob k_ (.slice Ao11 t521.length co11) ∧ ob k_ (.slice Ao12 t524.length co12) ∧ ob k_ (.slice Ao76 t563.length co76) ∧ ob k_ (.slice Ao77 t566.length co77) ∧ ob k_ (.slice Ao84 t572.length co84) ∧ ob k_ (.slice Ao85 t575.length co85) ∧ ob k_ (.slice Ao106 t582.length co106) ∧ ob k_ (.slice Ao107 t585.length co107)) v591 t590) ∧ Aside0 (Kd.R (Kd.int .i64) 3 wc w.heap.size (fun k_=>ob k_ v529 ∧ ob k_ v532 ∧ ob k_ v546 ∧ ob k_ v591 ∧ ob k_ (.slice Ao11 t521.length co11) ∧ ob k_ (.slice Ao12 t524.length co12) ∧ ob k_ (.slice Ao76 t563.length co76) ∧ ob k_ (.slice Ao77 t566.length co77) ∧ ob k_ (.slice Ao84 t572.length co84) ∧ ob k_ (.slice Ao85 t575.length co85) ∧ ob k_ (.slice Ao106 t582.length co106) ∧ ob k_ (.slice Ao107 t585.length co107)) v594 t593) ∧ Aside0 (Kd.R (Kd.int .i64) 3 wc w.heap.size (fun k_=>ob k_ v529 ∧ ob k_ v532 ∧ ob k_ v546 ∧ ob k_ v591 ∧ ob k_ v594 ∧ ob k_ (.slice Ao12 t524.length co12) ∧ ob k_ (.slice Ao76 t563.length co76) ∧ ob k_ (.slice Ao77 t566.length co77) ∧ ob k_ (.slice Ao84 t572.length co84) ∧ ob k_ (.slice Ao85 t575.length co85) ∧ ob k_ (.slice Ao106 t582.length co106) ∧ ob k_ (.slice Ao107 t585.length co107)) (.slice Ao11 t521.length co11) t521) ∧ Aside0 (Kd.R (Kd.int .i64) 3 wc w.heap.size (fun k_=>ob k_ v529 ∧ ob k_ v532 ∧ ob k_ v546 ∧ ob k_ v591 ∧ ob k_ v594 ∧ ob k_ (.slice Ao11 t521.length co11) ∧ ob k_ (.slice Ao76 t563.length co76) ∧ ob k_ (.slice Ao77 t566.length co77) ∧ ob k_ (.slice Ao84 t572.length co84) ∧ ob k_ (.slice Ao85 t575.length co85) ∧ ob k_ (.slice Ao106 t582.length co106) ∧ ob k_ (.slice Ao107 t585.length co107)) (.slice Ao12 t524.length co12) t524) ∧ Aside0 (Kd.R (Kd.int .i64) 3 wc w.heap.size (fun k_=>ob k_ v529 ∧ ob k_ v532 ∧ ob k_ v546 ∧ ob k_ v591 ∧ ob k_ v594 ∧ ob k_ (.slice Ao11 t521.length co11) ∧ ob k_ (.slice Ao12 t524.length co12) ∧ ob k_ (.slice Ao77 t566.length co77) ∧ ob k_ (.slice Ao84 t572.length co84) ∧ ob k_ (.slice Ao85 t575.length co85) ∧ ob k_ (.slice Ao106 t582.length co106) ∧ ob k_ (.slice Ao107 t585.length co107)) (.slice Ao76 t563.length co76) t563) ∧ Aside0 (Kd.R (Kd.int .i64) 3 wc w.heap.size (fun k_=>ob k_ v529 ∧ ob k_ v532 ∧ ob k_ v546 ∧ ob k_ v591 ∧ ob k_ v594 ∧ ob k_ (.slice Ao11 t521.length co11) ∧ ob k_ (.slice Ao12 t524.length co12) ∧ ob k_ (.slice Ao76 t563.length co76) ∧ ob k_ (.slice Ao84 t572.length co84) ∧ ob k_ (.slice Ao85 t575.length co85) ∧ ob k_ (.slice Ao106 t582.length co106) ∧ ob k_ (.slice Ao107 t585.length co107)) (.slice Ao77 t566.length co77) t566) ∧ Aside0 (Kd.R (Kd.int .i64) 3 wc w.heap.size (fun k_=>ob k_ v529 ∧ ob k_ v532 ∧ ob k_ v546 ∧ ob k_ v591 ∧ ob k_ v594 ∧ ob k_ (.slice Ao11 t521.length co11) ∧ ob k_ (.slice Ao12 t524.length co12) ∧ ob k_ (.slice Ao76 t563.length co76) ∧ ob k_ (.slice Ao77 t566.length co77) ∧ ob k_ (.slice Ao85 t575.length co85) ∧ ob k_ (.slice Ao106 t582.length co106) ∧ ob k_ (.slice Ao107 t585.length co107)) (.slice Ao84 t572.length co84) t572) ∧ Aside0 (Kd.R (Kd.int .i64) 3 wc w.heap.size (fun k_=>ob k_ v529 ∧ ob k_ v532 ∧ ob k_ v546 ∧ ob k_ v591 ∧ ob k_ v594 ∧ ob k_ (.slice Ao11 t521.length co11) ∧ ob k_ (.slice Ao12 t524.length co12) ∧ ob k_ (.slice Ao76 t563.length co76) ∧ ob k_ (.slice Ao77 t566.length co77) ∧ ob k_ (.slice Ao84 t572.length co84) ∧ ob k_ (.slice Ao106 t582.length co106) ∧ ob k_ (.slice Ao107 t585.length co107)) (.slice Ao85 t575.length co85) t575) ∧ Aside0 (Kd.R (Kd.int .i64) 3 wc w.heap.size (fun k_=>ob k_ v529 ∧ ob k_ v532 ∧ ob k_ v546 ∧ ob k_ v591 ∧ ob k_ v594 ∧ ob k_ (.slice Ao11 t521.length co11) ∧ ob k_ (.slice Ao12 t524.length co12) ∧ ob k_ (.slice Ao76 t563.length co76) ∧ ob k_ (.slice Ao77 t566.length co77) ∧ ob k_ (.slice Ao84 t572.length co84) ∧ ob k_ (.slice Ao85 t575.length co85) ∧ ob k_ (.slice Ao107 t585.length co107)) (.slice Ao106 t582.length co106) t582) ∧ Aside0 (Kd.R (Kd.int .i64) 3 wc w.heap.size (fun k_=>ob k_ v529 ∧ ob k_ v532 ∧ ob k_ v546 ∧ ob k_ v591 ∧ ob k_ v594 ∧ ob k_ (.slice Ao11 t521.length co11) ∧ ob k_ (.slice Ao12 t524.length co12) ∧ ob k_ (.slice Ao76 t563.length co76) ∧ ob k_ (.slice Ao77 t566.length co77) ∧ ob k_ (.slice Ao84 t572.length co84) ∧ ob k_ (.slice Ao85 t575.length co85) ∧ ob k_ (.slice Ao106 t582.length co106)) (.slice Ao107 t585.length co107) t585) ∧ Aside0 (wc.heap[gb527]? = some (.cells #[.int .i64 t520,(.slice Ao11 t521.length co11),(.slice Ao12 t524.length co12)] 27 (0,0))) ∧ Aside0 (wc.heap[gb570]? = some (.cells #[.int .i64 t562,(.slice Ao76 t563.length co76),(.slice Ao77 t566.length co77)] 27 (0,0))) ∧ Aside0 (wc.heap[gb579]? = some (.cells #[.int .i64 t571,(.slice Ao84 t572.length co84),(.slice Ao85 t575.length co85)] 27 (0,0))) ∧ Aside0 (wc.heap[gb589]? = some (.cells #[.int .i64 t581,(.slice Ao106 t582.length co106),(.slice Ao107 t585.length co107)] 27 (0,0))) ∧ Aside0 (Below w.heap.size w wc))
 case first =>
  have H:=HC99.out
  clear HC99
  by_cases c111 : (t596 != t603) = true
  ·rw [if_pos c111] at H
   have c111b0 : (t596 != t603) = true:=c111
   (try (have c111b1 : decide (t596 = t603) = false:=by simpa using c111))
   (try (have c111b2 : (t596 == t603) = false:=by simpa using c111))
   (try (have c111b3 : ¬ (t596 = t603):=by simpa using c111))
   clear c111
   (first|rw [c111b0]|(simp only [i64_w,i32_w];rw [c111b0])|skip)
   as_aux_lemma =>
    have H':=Aside0.mk H
    clear H
    go_wp2
    repeat (go_quiet (fail);try go_wp2)
    go_meet
    case rel=>exact ⟨_,(true),fd,H',⟨by first|exact Nat.le_refl _|(have:=HJ6.out;have:=HJ36.out;have:=HJ49.out;have:=HJ59.out;have:=HJ69.out;omega)⟩,rq HO_4,rq HO_5,rq HO_10,rq HO592,rq HO595,rq HO_528001,rq HO_528002,rq HO_571001,rq HO_571002,rq HO_580001,rq HO_580002,rq HO584,rq HO587,⟨bm BK527.out⟩,⟨bm BK570.out⟩,⟨bm BK579.out⟩,⟨bm BK589.out⟩,⟨by repeat (first|(with_reducible first|exact HB.out|apply below_alloc|apply pw_below_drewN|apply below_drew1|refine below_set ?_ GE527.out|refine below_set ?_ GE570.out|refine below_set ?_ GE579.out|refine below_set ?_ GE589.out)|exact HB.out)⟩⟩
  rw [if_neg c111] at H
  have c111b0 : (t596 != t603) = false:=by simpa using c111
  (try (have c111b1 : decide (t596 = t603) = true:=by simpa using c111))
  (try (have c111b2 : (t596 == t603) = true:=by simpa using c111))
  clear c111
  (first|rw [c111b0]|(simp only [i64_w,i32_w];rw [c111b0])|skip)
  obtain ⟨t604,A112,H⟩:=bd H;(try dsimp only at H)
  by_cases c113 : t604 = true
  rotate_left
  ·replace c113:=Bool.eq_false_iff.mpr c113
   subst c113
   rw [if_neg (show ¬ (false = true) by decide)] at H
   as_aux_lemma =>
    have H':=Aside0.mk H
    clear H
    obtain ⟨Ao119,co119,eo119⟩:=R_slice HO592.out
    subst eo119
    obtain ⟨Ao120,co120,eo120⟩:=R_slice HO599.out
    subst eo120
    have go_:=trivial;repeat ((first|clear go_|go_quiet (first|(go_at_call 35;(with_reducible refine (laws_rInts.calls kj69 _ _ t590 _ _ t597 false _ ?side1 ?side2 ?side3 ?side4 A112.out).mono ?_);(case side1=>exact cm (R_reads' HO592.out).2.2);(case side2=>exact (R_reads' HO592.out).2.1);(case side3=>exact cm (R_reads' HO599.out).2.2);(case side4=>exact (R_reads' HO599.out).2.1);rintro e w' ⟨rfl,⟨nd,rfl⟩⟩;(try first|exact ⟨rfl,_,World.drewN_drewN _ _ _⟩|exact ⟨rfl,_,Eq.trans (World.drewN_drewN _ _ _) (congrArg (World.drewN _) (Nat.add_assoc _ _ _))⟩))));try go_wp2_with (first|(go_at_call 35;(with_reducible refine (laws_rInts.calls kj69 _ _ t590 _ _ t597 false _ ?side1 ?side2 ?side3 ?side4 A112.out).mono ?_);(case side1=>exact cm (R_reads' HO592.out).2.2);(case side2=>exact (R_reads' HO592.out).2.1);(case side3=>exact cm (R_reads' HO599.out).2.2);(case side4=>exact (R_reads' HO599.out).2.1);rintro e w' ⟨rfl,⟨nd,rfl⟩⟩;(try first|exact ⟨rfl,_,World.drewN_drewN _ _ _⟩|exact ⟨rfl,_,Eq.trans (World.drewN_drewN _ _ _) (congrArg (World.drewN _) (Nat.add_assoc _ _ _))⟩))))
    go_meet
    case rel=>exact ⟨_,(true),fd,H',⟨by first|exact Nat.le_refl _|(have:=HJ6.out;have:=HJ36.out;have:=HJ49.out;have:=HJ59.out;have:=HJ69.out;omega)⟩,rq HO_4,rq HO_5,rq HO_10,rq HO592,rq HO595,rq HO_528001,rq HO_528002,rq HO_571001,rq HO_571002,rq HO_580001,rq HO_580002,rq HO584,rq HO587,⟨bm BK527.out⟩,⟨bm BK570.out⟩,⟨bm BK579.out⟩,⟨bm BK589.out⟩,⟨by repeat (first|(with_reducible first|exact HB.out|apply below_alloc|apply pw_below_drewN|apply below_drew1|refine below_set ?_ GE527.out|refine below_set ?_ GE570.out|refine below_set ?_ GE579.out|refine below_set ?_ GE589.out)|exact HB.out)⟩⟩
  subst c113
  rw [if_pos rfl] at H
  obtain ⟨t605,A114,H⟩:=bd H;(try dsimp only at H)
  as_aux_lemma =>
   have H':=Aside0.mk H
   clear H
   obtain ⟨Ao115,co115,eo115⟩:=R_slice HO592.out
   subst eo115
   obtain ⟨Ao116,co116,eo116⟩:=R_slice HO599.out
   subst eo116
   have go_:=trivial;repeat ((first|clear go_|go_quiet (first|(go_at_call 35;(with_reducible refine (laws_rInts.calls kj69 _ _ t590 _ _ t597 true _ ?side1 ?side2 ?side3 ?side4 A112.out).mono ?_);(case side1=>exact cm (R_reads' HO592.out).2.2);(case side2=>exact (R_reads' HO592.out).2.1);(case side3=>exact cm (R_reads' HO599.out).2.2);(case side4=>exact (R_reads' HO599.out).2.1);rintro e w' ⟨rfl,⟨nd,rfl⟩⟩;(try first|exact ⟨rfl,_,World.drewN_drewN _ _ _⟩|exact ⟨rfl,_,Eq.trans (World.drewN_drewN _ _ _) (congrArg (World.drewN _) (Nat.add_assoc _ _ _))⟩);obtain ⟨Ao117,co117,eo117⟩:=R_slice HO595.out;subst eo117;obtain ⟨Ao118,co118,eo118⟩:=R_slice HO602.out;subst eo118)|(go_at_call 35;(with_reducible refine (laws_rInts.calls kj69 _ _ t593 _ _ t600 t605 _ ?side1 ?side2 ?side3 ?side4 A114.out).mono ?_);(case side1=>exact cm (R_reads' HO595.out).2.2);(case side2=>exact (R_reads' HO595.out).2.1);(case side3=>exact cm (R_reads' HO602.out).2.2);(case side4=>exact (R_reads' HO602.out).2.1);rintro e w' ⟨rfl,⟨nd,rfl⟩⟩;(try first|exact ⟨rfl,_,World.drewN_drewN _ _ _⟩|exact ⟨rfl,_,Eq.trans (World.drewN_drewN _ _ _) (congrArg (World.drewN _) (Nat.add_assoc _ _ _))⟩))));try go_wp2_with (first|(go_at_call 35;(with_reducible refine (laws_rInts.calls kj69 _ _ t590 _ _ t597 true _ ?side1 ?side2 ?side3 ?side4 A112.out).mono ?_);(case side1=>exact cm (R_reads' HO592.out).2.2);(case side2=>exact (R_reads' HO592.out).2.1);(case side3=>exact cm (R_reads' HO599.out).2.2);(case side4=>exact (R_reads' HO599.out).2.1);rintro e w' ⟨rfl,⟨nd,rfl⟩⟩;(try first|exact ⟨rfl,_,World.drewN_drewN _ _ _⟩|exact ⟨rfl,_,Eq.trans (World.drewN_drewN _ _ _) (congrArg (World.drewN _) (Nat.add_assoc _ _ _))⟩);obtain ⟨Ao117,co117,eo117⟩:=R_slice HO595.out;subst eo117;obtain ⟨Ao118,co118,eo118⟩:=R_slice HO602.out;subst eo118)|(go_at_call 35;(with_reducible refine (laws_rInts.calls kj69 _ _ t593 _ _ t600 t605 _ ?side1 ?side2 ?side3 ?side4 A114.out).mono ?_);(case side1=>exact cm (R_reads' HO595.out).2.2);(case side2=>exact (R_reads' HO595.out).2.1);(case side3=>exact cm (R_reads' HO602.out).2.2);(case side4=>exact (R_reads' HO602.out).2.1);rintro e w' ⟨rfl,⟨nd,rfl⟩⟩;(try first|exact ⟨rfl,_,World.drewN_drewN _ _ _⟩|exact ⟨rfl,_,Eq.trans (World.drewN_drewN _ _ _) (congrArg (World.drewN _) (Nat.add_assoc _ _ _))⟩))))
   go_meet
   case rel=>exact ⟨_,(!t605),fd,H',⟨by first|exact Nat.le_refl _|(have:=HJ6.out;have:=HJ36.out;have:=HJ49.out;have:=HJ59.out;have:=HJ69.out;omega)⟩,rq HO_4,rq HO_5,rq HO_10,rq HO592,rq HO595,rq HO_528001,rq HO_528002,rq HO_571001,rq HO_571002,rq HO_580001,rq HO_580002,rq HO584,rq HO587,⟨bm BK527.out⟩,⟨bm BK570.out⟩,⟨bm BK579.out⟩,⟨bm BK589.out⟩,⟨by repeat (first|(with_reducible first|exact HB.out|apply below_alloc|apply pw_below_drewN|apply below_drew1|refine below_set ?_ GE527.out|refine below_set ?_ GE570.out|refine below_set ?_ GE579.out|refine below_set ?_ GE589.out)|exact HB.out)⟩⟩
 clear HC99
 try clear c1
 try clear c2
 try clear p2
 try clear c3
 try clear c4
 try clear c5
 try clear c6
 try clear c7
 try clear c8
 try clear c9
 try clear c10
 try clear c11
 try clear c16
 try clear c16b0
 try clear c16b1
 try clear c16b2
 try clear c18
 try clear c18b0
 try clear c18b1
 try clear c18b2
 try clear c22
 try clear c34
 try clear c42
 try clear c42b0
 try clear c42b1
 try clear c42b2
 try clear c43
 try clear c43b0
 try clear c43b1
 try clear c43b2
 try clear c47
 try clear c55
 try clear c55b0
 try clear c55b1
 try clear c56
 try clear c56b0
 try clear c56b1
 try clear c56b2
 try clear c57
 try clear c65
 try clear c65b0
 try clear c65b1
 try clear c66
 try clear c66b0
 try clear c66b1
 try clear c66b2
 try clear c67
 try clear c74
 try clear c81
 try clear c82
 try clear c86
 try clear c86b0
 try clear c86b1
 try clear c86b2
 try clear c87
 try clear c87b0
 try clear c87b1
 try clear c87b2
 try clear c89
 try clear c90
 try clear c92
 try clear c95
 try clear c102
 try clear c103
 try clear c104
 try clear c111
 try clear c111b0
 try clear c111b1
 try clear c111b2
 try clear c113
 try clear hcz105_0
 try clear hcz105_1
 try clear hcz105_2
 try clear hcz109_0
 try clear hcz109_1
 try clear hcz109_2
 try clear hcz10_0
 try clear hcz10_1
 try clear hcz10_2
 try clear hcz14_0
 try clear hcz14_1
 try clear hcz14_2
 try clear hcz19_0
 try clear hcz19_1
 try clear hcz19_2
 try clear hcz24_0
 try clear hcz24_1
 try clear hcz24_2
 try clear hcz30_0
 try clear hcz30_1
 try clear hcz30_2
 try clear hcz38_0
 try clear hcz38_1
 try clear hcz38_2
 try clear hcz40_0
 try clear hcz40_1
 try clear hcz40_2
 try clear hcz51_0
 try clear hcz51_1
 try clear hcz51_2
 try clear hcz53_0
 try clear hcz53_1
 try clear hcz53_2
 try clear hcz61_0
 try clear hcz61_1
 try clear hcz61_2
 try clear hcz63_0
 try clear hcz63_1
 try clear hcz63_2
 try clear hcz71_0
 try clear hcz71_1
 try clear hcz71_2
 try clear hcz75_0
 try clear hcz75_1
 try clear hcz75_2
 try clear hcz78_0
 try clear hcz78_1
 try clear hcz78_2
 try clear hcz83_0
 try clear hcz83_1
 try clear hcz83_2
 try clear hcz91_0
 try clear hcz91_1
 try clear hcz91_2
 try clear hcz93_0
 try clear hcz93_1
 try clear hcz93_2
 try clear hfz105_0
 try clear hfz105_1
 try clear hfz105_2
 try clear hfz109_0
 try clear hfz109_1
 try clear hfz109_2
 try clear hfz10_0
 try clear hfz10_1
 try clear hfz10_2
 try clear hfz14_0
 try clear hfz14_1
 try clear hfz14_2
 try clear hfz19_0
 try clear hfz19_1
 try clear hfz19_2
 try clear hfz24_0
 try clear hfz24_1
 try clear hfz24_2
 try clear hfz30_0
 try clear hfz30_1
 try clear hfz30_2
 try clear hfz38_0
 try clear hfz38_1
 try clear hfz38_2
 try clear hfz40_0
 try clear hfz40_1
 try clear hfz40_2
 try clear hfz51_0
 try clear hfz51_1
 try clear hfz51_2
 try clear hfz53_0
 try clear hfz53_1
 try clear hfz53_2
 try clear hfz61_0
 try clear hfz61_1
 try clear hfz61_2
 try clear hfz63_0
 try clear hfz63_1
 try clear hfz63_2
 try clear hfz71_0
 try clear hfz71_1
 try clear hfz71_2
 try clear hfz75_0
 try clear hfz75_1
 try clear hfz75_2
 try clear hfz78_0
 try clear hfz78_1
 try clear hfz78_2
 try clear hfz83_0
 try clear hfz83_1
 try clear hfz83_2
 try clear hfz91_0
 try clear hfz91_1
 try clear hfz91_2
 try clear hfz93_0
 try clear hfz93_1
 try clear hfz93_2
 try clear p2
 obtain ⟨kq,x211_98,rfl,HA,HJ98,HO_4,HO_5,HO_10,HO_28,HO_29,HO_528001,HO_528002,HO_571001,HO_571002,HO_580001,HO_580002,HO_590001,HO_590002,BK527,BK570,BK579,BK589,HB⟩:=hcut
 cases kq with
 | zero=>exact absurd HA.out (by simp [laws_FnWires.j5])
 | succ kj98 =>
  have H:=HA.out
  clear HA
  simp only [laws_FnWires.j5] at H
  by_cases c121 : x211_98 = true
  ·subst c121
   rw [if_pos rfl] at H
   as_aux_lemma =>
    obtain rfl:=Option.some.inj H
    go_wp2
    repeat (go_quiet (fail);try go_wp2)
    go_ret
    exact ⟨fe,by repeat (first|(with_reducible first|exact HB.out|apply below_alloc|apply pw_below_drewN|apply below_drew1|refine below_set ?_ GE527.out|refine below_set ?_ GE570.out|refine below_set ?_ GE579.out|refine below_set ?_ GE589.out)|exact HB.out)⟩
  replace c121:=Bool.eq_false_iff.mpr c121
  subst c121
  rw [if_neg (show ¬ (false = true) by decide)] at H
  exact laws_FnWires.rest6 (by assumption) (by assumption) GE527 HJ6 HJ36 HJ49 HJ59 GE570 NB527_570 NB570_527 GE579 NB527_579 NB579_527 NB570_579 NB579_570 HJ69 GE589 NB527_589 NB589_527 NB570_589 NB589_570 NB579_589 NB589_579 HO_4 HO_5 HO_10 HO_28 HO_29 HO_528001 HO_528002 HO_571001 HO_571002 HO_580001 HO_580002 HO_590001 HO_590002 BK527 BK570 BK579 BK589 HB HJ98 H
end
end Go.Proofs.Ytciihopkgblpkaa.QFnWires
