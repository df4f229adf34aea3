/- Functions that the law FnWires comes to, and their walks: no condition but those named. -/
import Derived.Test.YtciihopkgblpkaaQFnWiresx0
import Derived.Test.YtciihopkgblpkaaQFnWiresx1
import Derived.Test.YtciihopkgblpkaaQFnWiresx3
import Derived.Test.YtciihopkgblpkaaQFnWiresx4
import Derived.Test.YtciihopkgblpkaaQFnWiresx5
import Derived.Test.YtciihopkgblpkaaQFnWiresx6
import Derived.Test.YtciihopkgblpkaaQFnWiresx7
import Derived.Test.YtciihopkgblpkaaQFnWiresx9
import Derived.Test.YtciihopkgblpkaaQFnWiresx10
import Derived.Test.YtciihopkgblpkaaQFnWiresx11
import Derived.Test.YtciihopkgblpkaaQFnWiresx14
import Derived.Test.YtciihopkgblpkaaQFnWiresx15
import Derived.Test.YtciihopkgblpkaaQFnWiresx16
namespace Go.Proofs.Ytciihopkgblpkaa.QFnWires
open Go.RowKit Go.Proofs.YtciihopkgblpkaaW.PrintWords Go.Proofs.YtciihopkgblpkaaW.PrintLast Go.Proofs.YtciihopkgblpkaaW.PrintMore Go.Proofs.Ytciihopkgblpkaa.Short
attribute [local go_sem] max2_int min2_int max_two min_two max_three min_three max_four min_four
set_option linter.unusedVariables false
set_option linter.unusedSimpArgs false

section
open Kd
set_option maxHeartbeats 8000000 in
set_option maxRecDepth 1000000 in
theorem laws_FnWires.rest6 {k : Nat} {A0 : Option Addr} {c0 : Nat} {l0 : List Int} {r : Bool} {w : World} {t520 : Int} {t521 t524 t528 t531 : List Int} {t534 t541 : Bool} {gb527 : Nat} {Ao11 : Option Addr} {co11 : Nat} {Ao12 : Option Addr} {co12 : Nat} {v529 v532 v536 v539 : Value} {kj6 : Nat} {t545 : List Int} {t548 t552 : Bool} {v546 v550 : Value} {kj36 : Nat} {t554 : Int} {t555 : Bool} {t556 : Int} {t557 : Bool} {kj49 : Nat} {t558 : Int} {t559 : Bool} {t560 : Int} {t561 : Bool} {kj59 : Nat} {t562 : Int} {t563 t566 : List Int} {t569 : Bool} {t571 : Int} {t572 t575 : List Int} {t578 : Bool} {gb570 : Nat} {Ao76 : Option Addr} {co76 : Nat} {Ao77 : Option Addr} {co77 gb579 : Nat} {Ao84 : Option Addr} {co84 : Nat} {Ao85 : Option Addr} {co85 kj69 : Nat} {t581 : Int} {t582 t585 : List Int} {t588 : Int} {t590 t593 : List Int} {t596 t603 : Bool} {gb589 : Nat} {Ao106 : Option Addr} {co106 : Nat} {Ao107 : Option Addr} {co107 : Nat} {v591 v594 v598 v601 : Value} {wc : World} {u47 u48 u49 u50 u51 u52 u53 u54 u55 u56 u57 u58 u59 u60 u61 u62 u63 u64 u65 u66 u67 u68 u69 u70 u71 u72 u73 u74 u75 u76 u77 u78 u79 u80 u81 u82 u83 u84 u85 u86 u87 u88 u89 u90 u91 u92 u93 u94 u95 u96 u97 u98 u99 u100 u101 u102 u103 u104 u105 u106 u107 u108 u109 u110 u111 u112 u113 u114 u115 u116 u117 u118 u119 u120 u121 u122 u123 u124 u125 u126 u127 u128 u129 u130 u131 u132 u133 u134 u135 u136 u137 u138 u139 u140 u141 u142 u143 u144 u145 u146 u147 u148 u149 u150 u151 u152 u153 u154 u155 u156 u157 u158 u159 u160 u161 u162 u163 u164 u165 u166 u167 u168 u169 u170 u171 u172 u173 u174 u175 u176 u177 u178 u179 u180 u181 u182 u183 u184 u185 u186 u187 u188 u189 u190 u191 u192 u193 u194 u195 u196 u197 u198 u199 u200 u201 u202 u203 u204 u205 u206 u207 u208 u209 u210 u212 u213 u214 u215 u216 u217 u218 u219 u220 u221 u222 u223 u224 u225 u226 u227 u228 u229 u230 u231 u232 u233 u234 u235 u236 u237 u238 u239 u240 u241 u242 u243 u244 u245 u246 u247 u248 u249 u250 u251 u252 u253 u254 u255 u256 u257 u258 u259 u260 u261 u262 u263 u264 u265 u266 u267 u268 u269 u270 u271 u272 u273 u274 u275 u276 u277 u278 u279 u280 u281 u282 u283 u284 u285 u286 u287 u288 u289 u290 u291 u292 u293 u294 u295 u296 u297 u298 u299 u300 u301 u302 u303 u304 u305 u306 u307 u308 u309 u310 u311 u312 u313 u314 u315 u316 u317 u318 u319 u320 u321 u322 u323 u324 u325 u326 u327 u328 u329 u330 u331 u332 u333 u334 u335 u336 u337 u338 u339 u340 u341 u342 u343 u344 u345 u346 u347 u348 u349 u350 u351 u352 u353 u354 u355 u356 u357 u358 u359 u360 u361 u362 u363 u364 u365 u366 u367 u368 u369 u370 u371 u372 u373 u374 u375 u376 u377 u378 u379 u380 u381 : Value} {kj98 : Nat} {K1 K : Act → World → Prop} (hK1 : ∀ a w_, Code.wp Try.prog (follow [true, true, true, true, true, true, true, true, true, true, true, true, true, true, true, true] (Try.f10.body.getD Code.skip)) (bodyPost Try.prog Try.f10 fun e w' => e = Ending.returned (Value.bool r) ∧ Below w.heap.size w w') a w_ → K1 a w_) (hK : ∀ a w_, Code.wp Try.prog (follow [true, true, true, true, true, true, true, true, true, true, true, true, true, true, true, false, true, true] (Try.f10.body.getD Code.skip)) (Exit.then K1 (bodyPost Try.prog Try.f10 fun e w' => e = Ending.returned (Value.bool r) ∧ Below w.heap.size w w')) a w_ → K a w_) (GE527 : Aside0 (w.heap.size ≤ gb527)) (HJ6 : Aside0 (kj6 + 1 ≤ k)) (HJ36 : Aside0 (kj36 + 1 ≤ kj6)) (HJ49 : Aside0 (kj49 + 1 ≤ kj36)) (HJ59 : Aside0 (kj59 + 1 ≤ kj49)) (GE570 : Aside0 (w.heap.size ≤ gb570)) (NB527_570 : Aside0 (gb527 ≠ gb570)) (NB570_527 : Aside0 (gb570 ≠ gb527)) (GE579 : Aside0 (w.heap.size ≤ gb579)) (NB527_579 : Aside0 (gb527 ≠ gb579)) (NB579_527 : Aside0 (gb579 ≠ gb527)) (NB570_579 : Aside0 (gb570 ≠ gb579)) (NB579_570 : Aside0 (gb579 ≠ gb570)) (HJ69 : Aside0 (kj69 + 1 ≤ kj59)) (GE589 : Aside0 (w.heap.size ≤ gb589)) (NB527_589 : Aside0 (gb527 ≠ gb589)) (NB589_527 : Aside0 (gb589 ≠ gb527)) (NB570_589 : Aside0 (gb570 ≠ gb589)) (NB589_570 : Aside0 (gb589 ≠ gb570)) (NB579_589 : Aside0 (gb579 ≠ gb589)) (NB589_579 : Aside0 (gb589 ≠ gb579)) (HO_4 : Aside0 ((int IntKind.i64).R 3 wc w.heap.size (fun k_ => ob k_ v532 ∧ ob k_ v546 ∧ ob k_ v591 ∧ ob k_ v594 ∧ ob k_ (.slice Ao11 t521.length co11) ∧ ob k_ (.slice Ao12 t524.length co12) ∧ ob k_ (.slice Ao76 t563.length co76) ∧ ob k_ (.slice Ao77 t566.length co77) ∧ ob k_ (.slice Ao84 t572.length co84) ∧ ob k_ (.slice Ao85 t575.length co85) ∧ ob k_ (.slice Ao106 t582.length co106) ∧ ob k_ (.slice Ao107 t585.length co107)) v529 t528)) (HO_5 : Aside0 ((int IntKind.i64).R 3 wc w.heap.size (fun k_ => ob k_ v529 ∧ ob k_ v546 ∧ ob k_ v591 ∧ ob k_ v594 ∧ ob k_ (.slice Ao11 t521.length co11) ∧ ob k_ (.slice Ao12 t524.length co12) ∧ ob k_ (.slice Ao76 t563.length co76) ∧ ob k_ (.slice Ao77 t566.length co77) ∧ ob k_ (.slice Ao84 t572.length co84) ∧ ob k_ (.slice Ao85 t575.length co85) ∧ ob k_ (.slice Ao106 t582.length co106) ∧ ob k_ (.slice Ao107 t585.length co107)) v532 t531)) (HO_10 : Aside0 ((int IntKind.i64).R 3 wc w.heap.size (fun k_ => ob k_ v529 ∧ ob k_ v532 ∧ ob k_ v591 ∧ ob k_ v594 ∧ ob k_ (.slice Ao11 t521.length co11) ∧ ob k_ (.slice Ao12 t524.length co12) ∧ ob k_ (.slice Ao76 t563.length co76) ∧ ob k_ (.slice Ao77 t566.length co77) ∧ ob k_ (.slice Ao84 t572.length co84) ∧ ob k_ (.slice Ao85 t575.length co85) ∧ ob k_ (.slice Ao106 t582.length co106) ∧ ob k_ (.slice Ao107 t585.length co107)) v546 t545)) (HO_28 : Aside0 ((int IntKind.i64).R 3 wc w.heap.size (fun k_ => ob k_ v529 ∧ ob k_ v532 ∧ ob k_ v546 ∧ ob k_ v594 ∧ ob k_ (.slice Ao11 t521.length co11) ∧ ob k_ (.slice Ao12 t524.length co12) ∧ ob k_ (.slice Ao76 t563.length co76) ∧ ob k_ (.slice Ao77 t566.length co77) ∧ ob k_ (.slice Ao84 t572.length co84) ∧ ob k_ (.slice Ao85 t575.length co85) ∧ ob k_ (.slice Ao106 t582.length co106) ∧ ob k_ (.slice Ao107 t585.length co107)) v591 t590)) (HO_29 : Aside0 ((int IntKind.i64).R 3 wc w.heap.size (fun k_ => ob k_ v529 ∧ ob k_ v532 ∧ ob k_ v546 ∧ ob k_ v591 ∧ ob k_ (.slice Ao11 t521.length co11) ∧ ob k_ (.slice Ao12 t524.length co12) ∧ ob k_ (.slice Ao76 t563.length co76) ∧ ob k_ (.slice Ao77 t566.length co77) ∧ ob k_ (.slice Ao84 t572.length co84) ∧ ob k_ (.slice Ao85 t575.length co85) ∧ ob k_ (.slice Ao106 t582.length co106) ∧ ob k_ (.slice Ao107 t585.length co107)) v594 t593)) (HO_528001 : Aside0 ((int IntKind.i64).R 3 wc w.heap.size (fun k_ => ob k_ v529 ∧ ob k_ v532 ∧ ob k_ v546 ∧ ob k_ v591 ∧ ob k_ v594 ∧ ob k_ (.slice Ao12 t524.length co12) ∧ ob k_ (.slice Ao76 t563.length co76) ∧ ob k_ (.slice Ao77 t566.length co77) ∧ ob k_ (.slice Ao84 t572.length co84) ∧ ob k_ (.slice Ao85 t575.length co85) ∧ ob k_ (.slice Ao106 t582.length co106) ∧ ob k_ (.slice Ao107 t585.length co107)) (Value.slice Ao11 t521.length co11) t521)) (HO_528002 : Aside0 ((int IntKind.i64).R 3 wc w.heap.size (fun k_ => ob k_ v529 ∧ ob k_ v532 ∧ ob k_ v546 ∧ ob k_ v591 ∧ ob k_ v594 ∧ ob k_ (.slice Ao11 t521.length co11) ∧ ob k_ (.slice Ao76 t563.length co76) ∧ ob k_ (.slice Ao77 t566.length co77) ∧ ob k_ (.slice Ao84 t572.length co84) ∧ ob k_ (.slice Ao85 t575.length co85) ∧ ob k_ (.slice Ao106 t582.length co106) ∧ ob k_ (.slice Ao107 t585.length co107)) (Value.slice Ao12 t524.length co12) t524)) (HO_571001 : Aside0 ((int IntKind.i64).R 3 wc w.heap.size (fun k_ => ob k_ v529 ∧ ob k_ v532 ∧ ob k_ v546 ∧ ob k_ v591 ∧ ob k_ v594 ∧ ob k_ (.slice Ao11 t521.length co11) ∧ ob k_ (.slice Ao12 t524.length co12) ∧ ob k_ (.slice Ao77 t566.length co77) ∧ ob k_ (.slice Ao84 t572.length co84) ∧ ob k_ (.slice Ao85 t575.length co85) ∧ ob k_ (.slice Ao106 t582.length co106) ∧ ob k_ (.slice Ao107 t585.length co107)) (Value.slice Ao76 t563.length co76) t563)) (HO_571002 : Aside0 ((int IntKind.i64).R 3 wc w.heap.size (fun k_ => ob k_ v529 ∧ ob k_ v532 ∧ ob k_ v546 ∧ ob k_ v591 ∧ ob k_ v594 ∧ ob k_ (.slice Ao11 t521.length co11) ∧ ob k_ (.slice Ao12 t524.length co12) ∧ ob k_ (.slice Ao76 t563.length co76) ∧ ob k_ (.slice Ao84 t572.length co84) ∧ ob k_ (.slice Ao85 t575.length co85) ∧ ob k_ (.slice Ao106 t582.length co106) ∧ ob k_ (.slice Ao107 t585.length co107)) (Value.slice Ao77 t566.length co77) t566)) (HO_580001 : Aside0 ((int IntKind.i64).R 3 wc w.heap.size (fun k_ => ob k_ v529 ∧ ob k_ v532 ∧ ob k_ v546 ∧ ob k_ v591 ∧ ob k_ v594 ∧ ob k_ (.slice Ao11 t521.length co11) ∧ ob k_ (.slice Ao12 t524.length co12) ∧ ob k_ (.slice Ao76 t563.length co76) ∧ ob k_ (.slice Ao77 t566.length co77) ∧ ob k_ (.slice Ao85 t575.length co85) ∧ ob k_ (.slice Ao106 t582.length co106) ∧ ob k_ (.slice Ao107 t585.length co107)) (Value.slice Ao84 t572.length co84) t572)) (HO_580002 : Aside0 ((int IntKind.i64).R 3 wc w.heap.size (fun k_ => ob k_ v529 ∧ ob k_ v532 ∧ ob k_ v546 ∧ ob k_ v591 ∧ ob k_ v594 ∧ ob k_ (.slice Ao11 t521.length co11) ∧ ob k_ (.slice Ao12 t524.length co12) ∧ ob k_ (.slice Ao76 t563.length co76) ∧ ob k_ (.slice Ao77 t566.length co77) ∧ ob k_ (.slice Ao84 t572.length co84) ∧ ob k_ (.slice Ao106 t582.length co106) ∧ ob k_ (.slice Ao107 t585.length co107)) (Value.slice Ao85 t575.length co85) t575)) (HO_590001 : Aside0 ((int IntKind.i64).R 3 wc w.heap.size (fun k_ => ob k_ v529 ∧ ob k_ v532 ∧ ob k_ v546 ∧ ob k_ v591 ∧ ob k_ v594 ∧ ob k_ (.slice Ao11 t521.length co11) ∧ ob k_ (.slice Ao12 t524.length co12) ∧ ob k_ (.slice Ao76 t563.length co76) ∧ ob k_ (.slice Ao77 t566.length co77) ∧ ob k_ (.slice Ao84 t572.length co84) ∧ ob k_ (.slice Ao85 t575.length co85) ∧ ob k_ (.slice Ao107 t585.length co107)) (Value.slice Ao106 t582.length co106) t582)) (HO_590002 : Aside0 ((int IntKind.i64).R 3 wc w.heap.size (fun k_ => ob k_ v529 ∧ ob k_ v532 ∧ ob k_ v546 ∧ ob k_ v591 ∧ ob k_ v594 ∧ ob k_ (.slice Ao11 t521.length co11) ∧ ob k_ (.slice Ao12 t524.length co12) ∧ ob k_ (.slice Ao76 t563.length co76) ∧ ob k_ (.slice Ao77 t566.length co77) ∧ ob k_ (.slice Ao84 t572.length co84) ∧ ob k_ (.slice Ao85 t575.length co85) ∧ ob k_ (.slice Ao106 t582.length co106)) (Value.slice Ao107 t585.length co107) t585)) (BK527 : Aside0 (wc.heap[gb527]? = some (Obj.cells #[Value.int IntKind.i64 t520, Value.slice Ao11 t521.length co11, Value.slice Ao12 t524.length co12] 27))) (BK570 : Aside0 (wc.heap[gb570]? = some (Obj.cells #[Value.int IntKind.i64 t562, Value.slice Ao76 t563.length co76, Value.slice Ao77 t566.length co77] 27))) (BK579 : Aside0 (wc.heap[gb579]? = some (Obj.cells #[Value.int IntKind.i64 t571, Value.slice Ao84 t572.length co84, Value.slice Ao85 t575.length co85] 27))) (BK589 : Aside0 (wc.heap[gb589]? = some (Obj.cells #[Value.int IntKind.i64 t581, Value.slice Ao106 t582.length co106, Value.slice Ao107 t585.length co107] 27))) (HB : Aside0 (Below w.heap.size w wc)) (HJ98 : Aside0 (kj98 + 1 ≤ kj69)) (H : (if t596 = true then (impl_FallsOf.f kj98 t581 t582 t585).bind fun bt606 => if bt606.snd.snd = true then j6 kj98 t528 t531 t534 t545 t554 t558 t588 t590 t593 bt606.fst ((↑t590.length : Int) != (↑t593.length : Int)) t520 t521 t524 t562 t563 t566 t581 t582 t585 else j6 kj98 t528 t531 t534 t545 t554 t558 t588 t590 t593 bt606.fst true t520 t521 t524 t562 t563 t566 t581 t582 t585 else j8 kj98 t528 t531 t534 t545 t554 t558 t520 t521 t524 t562 t563 t566) = some r) :
  K { tmps := #[Value.slice A0 l0.length c0, undef, Value.bool false, Value.pointer (some { block := gb527, off := 0 }), v529, v532, Value.bool t534, v536, v539, Value.bool t541, v546, Value.bool t548, v550, Value.bool t552, Value.int IntKind.i64 t554, Value.bool t555, Value.int IntKind.i64 t556, Value.bool t557, Value.int IntKind.i64 t558, Value.bool t559, Value.int IntKind.i64 t560, Value.bool t561, Value.pointer (some { block := gb570, off := 0 }), Value.bool t569, Value.pointer (some { block := gb579, off := 0 }), Value.bool t578, Value.pointer (some { block := gb589, off := 0 }), Value.int IntKind.i64 t588, v591, v594, Value.bool t596, v598, v601, Value.bool t603, undef, undef, undef, undef, undef, undef, undef, undef, undef, undef, undef, undef, undef, u47, u48, u49, u50, u51, u52, u53, u54, u55, u56, u57, u58, u59, u60, u61, u62, u63, u64, u65, u66, u67, u68, u69, u70, u71, u72, u73, u74, u75, u76, u77, u78, u79, u80, u81, u82, u83, u84, u85, u86, u87, u88, u89, u90, u91, u92, u93, u94, u95, u96, u97, u98, u99, u100, u101, u102, u103, u104, u105, u106, u107, u108, u109, u110, u111, u112, u113, u114, u115, u116, u117, u118, u119, u120, u121, u122, u123, u124, u125, u126, u127, u128, u129, u130, u131, u132, u133, u134, u135, u136, u137, u138, u139, u140, u141, u142, u143, u144, u145, u146, u147, u148, u149, u150, u151, u152, u153, u154, u155, u156, u157, u158, u159, u160, u161, u162, u163, u164, u165, u166, u167, u168, u169, u170, u171, u172, u173, u174, u175, u176, u177, u178, u179, u180, u181, u182, u183, u184, u185, u186, u187, u188, u189, u190, u191, u192, u193, u194, u195, u196, u197, u198, u199, u200, u201, u202, u203, u204, u205, u206, u207, u208, u209, u210, Value.bool false, u212, u213, u214, u215, u216, u217, u218, u219, u220, u221, u222, u223, u224, u225, u226, u227, u228, u229, u230, u231, u232, u233, u234, u235, u236, u237, u238, u239, u240, u241, u242, u243, u244, u245, u246, u247, u248, u249, u250, u251, u252, u253, u254, u255, u256, u257, u258, u259, u260, u261, u262, u263, u264, u265, u266, u267, u268, u269, u270, u271, u272, u273, u274, u275, u276, u277, u278, u279, u280, u281, u282, u283, u284, u285, u286, u287, u288, u289, u290, u291, u292, u293, u294, u295, u296, u297, u298, u299, u300, u301, u302, u303, u304, u305, u306, u307, u308, u309, u310, u311, u312, u313, u314, u315, u316, u317, u318, u319, u320, u321, u322, u323, u324, u325, u326, u327, u328, u329, u330, u331, u332, u333, u334, u335, u336, u337, u338, u339, u340, u341, u342, u343, u344, u345, u346, u347, u348, u349, u350, u351, u352, u353, u354, u355, u356, u357, u358, u359, u360, u361, u362, u363, u364, u365, u366, u367, u368, u369, u370, u371, u372, u373, u374, u375, u376, u377, u378, u379, u380, u381], defers := [] } wc := by
 have hu27:=Try.underlying27
 conv at hK1 => enter [a, w_, 1, 2]; whnf
 conv at hK => enter [a, w_, 1, 2]; whnf
 have HC122:=Aside0.mk H
 clear H
 go_upto_if 212 with (fail)
 repeat (go_quiet (fail);go_upto_if 212 with (fail))
 go_cut [] (fun wc=>∃ (kq : Nat),Aside0 (laws_FnWires.j8 kq t528 t531 t534 t545 t554 t558 t520 t521 t524 t562 t563 t566 = some r) ∧ Aside0 (kq ≤ kj98) ∧ Aside0 (Kd.R (Kd.int .i64) 3 wc w.heap.size (fun k_=>ob k_ v532 ∧ ob k_ v546 ∧ ob k_ (.slice Ao11 t521.length co11) ∧ ob k_ (.slice Ao12 t524.length co12) ∧ ob k_ (.slice Ao76 t563.length co76) ∧ ob k_ (.slice Ao77 t566.length co77) ∧ ob k_ (.slice Ao84 t572.length co84) ∧ ob k_ (.slice Ao85 t575.length co85) ∧ ob k_ (.slice Ao106 t582.length co106) ∧ ob k_ (.slice Ao107 t585.length co107)) v529 t528) ∧ Aside0 (Kd.R (Kd.int .i64) 3 wc w.heap.size (fun k_=>ob k_ v529 ∧ ob k_ v546 ∧ ob k_ (.slice Ao11 t521.length co11) ∧ ob k_ (.slice Ao12 t524.length co12) ∧ ob k_ (.slice Ao76 t563.length co76) ∧ ob k_ (.slice Ao77 t566.length co77) ∧ ob k_ (.slice Ao84 t572.length co84) ∧ ob k_ (.slice Ao85 t575.length co85) ∧ ob k_ (.slice Ao106 t582.length co106) ∧ ob k_ (.slice Ao107 t585.length co107)) v532 t531) ∧ Aside0 (Kd.R (Kd.int .i64) 3 wc w.heap.size (fun k_=>ob k_ v529 ∧ ob k_ v532 ∧ ob k_ (.slice Ao11 t521.length co11) ∧ ob k_ (.slice Ao12 t524.length co12) ∧ ob k_ (.slice Ao76 t563.length co76) ∧ ob k_ (.slice Ao77 t566.length co77) ∧ ob k_ (.slice Ao84 t572.length co84) ∧ ob k_ (.slice Ao85 t575.length co85) ∧ ob k_ (.slice Ao106 t582.length co106) ∧ ob k_ (.slice Ao107 t585.length co107)) v546 t545) ∧ Aside0 (Kd.R (Kd.int .i64) 3 wc w.heap.size (fun k_=>ob k_ v529 ∧ ob k_ v532 ∧ ob k_ v546 ∧ ob k_ (.slice Ao12 t524.length co12) ∧ ob k_ (.slice Ao76 t563.length co76) ∧ ob k_ (.slice Ao77 t566.length co77) ∧ ob k_ (.slice Ao84 t572.length co84) ∧ ob k_ (.slice Ao85 t575.length co85) ∧ ob k_ (.slice Ao106 t582.length co106) ∧ ob k_ (.slice Ao107 t585.length co107)) (.slice Ao11 t521.length co11) t521) ∧ Aside0 (Kd.R (Kd.int .i64) 3 wc w.heap.size (fun k_=>ob k_ v529 ∧ ob k_ v532 ∧ ob k_ v546 ∧ ob k_ (.slice Ao11 t521.length co11) ∧ ob k_ (.slice Ao76 t563.length co76) ∧ ob k_ (.slice Ao77 t566.length co77) ∧ ob k_ (.slice Ao84 t572.length co84) ∧ ob k_ (.slice Ao85 t575.length co85) ∧ ob k_ (.slice Ao106 t582.length co106) ∧ ob k_ (.slice Ao107 t585.length co107)) (.slice Ao12 t524.length co12) t524) ∧ Aside0 (Kd.R (Kd.int .i64) 3 wc w.heap.size (fun k_=>ob k_ v529 ∧ ob k_ v532 ∧ ob k_ v546 ∧ ob k_ (.slice Ao11 t521.length co11) ∧ ob k_ (.slice Ao12 t524.length co12) ∧ ob k_ (.slice Ao77 t566.length co77) ∧ ob k_ (.slice Ao84 t572.length co84) ∧ ob k_ (.slice Ao85 t575.length co85) ∧ ob k_ (.slice Ao106 t582.length co106) ∧ ob k_ (.slice Ao107 t585.length co107)) (.slice Ao76 t563.length co76) t563) ∧ Aside0 (Kd.R (Kd.int .i64) 3 wc w.heap.size (fun k_=>ob k_ v529 ∧ ob k_ v532 ∧ ob k_ v546 ∧ ob k_ (.slice Ao11 t521.length co11) ∧ ob k_ (.slice Ao12 t524.length co12) ∧ ob k_ (.slice Ao76 t563.length co76) ∧ ob k_ (.slice Ao84 t572.length co84) ∧ ob k_ (.slice Ao85 t575.length co85) ∧ ob k_ (.slice Ao106 t582.length co106) ∧ ob k_ (.slice Ao107 t585.length co107)) (.slice Ao77 t566.length co77) t566) ∧ Aside0 (Kd.R (Kd.int .i64) 3 wc w.heap.size (fun k_=>ob k_ v529 ∧ ob k_ v532 ∧ ob k_ v546 ∧ ob k_ (.slice Ao11 t521.length co11) ∧ ob k_ (.slice Ao12 t524.length co12) ∧ ob k_ (.slice Ao76 t563.length co76) ∧ ob k_ (.slice Ao77 t566.length co77) ∧ ob k_ (.slice Ao85 t575.length co85) ∧ ob k_ (.slice Ao106 t582.length co106) ∧ ob k_ (.slice Ao107 t585.length co107)) (.slice Ao84 t572.length co84) t572) ∧ Aside0 (Kd.R (Kd.int .i64) 3 wc w.heap.size (fun k_=>ob k_ v529 ∧ ob k_ v532 ∧ ob k_ v546 ∧ ob k_ (.slice Ao11 t521.length co11) ∧ ob k_ (.slice Ao12 t524.length co12) ∧ ob k_ (.slice Ao76 t563.length co76) ∧ ob k_ (.slice Ao77 t566.length co77) ∧ ob k_ (.slice Ao84 t572.length co84) ∧ ob k_ (.slice Ao106 t582.length co106) ∧ ob k_ (.slice Ao107 t585.length co107)) (.slice Ao85 t575.length co85) t575) ∧ Aside0 (Kd.R (Kd.int .i64) 3 wc w.heap.size (fun k_=>ob k_ v529 ∧ ob k_ v532 ∧ ob k_ v546 ∧ ob k_ (.slice Ao11 t521.length co11) ∧ ob k_ (.slice Ao12 t524.length co12) ∧ ob k_ (.slice Ao76 t563.length co76) ∧ ob k_ (.slice Ao77 t566.length co77) ∧ ob k_ (.slice Ao84 t572.length co84) ∧ ob k_ (.slice Ao85 t575.length co85) ∧ ob k_ (.slice Ao107 t585.length co107)) (.slice Ao106 t582.length co106) t582) ∧ Aside0 (Kd.R (Kd.int .i64) 3 wc w.heap.size (fun k_=>ob k_ v529 ∧ ob k_ v532 ∧ ob k_ v546 ∧ ob k_ (.slice Ao11 t521.length co11) ∧ ob k_ (.slice Ao12 t524.length co12) ∧ ob k_ (.slice Ao76 t563.length co76) ∧ ob k_ (.slice Ao77 t566.length co77) ∧ ob k_ (.slice Ao84 t572.length co84) ∧ ob k_ (.slice Ao85 t575.length co85) ∧ ob k_ (.slice Ao106 t582.length co106)) (.slice Ao107 t585.length co107) t585) ∧ Aside0 (wc.heap[gb527]? = some (.cells #[.int .i64 t520,(.slice Ao11 t521.length co11),(.slice Ao12 t524.length co12)] 27 (0,0))) ∧ Aside0 (wc.heap[gb570]? = some (.cells #[.int .i64 t562,(.slice Ao76 t563.length co76),(.slice Ao77 t566.length co77)] 27 (0,0))) ∧ Aside0 (wc.heap[gb579]? = some (.cells #[.int .i64 t571,(.slice Ao84 t572.length co84),(.slice Ao85 t575.length co85)] 27 (0,0))) ∧ Aside0 (wc.heap[gb589]? = some (.cells #[.int .i64 t581,(.slice Ao106 t582.length co106),(.slice Ao107 t585.length co107)] 27 (0,0))) ∧ Aside0 (Below w.heap.size w wc))
 case first =>
  have H:=HC122.out
  clear HC122
  by_cases c123 : t596 = true
  rotate_left
  ·replace c123:=Bool.eq_false_iff.mpr c123
   subst c123
   rw [if_neg (show ¬ (false = true) by decide)] at H
   as_aux_lemma =>
    have H':=Aside0.mk H
    clear H
    go_wp2
    repeat (go_quiet (fail);try go_wp2)
    go_meet
    case rel=>exact ⟨_,H',⟨by first|exact Nat.le_refl _|(have:=HJ6.out;have:=HJ36.out;have:=HJ49.out;have:=HJ59.out;have:=HJ69.out;have:=HJ98.out;omega)⟩,rq HO_4,rq HO_5,rq HO_10,rq HO_528001,rq HO_528002,rq HO_571001,rq HO_571002,rq HO_580001,rq HO_580002,rq HO_590001,rq HO_590002,⟨bm BK527.out⟩,⟨bm BK570.out⟩,⟨bm BK579.out⟩,⟨bm BK589.out⟩,⟨by repeat (first|(with_reducible first|exact HB.out|apply below_alloc|apply pw_below_drewN|apply below_drew1|refine below_set ?_ GE527.out|refine below_set ?_ GE570.out|refine below_set ?_ GE579.out|refine below_set ?_ GE589.out)|exact HB.out)⟩⟩
  subst c123
  rw [if_pos rfl] at H
  obtain ⟨⟨t606,t609,t612⟩,A124,H⟩:=bd H;(try dsimp only at H)
  have HC125:=Aside0.mk H
  clear H
  have hnb126:=NB589_527.out
  have hnc126:=NB527_589.out
  have hnb127:=NB589_570.out
  have hnc127:=NB570_589.out
  have hnb128:=NB589_579.out
  have hnc128:=NB579_589.out
  have hcz129_0:=bc BK589 0 rfl
  have hcz129_1:=bc BK589 1 rfl
  have hcz129_2:=bc BK589 2 rfl
  have hfz129_0:=bf BK589 0
  have hfz129_1:=bf BK589 1
  have hfz129_2:=bf BK589 2
  have go_:=trivial;repeat ((first|clear go_|go_quiet (fail));go_upto_region 31 with (first|(go_at_call 30;(with_reducible refine (impl_FallsOf.calls kj98 t581 _ _ t582 _ _ t585 t606 t609 t612 _ ?side1 ?side2 ?side3 ?side4 A124.out).mono ?_);(case side1=>exact cm (R_reads' HO_590001.out).2.2);(case side2=>exact (R_reads' HO_590001.out).2.1);(case side3=>exact cm (R_reads' HO_590002.out).2.2);(case side4=>exact (R_reads' HO_590002.out).2.1);rintro e w130 ⟨v607,v610,rfl,ho0,ho1,hb⟩;have HO608:=ak (R_lower (R_new' (R_new' (R_new' (R_new' (R_new' (R_new' (R_new' (R_new' (R_new' (R_new' (R_new' (R_new' (R_new' ho0 (R_lt (rm HO_4.out))) (R_lt (rm HO_5.out))) (R_lt (rm HO_10.out))) (R_lt (rm HO_28.out))) (R_lt (rm HO_29.out))) (R_lt (rm HO_528001.out))) (R_lt (rm HO_528002.out))) (R_lt (rm HO_571001.out))) (R_lt (rm HO_571002.out))) (R_lt (rm HO_580001.out))) (R_lt (rm HO_580002.out))) (R_lt (rm HO_590001.out))) (R_lt (rm HO_590002.out))) (below_size (by repeat (first|(with_reducible first|exact HB.out|apply below_alloc|apply pw_below_drewN|apply below_drew1|refine below_set ?_ GE527.out|refine below_set ?_ GE570.out|refine below_set ?_ GE579.out|refine below_set ?_ GE589.out)|exact HB.out))));have HO611:=ak (R_lower (R_new' (R_new' (R_new' (R_new' (R_new' (R_new' (R_new' (R_new' (R_new' (R_new' (R_new' (R_new' (R_new' ho1 (R_lt (rm HO_4.out))) (R_lt (rm HO_5.out))) (R_lt (rm HO_10.out))) (R_lt (rm HO_28.out))) (R_lt (rm HO_29.out))) (R_lt (rm HO_528001.out))) (R_lt (rm HO_528002.out))) (R_lt (rm HO_571001.out))) (R_lt (rm HO_571002.out))) (R_lt (rm HO_580001.out))) (R_lt (rm HO_580002.out))) (R_lt (rm HO_590001.out))) (R_lt (rm HO_590002.out))) (below_size (by repeat (first|(with_reducible first|exact HB.out|apply below_alloc|apply pw_below_drewN|apply below_drew1|refine below_set ?_ GE527.out|refine below_set ?_ GE570.out|refine below_set ?_ GE579.out|refine below_set ?_ GE589.out)|exact HB.out))));replace HO_4:=ak (R_mono (R_told (R_told (R_old (rm HO_4.out) hb) (R_base ho0)) (R_base ho1)) (fun _ h_=>h_.1));replace HO_5:=ak (R_mono (R_told (R_told (R_old (rm HO_5.out) hb) (R_base ho0)) (R_base ho1)) (fun _ h_=>h_.1));replace HO_10:=ak (R_mono (R_told (R_told (R_old (rm HO_10.out) hb) (R_base ho0)) (R_base ho1)) (fun _ h_=>h_.1));replace HO_28:=ak (R_mono (R_told (R_told (R_old (rm HO_28.out) hb) (R_base ho0)) (R_base ho1)) (fun _ h_=>h_.1));replace HO_29:=ak (R_mono (R_told (R_told (R_old (rm HO_29.out) hb) (R_base ho0)) (R_base ho1)) (fun _ h_=>h_.1));replace HO_528001:=ak (R_mono (R_told (R_told (R_old (rm HO_528001.out) hb) (R_base ho0)) (R_base ho1)) (fun _ h_=>h_.1));replace HO_528002:=ak (R_mono (R_told (R_told (R_old (rm HO_528002.out) hb) (R_base ho0)) (R_base ho1)) (fun _ h_=>h_.1));replace HO_571001:=ak (R_mono (R_told (R_told (R_old (rm HO_571001.out) hb) (R_base ho0)) (R_base ho1)) (fun _ h_=>h_.1));replace HO_571002:=ak (R_mono (R_told (R_told (R_old (rm HO_571002.out) hb) (R_base ho0)) (R_base ho1)) (fun _ h_=>h_.1));replace HO_580001:=ak (R_mono (R_told (R_told (R_old (rm HO_580001.out) hb) (R_base ho0)) (R_base ho1)) (fun _ h_=>h_.1));replace HO_580002:=ak (R_mono (R_told (R_told (R_old (rm HO_580002.out) hb) (R_base ho0)) (R_base ho1)) (fun _ h_=>h_.1));replace HO_590001:=ak (R_mono (R_told (R_told (R_old (rm HO_590001.out) hb) (R_base ho0)) (R_base ho1)) (fun _ h_=>h_.1));replace HO_590002:=ak (R_mono (R_told (R_told (R_old (rm HO_590002.out) hb) (R_base ho0)) (R_base ho1)) (fun _ h_=>h_.1));replace BK527:=kb BK527 hb;replace BK570:=kb BK570 hb;replace BK579:=kb BK579 hb;replace BK589:=kb BK589 hb;replace HB:=ak (below_step (by repeat (first|(with_reducible first|exact HB.out|apply below_alloc|apply pw_below_drewN|apply below_drew1|refine below_set ?_ GE527.out|refine below_set ?_ GE570.out|refine below_set ?_ GE579.out|refine below_set ?_ GE589.out)|exact HB.out)) hb);(try clear hb);(try clear hk);(try clear hi);(try clear ho0);(try clear ho1))))
  (try simp only [ap])
  go_cut [227] (fun v227 wc=>∃ (kq : Nat) (x227_124 : Bool),v227 = .bool x227_124 ∧ Aside0 (laws_FnWires.j6 kq t528 t531 t534 t545 t554 t558 t588 t590 t593 t606 x227_124 t520 t521 t524 t562 t563 t566 t581 t582 t585 = some r) ∧ Aside0 (kq ≤ kj98) ∧ Aside0 (Kd.R (Kd.int .i64) 3 wc w.heap.size (fun k_=>ob k_ v532 ∧ ob k_ v546 ∧ ob k_ v591 ∧ ob k_ v594 ∧ ob k_ v607 ∧ ob k_ (.slice Ao11 t521.length co11) ∧ ob k_ (.slice Ao12 t524.length co12) ∧ ob k_ (.slice Ao76 t563.length co76) ∧ ob k_ (.slice Ao77 t566.length co77) ∧ ob k_ (.slice Ao84 t572.length co84) ∧ ob k_ (.slice Ao85 t575.length co85) ∧ ob k_ (.slice Ao106 t582.length co106) ∧ ob k_ (.slice Ao107 t585.length co107)) v529 t528) ∧ Aside0 (Kd.R (Kd.int .i64) 3 wc w.heap.size (fun k_=>ob k_ v529 ∧ ob k_ v546 ∧ ob k_ v591 ∧ ob k_ v594 ∧ ob k_ v607 ∧ ob k_ (.slice Ao11 t521.length co11) ∧ ob k_ (.slice Ao12 t524.length co12) ∧ ob k_ (.slice Ao76 t563.length co76) ∧ ob k_ (.slice Ao77 t566.length co77) ∧ ob k_ (.slice Ao84 t572.length co84) ∧ ob k_ (.slice Ao85 t575.length co85) ∧ ob k_ (.slice Ao106 t582.length co106) ∧ ob k_ (.slice Ao107 t585.length co107)) v532 t531) ∧ Aside0 (Kd.R (Kd.int .i64) 3 wc w.heap.size (fun k_=>ob k_ v529 ∧ ob k_ v532 ∧ ob k_ v591 ∧ ob k_ v594 ∧ ob k_ v607 ∧ ob k_ (.slice Ao11 t521.length co11) ∧ ob k_ (.slice Ao12 t524.length co12) ∧ ob k_ (.slice Ao76 t563.length co76) ∧ ob k_ (.slice Ao77 t566.length co77) ∧ ob k_ (.slice Ao84 t572.length co84) ∧ ob k_ (.slice Ao85 t575.length co85) ∧ ob k_ (.slice Ao106 t582.length co106) ∧ ob k_ (.slice Ao107 t585.length co107)) v546 t545) ∧ Aside0 (Kd.R (Kd.int .i64) 3 wc w.heap.size (fun k_=>ob k_ v529 ∧ ob k_ v532 ∧ ob k_ v546 ∧ ob k_ v594 ∧ ob k_ v607 ∧ ob k_ (.slice Ao11 t521.length co11) ∧ ob k_ (.slice Ao12 t524.length co12) ∧ ob k_ (.slice Ao76 t563.length co76) ∧ ob k_ (.slice Ao77 t566.length co77) ∧ ob k_ (.slice Ao84 t572.length co84) ∧ ob k_ (.slice Ao85 t575.length co85) ∧ ob k_ (.slice Ao106 t582.length co106) ∧ ob k_ (.slice Ao107 t585.length co107)) v591 t590) ∧ Aside0 (Kd.R (Kd.int .i64) 3 wc w.heap.size (fun k_=>ob k_ v529 ∧ ob k_ v532 ∧ ob k_ v546 ∧ ob k_ v591 ∧ ob k_ v607 ∧ ob k_ (.slice Ao11 t521.length co11) ∧ ob k_ (.slice Ao12 t524.length co12) ∧ ob k_ (.slice Ao76 t563.length co76) ∧ ob k_ (.slice Ao77 t566.length co77) ∧ ob k_ (.slice Ao84 t572.length co84) ∧ ob k_ (.slice Ao85 t575.length co85) ∧ ob k_ (.slice Ao106 t582.length co106) ∧ ob k_ (.slice Ao107 t585.length co107)) v594 t593) ∧ Aside0 (Kd.R (Kd.int .i64) 3 wc w.heap.size (fun k_=>ob k_ v529 ∧ ob k_ v532 ∧ ob k_ v546 ∧ ob k_ v591 ∧ ob k_ v594 ∧ ob k_ (.slice Ao11 t521.length co11) ∧ ob k_ (.slice Ao12 t524.length co12) ∧ ob k_ (.slice Ao76 t563.length co76) ∧ ob k_ (.slice Ao77 t566.length co77) ∧ ob k_ (.slice Ao84 t572.length co84) ∧ ob k_ (.slice Ao85 t575.length co85) ∧ ob k_ (.slice Ao106 t582.length co106) ∧ ob k_ (.slice Ao107 t585.length co107)) v607 t606) ∧ Aside0 (Kd.R (Kd.int .i64) 3 wc w.heap.size (fun k_=>ob k_ v529 ∧ ob k_ v532 ∧ ob k_ v546 ∧ ob k_ v591 ∧ ob k_ v594 ∧ ob k_ v607 ∧ ob k_ (.slice Ao12 t524.length co12) ∧ ob k_ (.slice Ao76 t563.length co76) ∧ ob k_ (.slice Ao77 t566.length co77) ∧ ob k_ (.slice Ao84 t572.length co84) ∧ ob k_ (.slice Ao85 t575.length co85) ∧ ob k_ (.slice Ao106 t582.length co106) ∧ ob k_ (.slice Ao107 t585.length co107)) (.slice Ao11 t521.length co11) t521) ∧ Aside0 (Kd.R (Kd.int .i64) 3 wc w.heap.size (fun k_=>ob k_ v529 ∧ ob k_ v532 ∧ ob k_ v546 ∧ ob k_ v591 ∧ ob k_ v594 ∧ ob k_ v607 ∧ ob k_ (.slice Ao11 t521.length co11) ∧ ob k_ (.slice Ao76 t563.length co76) ∧ ob k_ (.slice Ao77 t566.length co77) ∧ ob k_ (.slice Ao84 t572.length co84) ∧ ob k_ (.slice Ao85 t575.length co85) ∧ ob k_ (.slice Ao106 t582.length co106) ∧ ob k_ (.slice Ao107 t585.length co107)) (.slice Ao12 t524.length co12) t524) ∧ Aside0 (Kd.R (Kd.int .i64) 3 wc w.heap.size (fun k_=>ob k_ v529 ∧ ob k_ v532 ∧ ob k_ v546 ∧ ob k_ v591 ∧ ob k_ v594 ∧ ob k_ v607 ∧ ob k_ (.slice Ao11 t521.length co11) ∧ ob k_ (.slice Ao12 t524.length co12) ∧ ob k_ (.slice Ao77 t566.length co77) ∧ ob k_ (.slice Ao84 t572.length co84) ∧ ob k_ (.slice Ao85 t575.length co85) ∧ ob k_ (.slice Ao106 t582.length co106) ∧ ob k_ (.slice Ao107 t585.length co107)) (.slice Ao76 t563.length co76) t563) ∧ Aside0 (Kd.R (Kd.int .i64) 3 wc w.heap.size (fun k_=>ob k_ v529 ∧ ob k_ v532 ∧ ob k_ v546 ∧ ob k_ v591 ∧ ob k_ v594 ∧ ob k_ v607 ∧ ob k_ (.slice Ao11 t521.length co11) ∧ ob k_ (.slice Ao12 t524.length co12) ∧ ob k_ (.slice Ao76 t563.length co76) ∧ ob k_ (.slice Ao84 t572.length co84) ∧ ob k_ (.slice Ao85 t575.length co85) ∧ ob k_ (.slice Ao106 t582.length co106) ∧ ob k_ (.slice Ao107 t585.length co107)) (.slice Ao77 t566.length co77) t566) ∧ Aside0 (Kd.R (Kd.int .i64) 3 wc w.heap.size (fun k_=>ob k_ v529 ∧ ob k_ v532 ∧ ob k_ v546 ∧ ob k_ v591 ∧ ob k_ v594 ∧ ob k_ v607 ∧ ob k_ (.slice Ao11 t521.length co11) ∧ ob k_ (.slice Ao12 t524.length co12) ∧ ob k_ (.slice Ao76 t563.length co76) ∧ ob k_ (.slice Ao77 t566.length co77) ∧ ob k_ (.slice Ao85 t575.length co85) ∧ ob k_ (.slice Ao106 t582.length co106) ∧ ob k_ (.slice Ao107 t585.length co107)) (.slice Ao84 t572.length co84) t572) ∧ Aside0 (Kd.R (Kd.int .i64) 3 wc w.heap.size (fun k_=>ob k_ v529 ∧ ob k_ v532 ∧ ob k_ v546 ∧ ob k_ v591 ∧ ob k_ v594 ∧ ob k_ v607 ∧ ob k_ (.slice Ao11 t521.length co11) ∧ ob k_ (.slice Ao12 t524.length co12) ∧ ob k_ (.slice Ao76 t563.length co76) ∧ ob k_ (.slice Ao77 t566.length co77) ∧ ob k_ (.slice Ao84 t572.length co84) ∧ ob k_ (.slice Ao106 t582.length co106) ∧ ob k_ (.slice Ao107 t585.length co107)) (.slice Ao85 t575.length co85) t575) ∧ Aside0 (Kd.R (Kd.int .i64) 3 wc w.heap.size (fun k_=>ob k_ v529 ∧ ob k_ v532 ∧ ob k_ v546 ∧ ob k_ v591 ∧ ob k_ v594 ∧ ob k_ v607 ∧ ob k_ (.slice Ao11 t521.length co11) ∧ ob k_ (.slice Ao12 t524.length co12) ∧ ob k_ (.slice Ao76 t563.length co76) ∧ ob k_ (.slice Ao77 t566.length co77) ∧ ob k_ (.slice Ao84 t572.length co84) ∧ ob k_ (.slice Ao85 t575.length co85) ∧ ob k_ (.slice Ao107 t585.length co107)) (.slice Ao106 t582.length co106) t582) ∧ Aside0 (Kd.R (Kd.int .i64) 3 wc w.heap.size (fun k_=>ob k_ v529 ∧ ob k_ v532 ∧ ob k_ v546 ∧ ob k_ v591 ∧ ob k_ v594 ∧ ob k_ v607 ∧ ob k_ (.slice Ao11 t521.length co11) ∧ ob k_ (.slice Ao12 t524.length co12) ∧ ob k_ (.slice Ao76 t563.length co76) ∧ ob k_ (.slice Ao77 t566.length co77) ∧ ob k_ (.slice Ao84 t572.length co84) ∧ ob k_ (.slice Ao85 t575.length co85) ∧ ob k_ (.slice Ao106 t582.length co106)) (.slice Ao107 t585.length co107) t585) ∧ Aside0 (wc.heap[gb527]? = some (.cells #[.int .i64 t520,(.slice Ao11 t521.length co11),(.slice Ao12 t524.length co12)] 27 (0,0))) ∧ Aside0 (wc.heap[gb570]? = some (.cells #[.int .i64 t562,(.slice Ao76 t563.length co76),(.slice Ao77 t566.length co77)] 27 (0,0))) ∧ Aside0 (wc.heap[gb579]? = some (.cells #[.int .i64 t571,(.slice Ao84 t572.length co84),(.slice Ao85 t575.length co85)] 27 (0,0))) ∧ Aside0 (wc.heap[gb589]? = some (.cells #[.int .i64 t581,(.slice Ao106 t582.length co106),(.slice Ao107 t585.length co107)] 27 (0,0))) ∧ Aside0 (Below w.heap.size w wc))
  case first =>
   have H:=HC125.out
   clear HC125
   by_cases c131 : t612 = true
   rotate_left
   ·replace c131:=Bool.eq_false_iff.mpr c131
    subst c131
    rw [if_neg (show ¬ (false = true) by decide)] at H
    as_aux_lemma =>
     have H':=Aside0.mk H
     clear H
     go_wp2
     repeat (go_quiet (fail);try go_wp2)
     go_meet
     case rel=>exact ⟨_,(true),fd,H',⟨by first|exact Nat.le_refl _|(have:=HJ6.out;have:=HJ36.out;have:=HJ49.out;have:=HJ59.out;have:=HJ69.out;have:=HJ98.out;omega)⟩,rq HO_4,rq HO_5,rq HO_10,rq HO_28,rq HO_29,rq HO608,rq HO_528001,rq HO_528002,rq HO_571001,rq HO_571002,rq HO_580001,rq HO_580002,rq HO_590001,rq HO_590002,⟨bm BK527.out⟩,⟨bm BK570.out⟩,⟨bm BK579.out⟩,⟨bm BK589.out⟩,⟨by repeat (first|(with_reducible first|exact HB.out|apply below_alloc|apply pw_below_drewN|apply below_drew1|refine below_set ?_ GE527.out|refine below_set ?_ GE570.out|refine below_set ?_ GE579.out|refine below_set ?_ GE589.out)|exact HB.out)⟩⟩
   subst c131
   rw [if_pos rfl] at H
   as_aux_lemma =>
    have H':=Aside0.mk H
    clear H
    obtain ⟨Ao132,co132,eo132⟩:=R_slice HO_28.out
    subst eo132
    obtain ⟨Ao133,co133,eo133⟩:=R_slice HO_29.out
    subst eo133
    go_wp2
    repeat (go_quiet (fail);try go_wp2)
    go_meet
    case rel=>exact ⟨_,(((t590.length : Int) != (t593.length : Int))),fd,H',⟨by first|exact Nat.le_refl _|(have:=HJ6.out;have:=HJ36.out;have:=HJ49.out;have:=HJ59.out;have:=HJ69.out;have:=HJ98.out;omega)⟩,rq HO_4,rq HO_5,rq HO_10,rq HO_28,rq HO_29,rq HO608,rq HO_528001,rq HO_528002,rq HO_571001,rq HO_571002,rq HO_580001,rq HO_580002,rq HO_590001,rq HO_590002,⟨bm BK527.out⟩,⟨bm BK570.out⟩,⟨bm BK579.out⟩,⟨bm BK589.out⟩,⟨by repeat (first|(with_reducible first|exact HB.out|apply below_alloc|apply pw_below_drewN|apply below_drew1|refine below_set ?_ GE527.out|refine below_set ?_ GE570.out|refine below_set ?_ GE579.out|refine below_set ?_ GE589.out)|exact HB.out)⟩⟩
  clear HC125
  try clear c1
  try clear c2
  try clear p2
  try clear c3
  try clear c4
  try clear c5
  try clear c6
  try clear c7
  try clear c8
  try clear c9
  try clear c10
  try clear c11
  try clear c12
  try clear c13
  try clear c16
  try clear c16b0
  try clear c16b1
  try clear c16b2
  try clear c18
  try clear c18b0
  try clear c18b1
  try clear c18b2
  try clear c22
  try clear c34
  try clear c42
  try clear c42b0
  try clear c42b1
  try clear c42b2
  try clear c43
  try clear c43b0
  try clear c43b1
  try clear c43b2
  try clear c47
  try clear c55
  try clear c55b0
  try clear c55b1
  try clear c56
  try clear c56b0
  try clear c56b1
  try clear c56b2
  try clear c57
  try clear c65
  try clear c65b0
  try clear c65b1
  try clear c66
  try clear c66b0
  try clear c66b1
  try clear c66b2
  try clear c67
  try clear c74
  try clear c81
  try clear c82
  try clear c86
  try clear c86b0
  try clear c86b1
  try clear c86b2
  try clear c87
  try clear c87b0
  try clear c87b1
  try clear c87b2
  try clear c89
  try clear c90
  try clear c92
  try clear c95
  try clear c102
  try clear c103
  try clear c104
  try clear c111
  try clear c111b0
  try clear c111b1
  try clear c111b2
  try clear c113
  try clear c121
  try clear c123
  try clear c126
  try clear c127
  try clear c128
  try clear c131
  try clear hcz105_0
  try clear hcz105_1
  try clear hcz105_2
  try clear hcz109_0
  try clear hcz109_1
  try clear hcz109_2
  try clear hcz10_0
  try clear hcz10_1
  try clear hcz10_2
  try clear hcz129_0
  try clear hcz129_1
  try clear hcz129_2
  try clear hcz14_0
  try clear hcz14_1
  try clear hcz14_2
  try clear hcz19_0
  try clear hcz19_1
  try clear hcz19_2
  try clear hcz24_0
  try clear hcz24_1
  try clear hcz24_2
  try clear hcz30_0
  try clear hcz30_1
  try clear hcz30_2
  try clear hcz38_0
  try clear hcz38_1
  try clear hcz38_2
  try clear hcz40_0
  try clear hcz40_1
  try clear hcz40_2
  try clear hcz51_0
  try clear hcz51_1
  try clear hcz51_2
  try clear hcz53_0
  try clear hcz53_1
  try clear hcz53_2
  try clear hcz61_0
  try clear hcz61_1
  try clear hcz61_2
  try clear hcz63_0
  try clear hcz63_1
  try clear hcz63_2
  try clear hcz71_0
  try clear hcz71_1
  try clear hcz71_2
  try clear hcz75_0
  try clear hcz75_1
  try clear hcz75_2
  try clear hcz78_0
  try clear hcz78_1
  try clear hcz78_2
  try clear hcz83_0
  try clear hcz83_1
  try clear hcz83_2
  try clear hcz91_0
  try clear hcz91_1
  try clear hcz91_2
  try clear hcz93_0
  try clear hcz93_1
  try clear hcz93_2
  try clear hfz105_0
  try clear hfz105_1
  try clear hfz105_2
  try clear hfz109_0
  try clear hfz109_1
  try clear hfz109_2
  try clear hfz10_0
  try clear hfz10_1
  try clear hfz10_2
  try clear hfz129_0
  try clear hfz129_1
  try clear hfz129_2
  try clear hfz14_0
  try clear hfz14_1
  try clear hfz14_2
  try clear hfz19_0
  try clear hfz19_1
  try clear hfz19_2
  try clear hfz24_0
  try clear hfz24_1
  try clear hfz24_2
  try clear hfz30_0
  try clear hfz30_1
  try clear hfz30_2
  try clear hfz38_0
  try clear hfz38_1
  try clear hfz38_2
  try clear hfz40_0
  try clear hfz40_1
  try clear hfz40_2
  try clear hfz51_0
  try clear hfz51_1
  try clear hfz51_2
  try clear hfz53_0
  try clear hfz53_1
  try clear hfz53_2
  try clear hfz61_0
  try clear hfz61_1
  try clear hfz61_2
  try clear hfz63_0
  try clear hfz63_1
  try clear hfz63_2
  try clear hfz71_0
  try clear hfz71_1
  try clear hfz71_2
  try clear hfz75_0
  try clear hfz75_1
  try clear hfz75_2
  try clear hfz78_0
  try clear hfz78_1
  try clear hfz78_2
  try clear hfz83_0
  try clear hfz83_1
  try clear hfz83_2
  try clear hfz91_0
  try clear hfz91_1
  try clear hfz91_2
  try clear hfz93_0
  try clear hfz93_1
  try clear hfz93_2
  try clear p2
  obtain ⟨kq,x227_124,rfl,HA,HJ124,HO_4,HO_5,HO_10,HO_28,HO_29,HO_34,HO_528001,HO_528002,HO_571001,HO_571002,HO_580001,HO_580002,HO_590001,HO_590002,BK527,BK570,BK579,BK589,HB⟩:=hcut
  cases kq with
  | zero=>exact absurd HA.out (by simp [laws_FnWires.j6])
  | succ kj124 =>
   have H:=HA.out
   clear HA
   simp only [laws_FnWires.j6] at H
   by_cases c134 : x227_124 = true
   ·subst c134
    rw [if_pos rfl] at H
    as_aux_lemma =>
     obtain rfl:=Option.some.inj H
     go_wp2
     repeat (go_quiet (fail);try go_wp2)
     go_ret
     exact ⟨fe,by repeat (first|(with_reducible first|exact HB.out|apply below_alloc|apply pw_below_drewN|apply below_drew1|refine below_set ?_ GE527.out|refine below_set ?_ GE570.out|refine below_set ?_ GE579.out|refine below_set ?_ GE589.out)|exact HB.out)⟩
   replace c134:=Bool.eq_false_iff.mpr c134
   subst c134
   rw [if_neg (show ¬ (false = true) by decide)] at H
   have H':=Aside0.mk H
   clear H
   go_wp2
   repeat (go_quiet (fail);try go_wp2)
   go_loopg [37] kj124 (fun kq v37 w'=>∃ (x37_8 : Int),v37 = .int .i64 x37_8 ∧ Aside0 (laws_FnWires.l0 kq t528 t531 t534 t545 t554 t558 t588 t590 t593 t606 x37_8 t520 t521 t524 t562 t563 t566 t581 t582 t585 = some r) ∧ Aside0 (kq ≤ kj124) ∧ Aside0 (Kd.R (Kd.int .i64) 3 w' w.heap.size (fun k_=>ob k_ v532 ∧ ob k_ v546 ∧ ob k_ v591 ∧ ob k_ v594 ∧ ob k_ v607 ∧ ob k_ (.slice Ao11 t521.length co11) ∧ ob k_ (.slice Ao12 t524.length co12) ∧ ob k_ (.slice Ao76 t563.length co76) ∧ ob k_ (.slice Ao77 t566.length co77) ∧ ob k_ (.slice Ao84 t572.length co84) ∧ ob k_ (.slice Ao85 t575.length co85) ∧ ob k_ (.slice Ao106 t582.length co106) ∧ ob k_ (.slice Ao107 t585.length co107)) v529 t528) ∧ Aside0 (Kd.R (Kd.int .i64) 3 w' w.heap.size (fun k_=>ob k_ v529 ∧ ob k_ v546 ∧ ob k_ v591 ∧ ob k_ v594 ∧ ob k_ v607 ∧ ob k_ (.slice Ao11 t521.length co11) ∧ ob k_ (.slice Ao12 t524.length co12) ∧ ob k_ (.slice Ao76 t563.length co76) ∧ ob k_ (.slice Ao77 t566.length co77) ∧ ob k_ (.slice Ao84 t572.length co84) ∧ ob k_ (.slice Ao85 t575.length co85) ∧ ob k_ (.slice Ao106 t582.length co106) ∧ ob k_ (.slice Ao107 t585.length co107)) v532 t531) ∧ Aside0 (Kd.R (Kd.int .i64) 3 w' w.heap.size (fun k_=>ob k_ v529 ∧ ob k_ v532 ∧ ob k_ v591 ∧ ob k_ v594 ∧ ob k_ v607 ∧ ob k_ (.slice Ao11 t521.length co11) ∧ ob k_ (.slice Ao12 t524.length co12) ∧ ob k_ (.slice Ao76 t563.length co76) ∧ ob k_ (.slice Ao77 t566.length co77) ∧ ob k_ (.slice Ao84 t572.length co84) ∧ ob k_ (.slice Ao85 t575.length co85) ∧ ob k_ (.slice Ao106 t582.length co106) ∧ ob k_ (.slice Ao107 t585.length co107)) v546 t545) ∧ Aside0 (Kd.R (Kd.int .i64) 3 w' w.heap.size (fun k_=>ob k_ v529 ∧ ob k_ v532 ∧ ob k_ v546 ∧ ob k_ v594 ∧ ob k_ v607 ∧ ob k_ (.slice Ao11 t521.length co11) ∧ ob k_ (.slice Ao12 t524.length co12) ∧ ob k_ (.slice Ao76 t563.length co76) ∧ ob k_ (.slice Ao77 t566.length co77) ∧ ob k_ (.slice Ao84 t572.length co84) ∧ ob k_ (.slice Ao85 t575.length co85) ∧ ob k_ (.slice Ao106 t582.length co106) ∧ ob k_ (.slice Ao107 t585.length co107)) v591 t590) ∧ Aside0 (Kd.R (Kd.int .i64) 3 w' w.heap.size (fun k_=>ob k_ v529 ∧ ob k_ v532 ∧ ob k_ v546 ∧ ob k_ v591 ∧ ob k_ v607 ∧ ob k_ (.slice Ao11 t521.length co11) ∧ ob k_ (.slice Ao12 t524.length co12) ∧ ob k_ (.slice Ao76 t563.length co76) ∧ ob k_ (.slice Ao77 t566.length co77) ∧ ob k_ (.slice Ao84 t572.length co84) ∧ ob k_ (.slice Ao85 t575.length co85) ∧ ob k_ (.slice Ao106 t582.length co106) ∧ ob k_ (.slice Ao107 t585.length co107)) v594 t593) ∧ Aside0 (Kd.R (Kd.int .i64) 3 w' w.heap.size (fun k_=>ob k_ v529 ∧ ob k_ v532 ∧ ob k_ v546 ∧ ob k_ v591 ∧ ob k_ v594 ∧ ob k_ (.slice Ao11 t521.length co11) ∧ ob k_ (.slice Ao12 t524.length co12) ∧ ob k_ (.slice Ao76 t563.length co76) ∧ ob k_ (.slice Ao77 t566.length co77) ∧ ob k_ (.slice Ao84 t572.length co84) ∧ ob k_ (.slice Ao85 t575.length co85) ∧ ob k_ (.slice Ao106 t582.length co106) ∧ ob k_ (.slice Ao107 t585.length co107)) v607 t606) ∧ Aside0 (Kd.R (Kd.int .i64) 3 w' w.heap.size (fun k_=>ob k_ v529 ∧ ob k_ v532 ∧ ob k_ v546 ∧ ob k_ v591 ∧ ob k_ v594 ∧ ob k_ v607 ∧ ob k_ (.slice Ao12 t524.length co12) ∧ ob k_ (.slice Ao76 t563.length co76) ∧ ob k_ (.slice Ao77 t566.length co77) ∧ ob k_ (.slice Ao84 t572.length co84) ∧ ob k_ (.slice Ao85 t575.length co85) ∧ ob k_ (.slice Ao106 t582.length co106) ∧ ob k_ (.slice Ao107 t585.length co107)) (.slice Ao11 t521.length co11) t521) ∧ Aside0 (Kd.R (Kd.int .i64) 3 w' w.heap.size (fun k_=>ob k_ v529 ∧ ob k_ v532 ∧ ob k_ v546 ∧ ob k_ v591 ∧ ob k_ v594 ∧ ob k_ v607 ∧ ob k_ (.slice Ao11 t521.length co11) ∧ ob k_ (.slice Ao76 t563.length co76) ∧ ob k_ (.slice Ao77 t566.length co77) ∧ ob k_ (.slice Ao84 t572.length co84) ∧ ob k_ (.slice Ao85 t575.length co85) ∧ ob k_ (.slice Ao106 t582.length co106) ∧ ob k_ (.slice Ao107 t585.length co107)) (.slice Ao12 t524.length co12) t524) ∧ Aside0 (Kd.R (Kd.int .i64) 3 w' w.heap.size (fun k_=>ob k_ v529 ∧ ob k_ v532 ∧ ob k_ v546 ∧ ob k_ v591 ∧ ob k_ v594 ∧ ob k_ v607 ∧ ob k_ (.slice Ao11 t521.length co11) ∧ ob k_ (.slice Ao12 t524.length co12) ∧ ob k_ (.slice Ao77 t566.length co77) ∧ ob k_ (.slice Ao84 t572.length co84) ∧ ob k_ (.slice Ao85 t575.length co85) ∧ ob k_ (.slice Ao106 t582.length co106) ∧ ob k_ (.slice Ao107 t585.length co107)) (.slice Ao76 t563.length co76) t563) ∧ Aside0 (Kd.R (Kd.int .i64) 3 w' w.heap.size (fun k_=>ob k_ v529 ∧ ob k_ v532 ∧ ob k_ v546 ∧ ob k_ v591 ∧ ob k_ v594 ∧ ob k_ v607 ∧ ob k_ (.slice Ao11 t521.length co11) ∧ ob k_ (.slice Ao12 t524.length co12) ∧ ob k_ (.slice Ao76 t563.length co76) ∧ ob k_ (.slice Ao84 t572.length co84) ∧ ob k_ (.slice Ao85 t575.length co85) ∧ ob k_ (.slice Ao106 t582.length co106) ∧ ob k_ (.slice Ao107 t585.length co107)) (.slice Ao77 t566.length co77) t566) ∧ Aside0 (Kd.R (Kd.int .i64) 3 w' w.heap.size (fun k_=>ob k_ v529 ∧ ob k_ v532 ∧ ob k_ v546 ∧ ob k_ v591 ∧ ob k_ v594 ∧ ob k_ v607 ∧ ob k_ (.slice Ao11 t521.length co11) ∧ ob k_ (.slice Ao12 t524.length co12) ∧ ob k_ (.slice Ao76 t563.length co76) ∧ ob k_ (.slice Ao77 t566.length co77) ∧ ob k_ (.slice Ao85 t575.length co85) ∧ ob k_ (.slice Ao106 t582.length co106) ∧ ob k_ (.slice Ao107 t585.length co107)) (.slice Ao84 t572.length co84) t572) ∧ Aside0 (Kd.R (Kd.int .i64) 3 w' w.heap.size (fun k_=>ob k_ v529 ∧ ob k_ v532 ∧ ob k_ v546 ∧ ob k_ v591 ∧ ob k_ v594 ∧ ob k_ v607 ∧ ob k_ (.slice Ao11 t521.length co11) ∧ ob k_ (.slice Ao12 t524.length co12) ∧ ob k_ (.slice Ao76 t563.length co76) ∧ ob k_ (.slice Ao77 t566.length co77) ∧ ob k_ (.slice Ao84 t572.length co84) ∧ ob k_ (.slice Ao106 t582.length co106) ∧ ob k_ (.slice Ao107 t585.length co107)) (.slice Ao85 t575.length co85) t575) ∧ Aside0 (Kd.R (Kd.int .i64) 3 w' w.heap.size (fun k_=>ob k_ v529 ∧ ob k_ v532 ∧ ob k_ v546 ∧ ob k_ v591 ∧ ob k_ v594 ∧ ob k_ v607 ∧ ob k_ (.slice Ao11 t521.length co11) ∧ ob k_ (.slice Ao12 t524.length co12) ∧ ob k_ (.slice Ao76 t563.length co76) ∧ ob k_ (.slice Ao77 t566.length co77) ∧ ob k_ (.slice Ao84 t572.length co84) ∧ ob k_ (.slice Ao85 t575.length co85) ∧ ob k_ (.slice Ao107 t585.length co107)) (.slice Ao106 t582.length co106) t582) ∧ Aside0 (Kd.R (Kd.int .i64) 3 w' w.heap.size (fun k_=>ob k_ v529 ∧ ob k_ v532 ∧ ob k_ v546 ∧ ob k_ v591 ∧ ob k_ v594 ∧ ob k_ v607 ∧ ob k_ (.slice Ao11 t521.length co11) ∧ ob k_ (.slice Ao12 t524.length co12) ∧ ob k_ (.slice Ao76 t563.length co76) ∧ ob k_ (.slice Ao77 t566.length co77) ∧ ob k_ (.slice Ao84 t572.length co84) ∧ ob k_ (.slice Ao85 t575.length co85) ∧ ob k_ (.slice Ao106 t582.length co106)) (.slice Ao107 t585.length co107) t585) ∧ Aside0 (w'.heap[gb527]? = some (.cells #[.int .i64 t520,(.slice Ao11 t521.length co11),(.slice Ao12 t524.length co12)] 27 (0,0))) ∧ Aside0 (w'.heap[gb570]? = some (.cells #[.int .i64 t562,(.slice Ao76 t563.length co76),(.slice Ao77 t566.length co77)] 27 (0,0))) ∧ Aside0 (w'.heap[gb579]? = some (.cells #[.int .i64 t571,(.slice Ao84 t572.length co84),(.slice Ao85 t575.length co85)] 27 (0,0))) ∧ Aside0 (w'.heap[gb589]? = some (.cells #[.int .i64 t581,(.slice Ao106 t582.length co106),(.slice Ao107 t585.length co107)] 27 (0,0))) ∧ Aside0 (Below w.heap.size w w'))
   case atStart=>exact ⟨(0),fd,H',⟨Nat.le_refl _⟩,⟨rm HO_4.out⟩,⟨rm HO_5.out⟩,⟨rm HO_10.out⟩,⟨rm HO_28.out⟩,⟨rm HO_29.out⟩,⟨rm HO_34.out⟩,⟨rm HO_528001.out⟩,⟨rm HO_528002.out⟩,⟨rm HO_571001.out⟩,⟨rm HO_571002.out⟩,⟨rm HO_580001.out⟩,⟨rm HO_580002.out⟩,⟨rm HO_590001.out⟩,⟨rm HO_590002.out⟩,⟨bm BK527.out⟩,⟨bm BK570.out⟩,⟨bm BK579.out⟩,⟨bm BK589.out⟩,⟨by repeat (first|(with_reducible first|exact HB.out|apply below_alloc|apply pw_below_drewN|apply below_drew1|refine below_set ?_ GE527.out|refine below_set ?_ GE570.out|refine below_set ?_ GE579.out|refine below_set ?_ GE589.out)|exact HB.out)⟩⟩
   clear H'
   try clear c1
   try clear c2
   try clear p2
   try clear c3
   try clear c4
   try clear c5
   try clear c6
   try clear c7
   try clear c8
   try clear c9
   try clear c10
   try clear c11
   try clear c12
   try clear c13
   try clear c16
   try clear c16b0
   try clear c16b1
   try clear c16b2
   try clear c18
   try clear c18b0
   try clear c18b1
   try clear c18b2
   try clear c22
   try clear c34
   try clear c42
   try clear c42b0
   try clear c42b1
   try clear c42b2
   try clear c43
   try clear c43b0
   try clear c43b1
   try clear c43b2
   try clear c47
   try clear c55
   try clear c55b0
   try clear c55b1
   try clear c56
   try clear c56b0
   try clear c56b1
   try clear c56b2
   try clear c57
   try clear c65
   try clear c65b0
   try clear c65b1
   try clear c66
   try clear c66b0
   try clear c66b1
   try clear c66b2
   try clear c67
   try clear c74
   try clear c81
   try clear c82
   try clear c86
   try clear c86b0
   try clear c86b1
   try clear c86b2
   try clear c87
   try clear c87b0
   try clear c87b1
   try clear c87b2
   try clear c89
   try clear c90
   try clear c92
   try clear c95
   try clear c102
   try clear c103
   try clear c104
   try clear c111
   try clear c111b0
   try clear c111b1
   try clear c111b2
   try clear c113
   try clear c121
   try clear c123
   try clear c126
   try clear c127
   try clear c128
   try clear c131
   try clear c134
   try clear hcz105_0
   try clear hcz105_1
   try clear hcz105_2
   try clear hcz109_0
   try clear hcz109_1
   try clear hcz109_2
   try clear hcz10_0
   try clear hcz10_1
   try clear hcz10_2
   try clear hcz129_0
   try clear hcz129_1
   try clear hcz129_2
   try clear hcz14_0
   try clear hcz14_1
   try clear hcz14_2
   try clear hcz19_0
   try clear hcz19_1
   try clear hcz19_2
   try clear hcz24_0
   try clear hcz24_1
   try clear hcz24_2
   try clear hcz30_0
   try clear hcz30_1
   try clear hcz30_2
   try clear hcz38_0
   try clear hcz38_1
   try clear hcz38_2
   try clear hcz40_0
   try clear hcz40_1
   try clear hcz40_2
   try clear hcz51_0
   try clear hcz51_1
   try clear hcz51_2
   try clear hcz53_0
   try clear hcz53_1
   try clear hcz53_2
   try clear hcz61_0
   try clear hcz61_1
   try clear hcz61_2
   try clear hcz63_0
   try clear hcz63_1
   try clear hcz63_2
   try clear hcz71_0
   try clear hcz71_1
   try clear hcz71_2
   try clear hcz75_0
   try clear hcz75_1
   try clear hcz75_2
   try clear hcz78_0
   try clear hcz78_1
   try clear hcz78_2
   try clear hcz83_0
   try clear hcz83_1
   try clear hcz83_2
   try clear hcz91_0
   try clear hcz91_1
   try clear hcz91_2
   try clear hcz93_0
   try clear hcz93_1
   try clear hcz93_2
   try clear hfz105_0
   try clear hfz105_1
   try clear hfz105_2
   try clear hfz109_0
   try clear hfz109_1
   try clear hfz109_2
   try clear hfz10_0
   try clear hfz10_1
   try clear hfz10_2
   try clear hfz129_0
   try clear hfz129_1
   try clear hfz129_2
   try clear hfz14_0
   try clear hfz14_1
   try clear hfz14_2
   try clear hfz19_0
   try clear hfz19_1
   try clear hfz19_2
   try clear hfz24_0
   try clear hfz24_1
   try clear hfz24_2
   try clear hfz30_0
   try clear hfz30_1
   try clear hfz30_2
   try clear hfz38_0
   try clear hfz38_1
   try clear hfz38_2
   try clear hfz40_0
   try clear hfz40_1
   try clear hfz40_2
   try clear hfz51_0
   try clear hfz51_1
   try clear hfz51_2
   try clear hfz53_0
   try clear hfz53_1
   try clear hfz53_2
   try clear hfz61_0
   try clear hfz61_1
   try clear hfz61_2
   try clear hfz63_0
   try clear hfz63_1
   try clear hfz63_2
   try clear hfz71_0
   try clear hfz71_1
   try clear hfz71_2
   try clear hfz75_0
   try clear hfz75_1
   try clear hfz75_2
   try clear hfz78_0
   try clear hfz78_1
   try clear hfz78_2
   try clear hfz83_0
   try clear hfz83_1
   try clear hfz83_2
   try clear hfz91_0
   try clear hfz91_1
   try clear hfz91_2
   try clear hfz93_0
   try clear hfz93_1
   try clear hfz93_2
   try clear p2
   obtain ⟨x37_8,rfl,HA,HK8,HO_4,HO_5,HO_10,HO_28,HO_29,HO_34,HO_528001,HO_528002,HO_571001,HO_571002,HO_580001,HO_580002,HO_590001,HO_590002,BK527,BK570,BK579,BK589,HB⟩:=hrel
   cases gk with
   | zero=>exact absurd HA.out (by simp [laws_FnWires.l0])
   | succ k8 =>
    have H:=HA.out
    clear HA
    simp only [laws_FnWires.l0] at H
    by_cases c135 : x37_8 < (t590.length : Int)
    rotate_left
    ·rw [if_neg c135] at H
     have c135b0 : decide (x37_8 < (t590.length : Int)) = false:=decide_eq_false c135
     clear c135
     as_aux_lemma =>
      have H':=Aside0.mk H
      clear H
      obtain ⟨Ao194,co194,eo194⟩:=R_slice HO_28.out
      subst eo194
      go_wp2
      repeat (go_quiet (fail);try go_wp2)
      go_meet
      case rel=>exact ⟨_,H',⟨by first|exact Nat.le_refl _|(have:=HJ6.out;have:=HJ36.out;have:=HJ49.out;have:=HJ59.out;have:=HJ69.out;have:=HJ98.out;have:=HJ124.out;have:=HK8.out;omega)⟩,rq HO_4,rq HO_5,rq HO_10,rq HO_528001,rq HO_528002,rq HO_571001,rq HO_571002,rq HO_580001,rq HO_580002,rq HO_590001,rq HO_590002,⟨bm BK527.out⟩,⟨bm BK570.out⟩,⟨bm BK579.out⟩,⟨bm BK589.out⟩,⟨by repeat (first|(with_reducible first|exact HB.out|apply below_alloc|apply pw_below_drewN|apply below_drew1|refine below_set ?_ GE527.out|refine below_set ?_ GE570.out|refine below_set ?_ GE579.out|refine below_set ?_ GE589.out)|exact HB.out)⟩⟩
    rw [if_pos c135] at H
    have c135b0 : decide (x37_8 < (t590.length : Int)) = true:=decide_eq_true c135
    clear c135
    obtain ⟨c136,H⟩:=gi H
    have c136b0 : decide (0 ≤ x37_8) = true:=decide_eq_true c136
    clear c136
    obtain ⟨c137,H⟩:=gi H
    have c137b0 : decide (0 ≤ (rd t590 x37_8)) = true:=decide_eq_true c137
    clear c137
    obtain ⟨c138,H⟩:=gi H
    have c138b0 : decide ((rd t590 x37_8) < (t606.length : Int)) = true:=decide_eq_true c138
    clear c138
    by_cases c139 : (rd t606 (rd t590 x37_8)) < t588
    ·rw [if_pos c139] at H
     have c139b0 : decide ((rd t606 (rd t590 x37_8)) < t588) = true:=decide_eq_true c139
     clear c139
     as_aux_lemma =>
      obtain rfl:=Option.some.inj H
      obtain ⟨Ao140,co140,eo140⟩:=R_slice HO_28.out
      subst eo140
      have p613 : 0 ≤ (x37_8 : Int):=od
      have q613 : x37_8 < (t590.length : Int):=od
      obtain ⟨ad613,e613,hx613_0⟩:=Kd.at_int (R_reads' HO_28.out).2.2 x37_8 p613 q613
      cases e613
      replace p613:=eq_true p613
      replace q613:=eq_true q613
      obtain ⟨Ao141,co141,eo141⟩:=R_slice HO_34.out
      subst eo141
      have p614 : 0 ≤ ((rd t590 x37_8) : Int):=od
      have q614 : (rd t590 x37_8) < (t606.length : Int):=od
      obtain ⟨ad614,e614,hx614_0⟩:=Kd.at_int (R_reads' HO_34.out).2.2 (rd t590 x37_8) p614 q614
      cases e614
      replace p614:=eq_true p614
      replace q614:=eq_true q614
      go_wp2
      repeat (go_quiet (fail);try go_wp2)
      go_ret
      exact ⟨fe,by repeat (first|(with_reducible first|exact HB.out|apply below_alloc|apply pw_below_drewN|apply below_drew1|refine below_set ?_ GE527.out|refine below_set ?_ GE570.out|refine below_set ?_ GE579.out|refine below_set ?_ GE589.out)|exact HB.out)⟩
    rw [if_neg c139] at H
    have c139b0 : decide ((rd t606 (rd t590 x37_8)) < t588) = false:=decide_eq_false c139
    clear c139
    by_cases c142 : x37_8 > 0
    rotate_left
    ·rw [if_neg c142] at H
     have c142b0 : decide (0 < x37_8) = false:=decide_eq_false c142
     clear c142
     obtain ⟨c174,H⟩:=gi H
     have c174b0 : decide (x37_8 < (t593.length : Int)) = true:=decide_eq_true c174
     clear c174
     by_cases c175 : (rd t593 x37_8) < 0
     ·rw [if_pos c175] at H
      have c175b0 : decide ((rd t593 x37_8) < 0) = true:=decide_eq_true c175
      clear c175
      as_aux_lemma =>
       obtain rfl:=Option.some.inj H
       obtain ⟨Ao176,co176,eo176⟩:=R_slice HO_28.out
       subst eo176
       have p613 : 0 ≤ (x37_8 : Int):=od
       have q613 : x37_8 < (t590.length : Int):=od
       obtain ⟨ad613,e613,hx613_0⟩:=Kd.at_int (R_reads' HO_28.out).2.2 x37_8 p613 q613
       cases e613
       replace p613:=eq_true p613
       replace q613:=eq_true q613
       obtain ⟨Ao177,co177,eo177⟩:=R_slice HO_34.out
       subst eo177
       have p614 : 0 ≤ ((rd t590 x37_8) : Int):=od
       have q614 : (rd t590 x37_8) < (t606.length : Int):=od
       obtain ⟨ad614,e614,hx614_0⟩:=Kd.at_int (R_reads' HO_34.out).2.2 (rd t590 x37_8) p614 q614
       cases e614
       replace p614:=eq_true p614
       replace q614:=eq_true q614
       obtain ⟨Ao178,co178,eo178⟩:=R_slice HO_29.out
       subst eo178
       have p621 : 0 ≤ (x37_8 : Int):=od
       have q621 : x37_8 < (t593.length : Int):=od
       obtain ⟨ad621,e621,hx621_0⟩:=Kd.at_int (R_reads' HO_29.out).2.2 x37_8 p621 q621
       cases e621
       replace p621:=eq_true p621
       replace q621:=eq_true q621
       go_wp2
       repeat (go_quiet (fail);try go_wp2)
       go_ret
       exact ⟨fe,by repeat (first|(with_reducible first|exact HB.out|apply below_alloc|apply pw_below_drewN|apply below_drew1|refine below_set ?_ GE527.out|refine below_set ?_ GE570.out|refine below_set ?_ GE579.out|refine below_set ?_ GE589.out)|exact HB.out)⟩
     rw [if_neg c175] at H
     have c175b0 : decide ((rd t593 x37_8) < 0) = false:=decide_eq_false c175
     clear c175
     by_cases c179 : (rd t593 x37_8) > t581
     ·rw [if_pos c179] at H
      have c179b0 : decide (t581 < (rd t593 x37_8)) = true:=decide_eq_true c179
      clear c179
      as_aux_lemma =>
       obtain rfl:=Option.some.inj H
       obtain ⟨Ao180,co180,eo180⟩:=R_slice HO_28.out
       subst eo180
       have p613 : 0 ≤ (x37_8 : Int):=od
       have q613 : x37_8 < (t590.length : Int):=od
       obtain ⟨ad613,e613,hx613_0⟩:=Kd.at_int (R_reads' HO_28.out).2.2 x37_8 p613 q613
       cases e613
       replace p613:=eq_true p613
       replace q613:=eq_true q613
       obtain ⟨Ao181,co181,eo181⟩:=R_slice HO_34.out
       subst eo181
       have p614 : 0 ≤ ((rd t590 x37_8) : Int):=od
       have q614 : (rd t590 x37_8) < (t606.length : Int):=od
       obtain ⟨ad614,e614,hx614_0⟩:=Kd.at_int (R_reads' HO_34.out).2.2 (rd t590 x37_8) p614 q614
       cases e614
       replace p614:=eq_true p614
       replace q614:=eq_true q614
       obtain ⟨Ao182,co182,eo182⟩:=R_slice HO_29.out
       subst eo182
       have p621 : 0 ≤ (x37_8 : Int):=od
       have q621 : x37_8 < (t593.length : Int):=od
       obtain ⟨ad621,e621,hx621_0⟩:=Kd.at_int (R_reads' HO_29.out).2.2 x37_8 p621 q621
       cases e621
       replace p621:=eq_true p621
       replace q621:=eq_true q621
       have p622 : 0 ≤ (x37_8 : Int):=od
       have q622 : x37_8 < (t593.length : Int):=od
       obtain ⟨ad622,e622,hx622_0⟩:=Kd.at_int (R_reads' HO_29.out).2.2 x37_8 p622 q622
       obtain rfl : ad621 = ad622:=(by injection e622)
       replace p622:=eq_true p622
       replace q622:=eq_true q622
       have hnb183:=NB589_527.out
       have hnc183:=NB527_589.out
       have hnb184:=NB589_570.out
       have hnc184:=NB570_589.out
       have hnb185:=NB589_579.out
       have hnc185:=NB579_589.out
       have hcz186_0:=bc BK589 0 rfl
       have hcz186_1:=bc BK589 1 rfl
       have hcz186_2:=bc BK589 2 rfl
       have hfz186_0:=bf BK589 0
       have hfz186_1:=bf BK589 1
       have hfz186_2:=bf BK589 2
       go_wp2
       repeat (go_quiet (fail);try go_wp2)
       go_ret
       exact ⟨fe,by repeat (first|(with_reducible first|exact HB.out|apply below_alloc|apply pw_below_drewN|apply below_drew1|refine below_set ?_ GE527.out|refine below_set ?_ GE570.out|refine below_set ?_ GE579.out|refine below_set ?_ GE589.out)|exact HB.out)⟩
     rw [if_neg c179] at H
     have c179b0 : decide (t581 < (rd t593 x37_8)) = false:=decide_eq_false c179
     clear c179
     as_aux_lemma =>
      have H':=Aside0.mk H
      clear H
      obtain ⟨Ao187,co187,eo187⟩:=R_slice HO_28.out
      subst eo187
      have p613 : 0 ≤ (x37_8 : Int):=od
      have q613 : x37_8 < (t590.length : Int):=od
      obtain ⟨ad613,e613,hx613_0⟩:=Kd.at_int (R_reads' HO_28.out).2.2 x37_8 p613 q613
      cases e613
      replace p613:=eq_true p613
      replace q613:=eq_true q613
      obtain ⟨Ao188,co188,eo188⟩:=R_slice HO_34.out
      subst eo188
      have p614 : 0 ≤ ((rd t590 x37_8) : Int):=od
      have q614 : (rd t590 x37_8) < (t606.length : Int):=od
      obtain ⟨ad614,e614,hx614_0⟩:=Kd.at_int (R_reads' HO_34.out).2.2 (rd t590 x37_8) p614 q614
      cases e614
      replace p614:=eq_true p614
      replace q614:=eq_true q614
      obtain ⟨Ao189,co189,eo189⟩:=R_slice HO_29.out
      subst eo189
      have p621 : 0 ≤ (x37_8 : Int):=od
      have q621 : x37_8 < (t593.length : Int):=od
      obtain ⟨ad621,e621,hx621_0⟩:=Kd.at_int (R_reads' HO_29.out).2.2 x37_8 p621 q621
      cases e621
      replace p621:=eq_true p621
      replace q621:=eq_true q621
      have p622 : 0 ≤ (x37_8 : Int):=od
      have q622 : x37_8 < (t593.length : Int):=od
      obtain ⟨ad622,e622,hx622_0⟩:=Kd.at_int (R_reads' HO_29.out).2.2 x37_8 p622 q622
      obtain rfl : ad621 = ad622:=(by injection e622)
      replace p622:=eq_true p622
      replace q622:=eq_true q622
      have hnb190:=NB589_527.out
      have hnc190:=NB527_589.out
      have hnb191:=NB589_570.out
      have hnc191:=NB570_589.out
      have hnb192:=NB589_579.out
      have hnc192:=NB579_589.out
      have hcz193_0:=bc BK589 0 rfl
      have hcz193_1:=bc BK589 1 rfl
      have hcz193_2:=bc BK589 2 rfl
      have hfz193_0:=bf BK589 0
      have hfz193_1:=bf BK589 1
      have hfz193_2:=bf BK589 2
      go_wp2
      repeat (go_quiet (fail);try go_wp2)
      go_roundg k8
      case measure=>have:=HJ6.out;have:=HJ36.out;have:=HJ49.out;have:=HJ59.out;have:=HJ69.out;have:=HJ98.out;have:=HJ124.out;have:=HK8.out;omega
      case rel=>exact ⟨(wrap64 (x37_8 + 1)),fd,H',⟨by have:=HJ6.out;have:=HJ36.out;have:=HJ49.out;have:=HJ59.out;have:=HJ69.out;have:=HJ98.out;have:=HJ124.out;have:=HK8.out;omega⟩,⟨rm HO_4.out⟩,⟨rm HO_5.out⟩,⟨rm HO_10.out⟩,⟨rm HO_28.out⟩,⟨rm HO_29.out⟩,⟨rm HO_34.out⟩,⟨rm HO_528001.out⟩,⟨rm HO_528002.out⟩,⟨rm HO_571001.out⟩,⟨rm HO_571002.out⟩,⟨rm HO_580001.out⟩,⟨rm HO_580002.out⟩,⟨rm HO_590001.out⟩,⟨rm HO_590002.out⟩,⟨bm BK527.out⟩,⟨bm BK570.out⟩,⟨bm BK579.out⟩,⟨bm BK589.out⟩,⟨by repeat (first|(with_reducible first|exact HB.out|apply below_alloc|apply pw_below_drewN|apply below_drew1|refine below_set ?_ GE527.out|refine below_set ?_ GE570.out|refine below_set ?_ GE579.out|refine below_set ?_ GE589.out)|exact HB.out)⟩⟩
    rw [if_pos c142] at H
    have c142b0 : decide (0 < x37_8) = true:=decide_eq_true c142
    clear c142
    obtain ⟨ji143,hji143⟩ : ∃ j_ : Int,(wrap64 (x37_8 - 1)) = j_:=⟨_,rfl⟩
    replace H : (if 0 ≤ (ji143) then (if (ji143) < (t590.length : Int) then (if (rd t590 x37_8) ≤ (rd t590 (ji143)) then (some false) else (if x37_8 < (t593.length : Int) then (if (ji143) < (t593.length : Int) then (if (rd t593 x37_8) < (rd t593 (ji143)) then (some false) else (if (rd t593 x37_8) < 0 then (some false) else (if (rd t593 x37_8) > t581 then (some false) else (laws_FnWires.l0 k8 t528 t531 t534 t545 t554 t558 t588 t590 t593 t606 (wrap64 (x37_8 + 1)) t520 t521 t524 t562 t563 t566 t581 t582 t585)))) else (none)) else (none))) else (none)) else (none)) = some r:=by first|(rw [hji143] at H;exact H)|(simp only [hji143] at H ⊢;exact H)
    have hji143w : (IntKind.i64.wrap (x37_8 - 1)) = ji143:=(i64_w _).trans hji143
    obtain ⟨c144,H⟩:=gi H
    have c144b0 : decide (0 ≤ (ji143)) = true:=decide_eq_true c144
    clear c144
    obtain ⟨c145,H⟩:=gi H
    have c145b0 : decide ((ji143) < (t590.length : Int)) = true:=decide_eq_true c145
    clear c145
    by_cases c146 : (rd t590 x37_8) ≤ (rd t590 (ji143))
    ·rw [if_pos c146] at H
     have c146b0 : decide ((rd t590 x37_8) ≤ (rd t590 (ji143))) = true:=decide_eq_true c146
     clear c146
     as_aux_lemma =>
      obtain rfl:=Option.some.inj H
      obtain ⟨Ao147,co147,eo147⟩:=R_slice HO_28.out
      subst eo147
      have p613 : 0 ≤ (x37_8 : Int):=od
      have q613 : x37_8 < (t590.length : Int):=od
      obtain ⟨ad613,e613,hx613_0⟩:=Kd.at_int (R_reads' HO_28.out).2.2 x37_8 p613 q613
      cases e613
      replace p613:=eq_true p613
      replace q613:=eq_true q613
      obtain ⟨Ao148,co148,eo148⟩:=R_slice HO_34.out
      subst eo148
      have p614 : 0 ≤ ((rd t590 x37_8) : Int):=od
      have q614 : (rd t590 x37_8) < (t606.length : Int):=od
      obtain ⟨ad614,e614,hx614_0⟩:=Kd.at_int (R_reads' HO_34.out).2.2 (rd t590 x37_8) p614 q614
      cases e614
      replace p614:=eq_true p614
      replace q614:=eq_true q614
      have p615 : 0 ≤ (x37_8 : Int):=od
      have q615 : x37_8 < (t590.length : Int):=od
      obtain ⟨ad615,e615,hx615_0⟩:=Kd.at_int (R_reads' HO_28.out).2.2 x37_8 p615 q615
      obtain rfl : ad613 = ad615:=(by injection e615)
      replace p615:=eq_true p615
      replace q615:=eq_true q615
      have p616 : 0 ≤ ((ji143) : Int):=od
      have q616 : (ji143) < (t590.length : Int):=od
      obtain ⟨ad616,e616,hx616_0⟩:=Kd.at_int (R_reads' HO_28.out).2.2 (ji143) p616 q616
      obtain rfl : ad613 = ad616:=(by injection e616)
      replace p616:=eq_true p616
      replace q616:=eq_true q616
      go_wp2
      repeat (go_quiet (fail);try go_wp2)
      go_ret
      exact ⟨by first|rfl|(simp [errW_none,errW_some] <;> rfl)|(simp only [← hji143];first|rfl|(simp [errW_none,errW_some] <;> rfl))|(simp [*,errW_none,errW_some] <;> rfl),by repeat (first|(with_reducible first|exact HB.out|apply below_alloc|apply pw_below_drewN|apply below_drew1|refine below_set ?_ GE527.out|refine below_set ?_ GE570.out|refine below_set ?_ GE579.out|refine below_set ?_ GE589.out)|exact HB.out)⟩
    rw [if_neg c146] at H
    have c146b0 : decide ((rd t590 x37_8) ≤ (rd t590 (ji143))) = false:=decide_eq_false c146
    clear c146
    obtain ⟨c149,H⟩:=gi H
    have c149b0 : decide (x37_8 < (t593.length : Int)) = true:=decide_eq_true c149
    clear c149
    obtain ⟨c150,H⟩:=gi H
    have c150b0 : decide ((ji143) < (t593.length : Int)) = true:=decide_eq_true c150
    clear c150
    by_cases c151 : (rd t593 x37_8) < (rd t593 (ji143))
    ·rw [if_pos c151] at H
     have c151b0 : decide ((rd t593 x37_8) < (rd t593 (ji143))) = true:=decide_eq_true c151
     clear c151
     as_aux_lemma =>
      obtain rfl:=Option.some.inj H
      obtain ⟨Ao152,co152,eo152⟩:=R_slice HO_28.out
      subst eo152
      have p613 : 0 ≤ (x37_8 : Int):=od
      have q613 : x37_8 < (t590.length : Int):=od
      obtain ⟨ad613,e613,hx613_0⟩:=Kd.at_int (R_reads' HO_28.out).2.2 x37_8 p613 q613
      cases e613
      replace p613:=eq_true p613
      replace q613:=eq_true q613
      obtain ⟨Ao153,co153,eo153⟩:=R_slice HO_34.out
      subst eo153
      have p614 : 0 ≤ ((rd t590 x37_8) : Int):=od
      have q614 : (rd t590 x37_8) < (t606.length : Int):=od
      obtain ⟨ad614,e614,hx614_0⟩:=Kd.at_int (R_reads' HO_34.out).2.2 (rd t590 x37_8) p614 q614
      cases e614
      replace p614:=eq_true p614
      replace q614:=eq_true q614
      have p615 : 0 ≤ (x37_8 : Int):=od
      have q615 : x37_8 < (t590.length : Int):=od
      obtain ⟨ad615,e615,hx615_0⟩:=Kd.at_int (R_reads' HO_28.out).2.2 x37_8 p615 q615
      obtain rfl : ad613 = ad615:=(by injection e615)
      replace p615:=eq_true p615
      replace q615:=eq_true q615
      have p616 : 0 ≤ ((ji143) : Int):=od
      have q616 : (ji143) < (t590.length : Int):=od
      obtain ⟨ad616,e616,hx616_0⟩:=Kd.at_int (R_reads' HO_28.out).2.2 (ji143) p616 q616
      obtain rfl : ad613 = ad616:=(by injection e616)
      replace p616:=eq_true p616
      replace q616:=eq_true q616
      obtain ⟨Ao154,co154,eo154⟩:=R_slice HO_29.out
      subst eo154
      have p617 : 0 ≤ (x37_8 : Int):=od
      have q617 : x37_8 < (t593.length : Int):=od
      obtain ⟨ad617,e617,hx617_0⟩:=Kd.at_int (R_reads' HO_29.out).2.2 x37_8 p617 q617
      cases e617
      replace p617:=eq_true p617
      replace q617:=eq_true q617
      have p618 : 0 ≤ ((ji143) : Int):=od
      have q618 : (ji143) < (t593.length : Int):=od
      obtain ⟨ad618,e618,hx618_0⟩:=Kd.at_int (R_reads' HO_29.out).2.2 (ji143) p618 q618
      obtain rfl : ad617 = ad618:=(by injection e618)
      replace p618:=eq_true p618
      replace q618:=eq_true q618
      go_wp2
      repeat (go_quiet (fail);try go_wp2)
      go_ret
      exact ⟨by first|rfl|(simp [errW_none,errW_some] <;> rfl)|(simp only [← hji143];first|rfl|(simp [errW_none,errW_some] <;> rfl))|(simp [*,errW_none,errW_some] <;> rfl),by repeat (first|(with_reducible first|exact HB.out|apply below_alloc|apply pw_below_drewN|apply below_drew1|refine below_set ?_ GE527.out|refine below_set ?_ GE570.out|refine below_set ?_ GE579.out|refine below_set ?_ GE589.out)|exact HB.out)⟩
    rw [if_neg c151] at H
    have c151b0 : decide ((rd t593 x37_8) < (rd t593 (ji143))) = false:=decide_eq_false c151
    clear c151
    by_cases c155 : (rd t593 x37_8) < 0
    ·rw [if_pos c155] at H
     have c155b0 : decide ((rd t593 x37_8) < 0) = true:=decide_eq_true c155
     clear c155
     as_aux_lemma =>
      obtain rfl:=Option.some.inj H
      obtain ⟨Ao156,co156,eo156⟩:=R_slice HO_28.out
      subst eo156
      have p613 : 0 ≤ (x37_8 : Int):=od
      have q613 : x37_8 < (t590.length : Int):=od
      obtain ⟨ad613,e613,hx613_0⟩:=Kd.at_int (R_reads' HO_28.out).2.2 x37_8 p613 q613
      cases e613
      replace p613:=eq_true p613
      replace q613:=eq_true q613
      obtain ⟨Ao157,co157,eo157⟩:=R_slice HO_34.out
      subst eo157
      have p614 : 0 ≤ ((rd t590 x37_8) : Int):=od
      have q614 : (rd t590 x37_8) < (t606.length : Int):=od
      obtain ⟨ad614,e614,hx614_0⟩:=Kd.at_int (R_reads' HO_34.out).2.2 (rd t590 x37_8) p614 q614
      cases e614
      replace p614:=eq_true p614
      replace q614:=eq_true q614
      have p615 : 0 ≤ (x37_8 : Int):=od
      have q615 : x37_8 < (t590.length : Int):=od
      obtain ⟨ad615,e615,hx615_0⟩:=Kd.at_int (R_reads' HO_28.out).2.2 x37_8 p615 q615
      obtain rfl : ad613 = ad615:=(by injection e615)
      replace p615:=eq_true p615
      replace q615:=eq_true q615
      have p616 : 0 ≤ ((ji143) : Int):=od
      have q616 : (ji143) < (t590.length : Int):=od
      obtain ⟨ad616,e616,hx616_0⟩:=Kd.at_int (R_reads' HO_28.out).2.2 (ji143) p616 q616
      obtain rfl : ad613 = ad616:=(by injection e616)
      replace p616:=eq_true p616
      replace q616:=eq_true q616
      obtain ⟨Ao158,co158,eo158⟩:=R_slice HO_29.out
      subst eo158
      have p617 : 0 ≤ (x37_8 : Int):=od
      have q617 : x37_8 < (t593.length : Int):=od
      obtain ⟨ad617,e617,hx617_0⟩:=Kd.at_int (R_reads' HO_29.out).2.2 x37_8 p617 q617
      cases e617
      replace p617:=eq_true p617
      replace q617:=eq_true q617
      have p618 : 0 ≤ ((ji143) : Int):=od
      have q618 : (ji143) < (t593.length : Int):=od
      obtain ⟨ad618,e618,hx618_0⟩:=Kd.at_int (R_reads' HO_29.out).2.2 (ji143) p618 q618
      obtain rfl : ad617 = ad618:=(by injection e618)
      replace p618:=eq_true p618
      replace q618:=eq_true q618
      have p619 : 0 ≤ (x37_8 : Int):=od
      have q619 : x37_8 < (t593.length : Int):=od
      obtain ⟨ad619,e619,hx619_0⟩:=Kd.at_int (R_reads' HO_29.out).2.2 x37_8 p619 q619
      obtain rfl : ad617 = ad619:=(by injection e619)
      replace p619:=eq_true p619
      replace q619:=eq_true q619
      go_wp2
      repeat (go_quiet (fail);try go_wp2)
      go_ret
      exact ⟨by first|rfl|(simp [errW_none,errW_some] <;> rfl)|(simp only [← hji143];first|rfl|(simp [errW_none,errW_some] <;> rfl))|(simp [*,errW_none,errW_some] <;> rfl),by repeat (first|(with_reducible first|exact HB.out|apply below_alloc|apply pw_below_drewN|apply below_drew1|refine below_set ?_ GE527.out|refine below_set ?_ GE570.out|refine below_set ?_ GE579.out|refine below_set ?_ GE589.out)|exact HB.out)⟩
    rw [if_neg c155] at H
    have c155b0 : decide ((rd t593 x37_8) < 0) = false:=decide_eq_false c155
    clear c155
    by_cases c159 : (rd t593 x37_8) > t581
    ·rw [if_pos c159] at H
     have c159b0 : decide (t581 < (rd t593 x37_8)) = true:=decide_eq_true c159
     clear c159
     as_aux_lemma =>
      obtain rfl:=Option.some.inj H
      obtain ⟨Ao160,co160,eo160⟩:=R_slice HO_28.out
      subst eo160
      have p613 : 0 ≤ (x37_8 : Int):=od
      have q613 : x37_8 < (t590.length : Int):=od
      obtain ⟨ad613,e613,hx613_0⟩:=Kd.at_int (R_reads' HO_28.out).2.2 x37_8 p613 q613
      cases e613
      replace p613:=eq_true p613
      replace q613:=eq_true q613
      obtain ⟨Ao161,co161,eo161⟩:=R_slice HO_34.out
      subst eo161
      have p614 : 0 ≤ ((rd t590 x37_8) : Int):=od
      have q614 : (rd t590 x37_8) < (t606.length : Int):=od
      obtain ⟨ad614,e614,hx614_0⟩:=Kd.at_int (R_reads' HO_34.out).2.2 (rd t590 x37_8) p614 q614
      cases e614
      replace p614:=eq_true p614
      replace q614:=eq_true q614
      have p615 : 0 ≤ (x37_8 : Int):=od
      have q615 : x37_8 < (t590.length : Int):=od
      obtain ⟨ad615,e615,hx615_0⟩:=Kd.at_int (R_reads' HO_28.out).2.2 x37_8 p615 q615
      obtain rfl : ad613 = ad615:=(by injection e615)
      replace p615:=eq_true p615
      replace q615:=eq_true q615
      have p616 : 0 ≤ ((ji143) : Int):=od
      have q616 : (ji143) < (t590.length : Int):=od
      obtain ⟨ad616,e616,hx616_0⟩:=Kd.at_int (R_reads' HO_28.out).2.2 (ji143) p616 q616
      obtain rfl : ad613 = ad616:=(by injection e616)
      replace p616:=eq_true p616
      replace q616:=eq_true q616
      obtain ⟨Ao162,co162,eo162⟩:=R_slice HO_29.out
      subst eo162
      have p617 : 0 ≤ (x37_8 : Int):=od
      have q617 : x37_8 < (t593.length : Int):=od
      obtain ⟨ad617,e617,hx617_0⟩:=Kd.at_int (R_reads' HO_29.out).2.2 x37_8 p617 q617
      cases e617
      replace p617:=eq_true p617
      replace q617:=eq_true q617
      have p618 : 0 ≤ ((ji143) : Int):=od
      have q618 : (ji143) < (t593.length : Int):=od
      obtain ⟨ad618,e618,hx618_0⟩:=Kd.at_int (R_reads' HO_29.out).2.2 (ji143) p618 q618
      obtain rfl : ad617 = ad618:=(by injection e618)
      replace p618:=eq_true p618
      replace q618:=eq_true q618
      have p619 : 0 ≤ (x37_8 : Int):=od
      have q619 : x37_8 < (t593.length : Int):=od
      obtain ⟨ad619,e619,hx619_0⟩:=Kd.at_int (R_reads' HO_29.out).2.2 x37_8 p619 q619
      obtain rfl : ad617 = ad619:=(by injection e619)
      replace p619:=eq_true p619
      replace q619:=eq_true q619
      have p620 : 0 ≤ (x37_8 : Int):=od
      have q620 : x37_8 < (t593.length : Int):=od
      obtain ⟨ad620,e620,hx620_0⟩:=Kd.at_int (R_reads' HO_29.out).2.2 x37_8 p620 q620
      obtain rfl : ad617 = ad620:=(by injection e620)
      replace p620:=eq_true p620
      replace q620:=eq_true q620
      have hnb163:=NB589_527.out
      have hnc163:=NB527_589.out
      have hnb164:=NB589_570.out
      have hnc164:=NB570_589.out
      have hnb165:=NB589_579.out
      have hnc165:=NB579_589.out
      have hcz166_0:=bc BK589 0 rfl
      have hcz166_1:=bc BK589 1 rfl
      have hcz166_2:=bc BK589 2 rfl
      have hfz166_0:=bf BK589 0
      have hfz166_1:=bf BK589 1
      have hfz166_2:=bf BK589 2
      go_wp2
      repeat (go_quiet (fail);try go_wp2)
      go_ret
      exact ⟨by first|rfl|(simp [errW_none,errW_some] <;> rfl)|(simp only [← hji143];first|rfl|(simp [errW_none,errW_some] <;> rfl))|(simp [*,errW_none,errW_some] <;> rfl),by repeat (first|(with_reducible first|exact HB.out|apply below_alloc|apply pw_below_drewN|apply below_drew1|refine below_set ?_ GE527.out|refine below_set ?_ GE570.out|refine below_set ?_ GE579.out|refine below_set ?_ GE589.out)|exact HB.out)⟩
    rw [if_neg c159] at H
    have c159b0 : decide (t581 < (rd t593 x37_8)) = false:=decide_eq_false c159
    clear c159
    as_aux_lemma =>
     have H':=Aside0.mk H
     clear H
     obtain ⟨Ao167,co167,eo167⟩:=R_slice HO_28.out
     subst eo167
     have p613 : 0 ≤ (x37_8 : Int):=od
     have q613 : x37_8 < (t590.length : Int):=od
     obtain ⟨ad613,e613,hx613_0⟩:=Kd.at_int (R_reads' HO_28.out).2.2 x37_8 p613 q613
     cases e613
     replace p613:=eq_true p613
     replace q613:=eq_true q613
     obtain ⟨Ao168,co168,eo168⟩:=R_slice HO_34.out
     subst eo168
     have p614 : 0 ≤ ((rd t590 x37_8) : Int):=od
     have q614 : (rd t590 x37_8) < (t606.length : Int):=od
     obtain ⟨ad614,e614,hx614_0⟩:=Kd.at_int (R_reads' HO_34.out).2.2 (rd t590 x37_8) p614 q614
     cases e614
     replace p614:=eq_true p614
     replace q614:=eq_true q614
     have p615 : 0 ≤ (x37_8 : Int):=od
     have q615 : x37_8 < (t590.length : Int):=od
     obtain ⟨ad615,e615,hx615_0⟩:=Kd.at_int (R_reads' HO_28.out).2.2 x37_8 p615 q615
     obtain rfl : ad613 = ad615:=(by injection e615)
     replace p615:=eq_true p615
     replace q615:=eq_true q615
     have p616 : 0 ≤ ((ji143) : Int):=od
     have q616 : (ji143) < (t590.length : Int):=od
     obtain ⟨ad616,e616,hx616_0⟩:=Kd.at_int (R_reads' HO_28.out).2.2 (ji143) p616 q616
     obtain rfl : ad613 = ad616:=(by injection e616)
     replace p616:=eq_true p616
     replace q616:=eq_true q616
     obtain ⟨Ao169,co169,eo169⟩:=R_slice HO_29.out
     subst eo169
     have p617 : 0 ≤ (x37_8 : Int):=od
     have q617 : x37_8 < (t593.length : Int):=od
     obtain ⟨ad617,e617,hx617_0⟩:=Kd.at_int (R_reads' HO_29.out).2.2 x37_8 p617 q617
     cases e617
     replace p617:=eq_true p617
     replace q617:=eq_true q617
     have p618 : 0 ≤ ((ji143) : Int):=od
     have q618 : (ji143) < (t593.length : Int):=od
     obtain ⟨ad618,e618,hx618_0⟩:=Kd.at_int (R_reads' HO_29.out).2.2 (ji143) p618 q618
     obtain rfl : ad617 = ad618:=(by injection e618)
     replace p618:=eq_true p618
     replace q618:=eq_true q618
     have p619 : 0 ≤ (x37_8 : Int):=od
     have q619 : x37_8 < (t593.length : Int):=od
     obtain ⟨ad619,e619,hx619_0⟩:=Kd.at_int (R_reads' HO_29.out).2.2 x37_8 p619 q619
     obtain rfl : ad617 = ad619:=(by injection e619)
     replace p619:=eq_true p619
     replace q619:=eq_true q619
     have p620 : 0 ≤ (x37_8 : Int):=od
     have q620 : x37_8 < (t593.length : Int):=od
     obtain ⟨ad620,e620,hx620_0⟩:=Kd.at_int (R_reads' HO_29.out).2.2 x37_8 p620 q620
     obtain rfl : ad617 = ad620:=(by injection e620)
     replace p620:=eq_true p620
     replace q620:=eq_true q620
     have hnb170:=NB589_527.out
     have hnc170:=NB527_589.out
     have hnb171:=NB589_570.out
     have hnc171:=NB570_589.out
     have hnb172:=NB589_579.out
     have hnc172:=NB579_589.out
     have hcz173_0:=bc BK589 0 rfl
     have hcz173_1:=bc BK589 1 rfl
     have hcz173_2:=bc BK589 2 rfl
     have hfz173_0:=bf BK589 0
     have hfz173_1:=bf BK589 1
     have hfz173_2:=bf BK589 2
     go_wp2
     repeat (go_quiet (fail);try go_wp2)
     go_roundg k8
     case measure=>have:=HJ6.out;have:=HJ36.out;have:=HJ49.out;have:=HJ59.out;have:=HJ69.out;have:=HJ98.out;have:=HJ124.out;have:=HK8.out;omega
     case rel=>exact ⟨(wrap64 (x37_8 + 1)),fd,H',⟨by have:=HJ6.out;have:=HJ36.out;have:=HJ49.out;have:=HJ59.out;have:=HJ69.out;have:=HJ98.out;have:=HJ124.out;have:=HK8.out;omega⟩,⟨rm HO_4.out⟩,⟨rm HO_5.out⟩,⟨rm HO_10.out⟩,⟨rm HO_28.out⟩,⟨rm HO_29.out⟩,⟨rm HO_34.out⟩,⟨rm HO_528001.out⟩,⟨rm HO_528002.out⟩,⟨rm HO_571001.out⟩,⟨rm HO_571002.out⟩,⟨rm HO_580001.out⟩,⟨rm HO_580002.out⟩,⟨rm HO_590001.out⟩,⟨rm HO_590002.out⟩,⟨bm BK527.out⟩,⟨bm BK570.out⟩,⟨bm BK579.out⟩,⟨bm BK589.out⟩,⟨by repeat (first|(with_reducible first|exact HB.out|apply below_alloc|apply pw_below_drewN|apply below_drew1|refine below_set ?_ GE527.out|refine below_set ?_ GE570.out|refine below_set ?_ GE579.out|refine below_set ?_ GE589.out)|exact HB.out)⟩⟩
 clear HC122
 try clear c1
 try clear p2
 try clear p6
 try clear q6
 try clear hx6
 try clear c12
 try clear c13
 try clear c14
 try clear c15
 try clear c16
 try clear c17
 try clear c18
 try clear c19
 try clear p61
 try clear q61
 try clear hx61
 try clear p62
 try clear q62
 try clear hx62
 try clear p64
 try clear c123
 try clear c135
 try clear c135b0
 try clear c136
 try clear c136b0
 try clear c137
 try clear c137b0
 try clear c138
 try clear c138b0
 try clear c139
 try clear c139b0
 try clear c142
 try clear c142b0
 try clear c144
 try clear c144b0
 try clear c145
 try clear c145b0
 try clear c146
 try clear c146b0
 try clear c149
 try clear c149b0
 try clear c150
 try clear c150b0
 try clear c151
 try clear c151b0
 try clear c155
 try clear c155b0
 try clear c159
 try clear c159b0
 try clear c163
 try clear c164
 try clear c165
 try clear c170
 try clear c171
 try clear c172
 try clear c174
 try clear c174b0
 try clear c175
 try clear c175b0
 try clear c179
 try clear c179b0
 try clear c183
 try clear c184
 try clear c185
 try clear c190
 try clear c191
 try clear c192
 try clear hcz166_0
 try clear hcz166_1
 try clear hcz166_2
 try clear hcz173_0
 try clear hcz173_1
 try clear hcz173_2
 try clear hcz186_0
 try clear hcz186_1
 try clear hcz186_2
 try clear hcz193_0
 try clear hcz193_1
 try clear hcz193_2
 try clear hfz166_0
 try clear hfz166_1
 try clear hfz166_2
 try clear hfz173_0
 try clear hfz173_1
 try clear hfz173_2
 try clear hfz186_0
 try clear hfz186_1
 try clear hfz186_2
 try clear hfz193_0
 try clear hfz193_1
 try clear hfz193_2
 try clear hfz61_2
 try clear hfz63_0
 try clear hfz63_1
 try clear hfz63_2
 try clear hfz71_0
 try clear hfz71_1
 try clear hfz71_2
 try clear hfz75_0
 try clear hfz75_1
 try clear hfz75_2
 try clear hfz78_0
 try clear hfz78_1
 try clear hfz78_2
 try clear hfz83_0
 try clear hfz83_1
 try clear hfz83_2
 try clear hfz91_0
 try clear hfz91_1
 try clear hfz91_2
 try clear hfz93_0
 try clear hfz93_1
 try clear hfz93_2
 try clear hx613_0
 try clear hx614_0
 try clear hx615_0
 try clear hx616_0
 try clear hx617_0
 try clear hx618_0
 try clear hx619_0
 try clear hx620_0
 try clear hx621_0
 try clear hx622_0
 try clear p2
 try clear p613
 try clear p614
 try clear p615
 try clear p616
 try clear p617
 try clear p618
 try clear p619
 try clear p620
 try clear p621
 try clear p622
 try clear q613
 try clear q614
 try clear q615
 try clear q616
 try clear q617
 try clear q618
 try clear q619
 try clear q620
 try clear q621
 try clear q622
 obtain ⟨kq,HA,HJ121,HO_4,HO_5,HO_10,HO_528001,HO_528002,HO_571001,HO_571002,HO_580001,HO_580002,HO_590001,HO_590002,BK527,BK570,BK579,BK589,HB⟩:=hcut
 cases kq with
 | zero=>exact absurd HA.out (by simp [laws_FnWires.j8])
 | succ kj121 =>
  have H:=HA.out
  clear HA
  simp only [laws_FnWires.j8] at H
  by_cases c195 : t534 = true
  rotate_left
  ·replace c195:=Bool.eq_false_iff.mpr c195
   subst c195
   rw [if_neg (show ¬ (false = true) by decide)] at H
   as_aux_lemma =>
    obtain rfl:=Option.some.inj H
    go_wp2
    repeat (go_quiet (fail);try go_wp2)
    go_ret
    exact ⟨fe,by repeat (first|(with_reducible first|exact HB.out|apply below_alloc|apply pw_below_drewN|apply below_drew1|refine below_set ?_ GE527.out|refine below_set ?_ GE570.out|refine below_set ?_ GE579.out|refine below_set ?_ GE589.out)|exact HB.out)⟩
  subst c195
  rw [if_pos rfl] at H
  exact laws_FnWires.rest8 (by assumption) GE527 HJ6 HJ36 HJ49 HJ59 GE570 NB527_570 NB570_527 GE579 NB527_579 NB579_527 NB570_579 NB579_570 HJ69 GE589 NB527_589 NB589_527 NB570_589 NB589_570 HJ98 HO_4 HO_5 HO_10 HO_528001 HO_528002 HO_571001 HO_571002 HO_580001 HO_580002 HO_590001 HO_590002 BK527 BK570 BK579 BK589 HB HJ121 H
end
end Go.Proofs.Ytciihopkgblpkaa.QFnWires
