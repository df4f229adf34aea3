/- Functions that the law FnWires comes to, and their walks: no condition but those named. -/
import Derived.Test.YtciihopkgblpkaaQFnWiresx0
import Derived.Test.YtciihopkgblpkaaQFnWiresx1
import Derived.Test.YtciihopkgblpkaaQFnWiresx3
import Derived.Test.YtciihopkgblpkaaQFnWiresx4
import Derived.Test.YtciihopkgblpkaaQFnWiresx5
import Derived.Test.YtciihopkgblpkaaQFnWiresx6
import Derived.Test.YtciihopkgblpkaaQFnWiresx7
import Derived.Test.YtciihopkgblpkaaQFnWiresx9
import Derived.Test.YtciihopkgblpkaaQFnWiresx10
import Derived.Test.YtciihopkgblpkaaQFnWiresx11
import Derived.Test.YtciihopkgblpkaaQFnWiresx14
import Derived.Test.YtciihopkgblpkaaQFnWiresx15
namespace Go.Proofs.Ytciihopkgblpkaa.QFnWires
open Go.RowKit Go.Proofs.YtciihopkgblpkaaW.PrintWords Go.Proofs.YtciihopkgblpkaaW.PrintLast Go.Proofs.YtciihopkgblpkaaW.PrintMore Go.Proofs.Ytciihopkgblpkaa.Short
attribute [local go_sem] max2_int min2_int max_two min_two max_three min_three max_four min_four
set_option linter.unusedVariables false
set_option linter.unusedSimpArgs false

section
open Kd
set_option maxHeartbeats 8000000 in
set_option maxRecDepth 1000000 in
theorem laws_FnWires.rest8 {k : Nat} {A0 : Option Addr} {c0 : Nat} {l0 : List Int} {r : Bool} {w : World} {t520 : Int} {t521 t524 t528 t531 : List Int} {t541 : Bool} {gb527 : Nat} {Ao11 : Option Addr} {co11 : Nat} {Ao12 : Option Addr} {co12 : Nat} {v529 v532 v536 v539 : Value} {kj6 : Nat} {t545 : List Int} {t548 t552 : Bool} {v546 v550 : Value} {kj36 : Nat} {t554 : Int} {t555 : Bool} {t556 : Int} {t557 : Bool} {kj49 : Nat} {t558 : Int} {t559 : Bool} {t560 : Int} {t561 : Bool} {kj59 : Nat} {t562 : Int} {t563 t566 : List Int} {t569 : Bool} {t571 : Int} {t572 t575 : List Int} {t578 : Bool} {gb570 : Nat} {Ao76 : Option Addr} {co76 : Nat} {Ao77 : Option Addr} {co77 gb579 : Nat} {Ao84 : Option Addr} {co84 : Nat} {Ao85 : Option Addr} {co85 kj69 : Nat} {t581 : Int} {t582 t585 : List Int} {t588 : Int} {t596 t603 : Bool} {gb589 : Nat} {Ao106 : Option Addr} {co106 : Nat} {Ao107 : Option Addr} {co107 : Nat} {v591 v594 v598 v601 : Value} {kj98 : Nat} {wc : World} {u2 u34 u35 u36 u37 u47 u48 u49 u50 u51 u52 u53 u54 u55 u56 u57 u58 u59 u60 u61 u62 u63 u64 u65 u66 u67 u68 u69 u70 u71 u72 u73 u74 u75 u76 u77 u78 u79 u80 u81 u82 u83 u84 u85 u86 u87 u88 u89 u90 u91 u92 u93 u94 u95 u96 u97 u98 u99 u100 u101 u102 u103 u104 u105 u106 u107 u108 u109 u110 u111 u112 u113 u114 u115 u116 u117 u118 u119 u120 u121 u122 u123 u124 u125 u126 u127 u128 u129 u130 u131 u132 u133 u134 u135 u136 u137 u138 u139 u140 u141 u142 u143 u144 u145 u146 u147 u148 u149 u150 u151 u152 u153 u154 u155 u156 u157 u158 u159 u160 u161 u162 u163 u164 u165 u166 u167 u168 u169 u170 u171 u172 u173 u174 u175 u176 u177 u178 u179 u180 u181 u182 u183 u184 u185 u186 u187 u188 u189 u190 u191 u192 u193 u194 u195 u196 u197 u198 u199 u200 u201 u202 u203 u204 u205 u206 u207 u208 u209 u210 u211 u212 u213 u214 u215 u216 u217 u218 u219 u220 u221 u222 u223 u224 u225 u226 u227 u228 u229 u230 u231 u232 u233 u234 u235 u236 u237 u238 u239 u240 u241 u242 u243 u244 u245 u246 u247 u248 u249 u250 u251 u252 u253 u254 u255 u256 u257 u258 u259 u260 u261 u262 u263 u264 u265 u266 u267 u268 u269 u270 u271 u272 u273 u274 u275 u276 u277 u278 u279 u280 u281 u282 u283 u284 u285 u286 u287 u288 u289 u290 u291 u292 u293 u294 u295 u296 u297 u298 u299 u300 u301 u302 u303 u304 u305 u306 u307 u308 u309 u310 u311 u312 u313 u314 u315 u316 u317 u318 u319 u320 u321 u322 u323 u324 u325 u326 u327 u328 u329 u330 u331 u332 u333 u334 u335 u336 u337 u338 u339 u340 u341 u342 u343 u344 u345 u346 u347 u348 u349 u350 u351 u352 u353 u354 u355 u356 u357 u358 u359 u360 u361 u362 u363 u364 u365 u366 u367 u368 u369 u370 u371 u372 u373 u374 u375 u376 u377 u378 u379 u380 u381 : Value} {kj121 : Nat} {K : Act → World → Prop} (hK : ∀ a w_, Code.wp Try.prog (follow [true, true, true, true, true, true, true, true, true, true, true, true, true, true, true, true, true] (Try.f10.body.getD Code.skip)) (bodyPost Try.prog Try.f10 fun e w' => e = Ending.returned (Value.bool r) ∧ Below w.heap.size w w') a w_ → K a w_) (GE527 : Aside0 (w.heap.size ≤ gb527)) (HJ6 : Aside0 (kj6 + 1 ≤ k)) (HJ36 : Aside0 (kj36 + 1 ≤ kj6)) (HJ49 : Aside0 (kj49 + 1 ≤ kj36)) (HJ59 : Aside0 (kj59 + 1 ≤ kj49)) (GE570 : Aside0 (w.heap.size ≤ gb570)) (NB527_570 : Aside0 (gb527 ≠ gb570)) (NB570_527 : Aside0 (gb570 ≠ gb527)) (GE579 : Aside0 (w.heap.size ≤ gb579)) (NB527_579 : Aside0 (gb527 ≠ gb579)) (NB579_527 : Aside0 (gb579 ≠ gb527)) (NB570_579 : Aside0 (gb570 ≠ gb579)) (NB579_570 : Aside0 (gb579 ≠ gb570)) (HJ69 : Aside0 (kj69 + 1 ≤ kj59)) (GE589 : Aside0 (w.heap.size ≤ gb589)) (NB527_589 : Aside0 (gb527 ≠ gb589)) (NB589_527 : Aside0 (gb589 ≠ gb527)) (NB570_589 : Aside0 (gb570 ≠ gb589)) (NB589_570 : Aside0 (gb589 ≠ gb570)) (HJ98 : Aside0 (kj98 + 1 ≤ kj69)) (HO_4 : Aside0 ((int IntKind.i64).R 3 wc w.heap.size (fun k_ => ob k_ v532 ∧ ob k_ v546 ∧ ob k_ (.slice Ao11 t521.length co11) ∧ ob k_ (.slice Ao12 t524.length co12) ∧ ob k_ (.slice Ao76 t563.length co76) ∧ ob k_ (.slice Ao77 t566.length co77) ∧ ob k_ (.slice Ao84 t572.length co84) ∧ ob k_ (.slice Ao85 t575.length co85) ∧ ob k_ (.slice Ao106 t582.length co106) ∧ ob k_ (.slice Ao107 t585.length co107)) v529 t528)) (HO_5 : Aside0 ((int IntKind.i64).R 3 wc w.heap.size (fun k_ => ob k_ v529 ∧ ob k_ v546 ∧ ob k_ (.slice Ao11 t521.length co11) ∧ ob k_ (.slice Ao12 t524.length co12) ∧ ob k_ (.slice Ao76 t563.length co76) ∧ ob k_ (.slice Ao77 t566.length co77) ∧ ob k_ (.slice Ao84 t572.length co84) ∧ ob k_ (.slice Ao85 t575.length co85) ∧ ob k_ (.slice Ao106 t582.length co106) ∧ ob k_ (.slice Ao107 t585.length co107)) v532 t531)) (HO_10 : Aside0 ((int IntKind.i64).R 3 wc w.heap.size (fun k_ => ob k_ v529 ∧ ob k_ v532 ∧ ob k_ (.slice Ao11 t521.length co11) ∧ ob k_ (.slice Ao12 t524.length co12) ∧ ob k_ (.slice Ao76 t563.length co76) ∧ ob k_ (.slice Ao77 t566.length co77) ∧ ob k_ (.slice Ao84 t572.length co84) ∧ ob k_ (.slice Ao85 t575.length co85) ∧ ob k_ (.slice Ao106 t582.length co106) ∧ ob k_ (.slice Ao107 t585.length co107)) v546 t545)) (HO_528001 : Aside0 ((int IntKind.i64).R 3 wc w.heap.size (fun k_ => ob k_ v529 ∧ ob k_ v532 ∧ ob k_ v546 ∧ ob k_ (.slice Ao12 t524.length co12) ∧ ob k_ (.slice Ao76 t563.length co76) ∧ ob k_ (.slice Ao77 t566.length co77) ∧ ob k_ (.slice Ao84 t572.length co84) ∧ ob k_ (.slice Ao85 t575.length co85) ∧ ob k_ (.slice Ao106 t582.length co106) ∧ ob k_ (.slice Ao107 t585.length co107)) (Value.slice Ao11 t521.length co11) t521)) (HO_528002 : Aside0 ((int IntKind.i64).R 3 wc w.heap.size (fun k_ => ob k_ v529 ∧ ob k_ v532 ∧ ob k_ v546 ∧ ob k_ (.slice Ao11 t521.length co11) ∧ ob k_ (.slice Ao76 t563.length co76) ∧ ob k_ (.slice Ao77 t566.length co77) ∧ ob k_ (.slice Ao84 t572.length co84) ∧ ob k_ (.slice Ao85 t575.length co85) ∧ ob k_ (.slice Ao106 t582.length co106) ∧ ob k_ (.slice Ao107 t585.length co107)) (Value.slice Ao12 t524.length co12) t524)) (HO_571001 : Aside0 ((int IntKind.i64).R 3 wc w.heap.size (fun k_ => ob k_ v529 ∧ ob k_ v532 ∧ ob k_ v546 ∧ ob k_ (.slice Ao11 t521.length co11) ∧ ob k_ (.slice Ao12 t524.length co12) ∧ ob k_ (.slice Ao77 t566.length co77) ∧ ob k_ (.slice Ao84 t572.length co84) ∧ ob k_ (.slice Ao85 t575.length co85) ∧ ob k_ (.slice Ao106 t582.length co106) ∧ ob k_ (.slice Ao107 t585.length co107)) (Value.slice Ao76 t563.length co76) t563)) (HO_571002 : Aside0 ((int IntKind.i64).R 3 wc w.heap.size (fun k_ => ob k_ v529 ∧ ob k_ v532 ∧ ob k_ v546 ∧ ob k_ (.slice Ao11 t521.length co11) ∧ ob k_ (.slice Ao12 t524.length co12) ∧ ob k_ (.slice Ao76 t563.length co76) ∧ ob k_ (.slice Ao84 t572.length co84) ∧ ob k_ (.slice Ao85 t575.length co85) ∧ ob k_ (.slice Ao106 t582.length co106) ∧ ob k_ (.slice Ao107 t585.length co107)) (Value.slice Ao77 t566.length co77) t566)) (HO_580001 : Aside0 ((int IntKind.i64).R 3 wc w.heap.size (fun k_ => ob k_ v529 ∧ ob k_ v532 ∧ ob k_ v546 ∧ ob k_ (.slice Ao11 t521.length co11) ∧ ob k_ (.slice Ao12 t524.length co12) ∧ ob k_ (.slice Ao76 t563.length co76) ∧ ob k_ (.slice Ao77 t566.length co77) ∧ ob k_ (.slice Ao85 t575.length co85) ∧ ob k_ (.slice Ao106 t582.length co106) ∧ ob k_ (.slice Ao107 t585.length co107)) (Value.slice Ao84 t572.length co84) t572)) (HO_580002 : Aside0 ((int IntKind.i64).R 3 wc w.heap.size (fun k_ => ob k_ v529 ∧ ob k_ v532 ∧ ob k_ v546 ∧ ob k_ (.slice Ao11 t521.length co11) ∧ ob k_ (.slice Ao12 t524.length co12) ∧ ob k_ (.slice Ao76 t563.length co76) ∧ ob k_ (.slice Ao77 t566.length co77) ∧ ob k_ (.slice Ao84 t572.length co84) ∧ ob k_ (.slice Ao106 t582.length co106) ∧ ob k_ (.slice Ao107 t585.length co107)) (Value.slice Ao85 t575.length co85) t575)) (HO_590001 : Aside0 ((int IntKind.i64).R 3 wc w.heap.size (fun k_ => ob k_ v529 ∧ ob k_ v532 ∧ ob k_ v546 ∧ ob k_ (.slice Ao11 t521.length co11) ∧ ob k_ (.slice Ao12 t524.length co12) ∧ ob k_ (.slice Ao76 t563.length co76) ∧ ob k_ (.slice Ao77 t566.length co77) ∧ ob k_ (.slice Ao84 t572.length co84) ∧ ob k_ (.slice Ao85 t575.length co85) ∧ ob k_ (.slice Ao107 t585.length co107)) (Value.slice Ao106 t582.length co106) t582)) (HO_590002 : Aside0 ((int IntKind.i64).R 3 wc w.heap.size (fun k_ => ob k_ v529 ∧ ob k_ v532 ∧ ob k_ v546 ∧ ob k_ (.slice Ao11 t521.length co11) ∧ ob k_ (.slice Ao12 t524.length co12) ∧ ob k_ (.slice Ao76 t563.length co76) ∧ ob k_ (.slice Ao77 t566.length co77) ∧ ob k_ (.slice Ao84 t572.length co84) ∧ ob k_ (.slice Ao85 t575.length co85) ∧ ob k_ (.slice Ao106 t582.length co106)) (Value.slice Ao107 t585.length co107) t585)) (BK527 : Aside0 (wc.heap[gb527]? = some (Obj.cells #[Value.int IntKind.i64 t520, Value.slice Ao11 t521.length co11, Value.slice Ao12 t524.length co12] 27))) (BK570 : Aside0 (wc.heap[gb570]? = some (Obj.cells #[Value.int IntKind.i64 t562, Value.slice Ao76 t563.length co76, Value.slice Ao77 t566.length co77] 27))) (BK579 : Aside0 (wc.heap[gb579]? = some (Obj.cells #[Value.int IntKind.i64 t571, Value.slice Ao84 t572.length co84, Value.slice Ao85 t575.length co85] 27))) (BK589 : Aside0 (wc.heap[gb589]? = some (Obj.cells #[Value.int IntKind.i64 t581, Value.slice Ao106 t582.length co106, Value.slice Ao107 t585.length co107] 27))) (HB : Aside0 (Below w.heap.size w wc)) (HJ121 : Aside0 (kj121 + 1 ≤ kj98)) (H : l1 kj121 t528 t531 t545 t554 t558 0 0 0 t520 t521 t524 t562 t563 t566 = some r) :
  K { tmps := #[Value.slice A0 l0.length c0, undef, u2, Value.pointer (some { block := gb527, off := 0 }), v529, v532, Value.bool true, v536, v539, Value.bool t541, v546, Value.bool t548, v550, Value.bool t552, Value.int IntKind.i64 t554, Value.bool t555, Value.int IntKind.i64 t556, Value.bool t557, Value.int IntKind.i64 t558, Value.bool t559, Value.int IntKind.i64 t560, Value.bool t561, Value.pointer (some { block := gb570, off := 0 }), Value.bool t569, Value.pointer (some { block := gb579, off := 0 }), Value.bool t578, Value.pointer (some { block := gb589, off := 0 }), Value.int IntKind.i64 t588, v591, v594, Value.bool t596, v598, v601, Value.bool t603, u34, u35, u36, u37, undef, undef, undef, undef, undef, undef, undef, undef, undef, u47, u48, u49, u50, u51, u52, u53, u54, u55, u56, u57, u58, u59, u60, u61, u62, u63, u64, u65, u66, u67, u68, u69, u70, u71, u72, u73, u74, u75, u76, u77, u78, u79, u80, u81, u82, u83, u84, u85, u86, u87, u88, u89, u90, u91, u92, u93, u94, u95, u96, u97, u98, u99, u100, u101, u102, u103, u104, u105, u106, u107, u108, u109, u110, u111, u112, u113, u114, u115, u116, u117, u118, u119, u120, u121, u122, u123, u124, u125, u126, u127, u128, u129, u130, u131, u132, u133, u134, u135, u136, u137, u138, u139, u140, u141, u142, u143, u144, u145, u146, u147, u148, u149, u150, u151, u152, u153, u154, u155, u156, u157, u158, u159, u160, u161, u162, u163, u164, u165, u166, u167, u168, u169, u170, u171, u172, u173, u174, u175, u176, u177, u178, u179, u180, u181, u182, u183, u184, u185, u186, u187, u188, u189, u190, u191, u192, u193, u194, u195, u196, u197, u198, u199, u200, u201, u202, u203, u204, u205, u206, u207, u208, u209, u210, u211, u212, u213, u214, u215, u216, u217, u218, u219, u220, u221, u222, u223, u224, u225, u226, u227, u228, u229, u230, u231, u232, u233, u234, u235, u236, u237, u238, u239, u240, u241, u242, u243, u244, u245, u246, u247, u248, u249, u250, u251, u252, u253, u254, u255, u256, u257, u258, u259, u260, u261, u262, u263, u264, u265, u266, u267, u268, u269, u270, u271, u272, u273, u274, u275, u276, u277, u278, u279, u280, u281, u282, u283, u284, u285, u286, u287, u288, u289, u290, u291, u292, u293, u294, u295, u296, u297, u298, u299, u300, u301, u302, u303, u304, u305, u306, u307, u308, u309, u310, u311, u312, u313, u314, u315, u316, u317, u318, u319, u320, u321, u322, u323, u324, u325, u326, u327, u328, u329, u330, u331, u332, u333, u334, u335, u336, u337, u338, u339, u340, u341, u342, u343, u344, u345, u346, u347, u348, u349, u350, u351, u352, u353, u354, u355, u356, u357, u358, u359, u360, u361, u362, u363, u364, u365, u366, u367, u368, u369, u370, u371, u372, u373, u374, u375, u376, u377, u378, u379, u380, u381], defers := [] } wc := by
 have hu27:=Try.underlying27
 conv at hK => enter [a, w_, 1, 2]; whnf
 have H':=Aside0.mk H
 clear H
 go_wp2
 go_loopg [38,39,40] kj121 (fun kq v38 v39 v40 w'=>∃ (x38_8 : Int) (x39_8 : Int) (x40_8 : Int),v38 = .int .i64 x38_8 ∧ v39 = .int .i64 x39_8 ∧ v40 = .int .i64 x40_8 ∧ Aside0 (laws_FnWires.l1 kq t528 t531 t545 t554 t558 x38_8 x39_8 x40_8 t520 t521 t524 t562 t563 t566 = some r) ∧ Aside0 (kq ≤ kj121) ∧ Aside0 (Kd.R (Kd.int .i64) 3 w' w.heap.size (fun k_=>ob k_ v532 ∧ ob k_ v546 ∧ ob k_ (.slice Ao11 t521.length co11) ∧ ob k_ (.slice Ao12 t524.length co12) ∧ ob k_ (.slice Ao76 t563.length co76) ∧ ob k_ (.slice Ao77 t566.length co77) ∧ ob k_ (.slice Ao84 t572.length co84) ∧ ob k_ (.slice Ao85 t575.length co85) ∧ ob k_ (.slice Ao106 t582.length co106) ∧ ob k_ (.slice Ao107 t585.length co107)) v529 t528) ∧ Aside0 (Kd.R (Kd.int .i64) 3 w' w.heap.size (fun k_=>ob k_ v529 ∧ ob k_ v546 ∧ ob k_ (.slice Ao11 t521.length co11) ∧ ob k_ (.slice Ao12 t524.length co12) ∧ ob k_ (.slice Ao76 t563.length co76) ∧ ob k_ (.slice Ao77 t566.length co77) ∧ ob k_ (.slice Ao84 t572.length co84) ∧ ob k_ (.slice Ao85 t575.length co85) ∧ ob k_ (.slice Ao106 t582.length co106) ∧ ob k_ (.slice Ao107 t585.length co107)) v532 t531) ∧ Aside0 (Kd.R (Kd.int .i64) 3 w' w.heap.size (fun k_=>ob k_ v529 ∧ ob k_ v532 ∧ ob k_ (.slice Ao11 t521.length co11) ∧ ob k_ (.slice Ao12 t524.length co12) ∧ ob k_ (.slice Ao76 t563.length co76) ∧ ob k_ (.slice Ao77 t566.length co77) ∧ ob k_ (.slice Ao84 t572.length co84) ∧ ob k_ (.slice Ao85 t575.length co85) ∧ ob k_ (.slice Ao106 t582.length co106) ∧ ob k_ (.slice Ao107 t585.length co107)) v546 t545) ∧ Aside0 (Kd.R (Kd.int .i64) 3 w' w.heap.size (fun k_=>ob k_ v529 ∧ ob k_ v532 ∧ ob k_ v546 ∧ ob k_ (.slice Ao12 t524.length co12) ∧ ob k_ (.slice Ao76 t563.length co76) ∧ ob k_ (.slice Ao77 t566.length co77) ∧ ob k_ (.slice Ao84 t572.length co84) ∧ ob k_ (.slice Ao85 t575.length co85) ∧ ob k_ (.slice Ao106 t582.length co106) ∧ ob k_ (.slice Ao107 t585.length co107)) (.slice Ao11 t521.length co11) t521) ∧ Aside0 (Kd.R (Kd.int .i64) 3 w' w.heap.size (fun k_=>ob k_ v529 ∧ ob k_ v532 ∧ ob k_ v546 ∧ ob k_ (.slice Ao11 t521.length co11) ∧ ob k_ (.slice Ao76 t563.length co76) ∧ ob k_ (.slice Ao77 t566.length co77) ∧ ob k_ (.slice Ao84 t572.length co84) ∧ ob k_ (.slice Ao85 t575.length co85) ∧ ob k_ (.slice Ao106 t582.length co106) ∧ ob k_ (.slice Ao107 t585.length co107)) (.slice Ao12 t524.length co12) t524) ∧ Aside0 (Kd.R (Kd.int .i64) 3 w' w.heap.size (fun k_=>ob k_ v529 ∧ ob k_ v532 ∧ ob k_ v546 ∧ ob k_ (.slice Ao11 t521.length co11) ∧ ob k_ (.slice Ao12 t524.length co12) ∧ ob k_ (.slice Ao77 t566.length co77) ∧ ob k_ (.slice Ao84 t572.length co84) ∧ ob k_ (.slice Ao85 t575.length co85) ∧ ob k_ (.slice Ao106 t582.length co106) ∧ ob k_ (.slice Ao107 t585.length co107)) (.slice Ao76 t563.length co76) t563) ∧ Aside0 (Kd.R (Kd.int .i64) 3 w' w.heap.size (fun k_=>ob k_ v529 ∧ ob k_ v532 ∧ ob k_ v546 ∧ ob k_ (.slice Ao11 t521.length co11) ∧ ob k_ (.slice Ao12 t524.length co12) ∧ ob k_ (.slice Ao76 t563.length co76) ∧ ob k_ (.slice Ao84 t572.length co84) ∧ ob k_ (.slice Ao85 t575.length co85) ∧ ob k_ (.slice Ao106 t582.length co106) ∧ ob k_ (.slice Ao107 t585.length co107)) (.slice Ao77 t566.length co77) t566) ∧ Aside0 (Kd.R (Kd.int .i64) 3 w' w.heap.size (fun k_=>ob k_ v529 ∧ ob k_ v532 ∧ ob k_ v546 ∧ ob k_ (.slice Ao11 t521.length co11) ∧ ob k_ (.slice Ao12 t524.length co12) ∧ ob k_ (.slice Ao76 t563.length co76) ∧ ob k_ (.slice Ao77 t566.length co77) ∧ ob k_ (.slice Ao85 t575.length co85) ∧ ob k_ (.slice Ao106 t582.length co106) ∧ ob k_ (.slice Ao107 t585.length co107)) (.slice Ao84 t572.length co84) t572) ∧ Aside0 (Kd.R (Kd.int .i64) 3 w' w.heap.size (fun k_=>ob k_ v529 ∧ ob k_ v532 ∧ ob k_ v546 ∧ ob k_ (.slice Ao11 t521.length co11) ∧ ob k_ (.slice Ao12 t524.length co12) ∧ ob k_ (.slice Ao76 t563.length co76) ∧ ob k_ (.slice Ao77 t566.length co77) ∧ ob k_ (.slice Ao84 t572.length co84) ∧ ob k_ (.slice Ao106 t582.length co106) ∧ ob k_ (.slice Ao107 t585.length co107)) (.slice Ao85 t575.length co85) t575) ∧ Aside0 (Kd.R (Kd.int .i64) 3 w' w.heap.size (fun k_=>ob k_ v529 ∧ ob k_ v532 ∧ ob k_ v546 ∧ ob k_ (.slice Ao11 t521.length co11) ∧ ob k_ (.slice Ao12 t524.length co12) ∧ ob k_ (.slice Ao76 t563.length co76) ∧ ob k_ (.slice Ao77 t566.length co77) ∧ ob k_ (.slice Ao84 t572.length co84) ∧ ob k_ (.slice Ao85 t575.length co85) ∧ ob k_ (.slice Ao107 t585.length co107)) (.slice Ao106 t582.length co106) t582) ∧ Aside0 (Kd.R (Kd.int .i64) 3 w' w.heap.size (fun k_=>ob k_ v529 ∧ ob k_ v532 ∧ ob k_ v546 ∧ ob k_ (.slice Ao11 t521.length co11) ∧ ob k_ (.slice Ao12 t524.length co12) ∧ ob k_ (.slice Ao76 t563.length co76) ∧ ob k_ (.slice Ao77 t566.length co77) ∧ ob k_ (.slice Ao84 t572.length co84) ∧ ob k_ (.slice Ao85 t575.length co85) ∧ ob k_ (.slice Ao106 t582.length co106)) (.slice Ao107 t585.length co107) t585) ∧ Aside0 (w'.heap[gb527]? = some (.cells #[.int .i64 t520,(.slice Ao11 t521.length co11),(.slice Ao12 t524.length co12)] 27 (0,0))) ∧ Aside0 (w'.heap[gb570]? = some (.cells #[.int .i64 t562,(.slice Ao76 t563.length co76),(.slice Ao77 t566.length co77)] 27 (0,0))) ∧ Aside0 (w'.heap[gb579]? = some (.cells #[.int .i64 t571,(.slice Ao84 t572.length co84),(.slice Ao85 t575.length co85)] 27 (0,0))) ∧ Aside0 (w'.heap[gb589]? = some (.cells #[.int .i64 t581,(.slice Ao106 t582.length co106),(.slice Ao107 t585.length co107)] 27 (0,0))) ∧ Aside0 (Below w.heap.size w w'))
 case atStart=>exact ⟨(0),(0),(0),fd,fd,fd,H',⟨Nat.le_refl _⟩,⟨rm HO_4.out⟩,⟨rm HO_5.out⟩,⟨rm HO_10.out⟩,⟨rm HO_528001.out⟩,⟨rm HO_528002.out⟩,⟨rm HO_571001.out⟩,⟨rm HO_571002.out⟩,⟨rm HO_580001.out⟩,⟨rm HO_580002.out⟩,⟨rm HO_590001.out⟩,⟨rm HO_590002.out⟩,⟨bm BK527.out⟩,⟨bm BK570.out⟩,⟨bm BK579.out⟩,⟨bm BK589.out⟩,⟨by repeat ((with_reducible first|exact HB.out|apply below_alloc|apply pw_below_drewN|apply below_drew1|refine below_set ?_ GE527.out|refine below_set ?_ GE570.out|refine below_set ?_ GE579.out|refine below_set ?_ GE589.out))⟩⟩
 clear H'
 obtain ⟨x38_8,x39_8,x40_8,rfl,rfl,rfl,HA,HK8,HO_4,HO_5,HO_10,HO_528001,HO_528002,HO_571001,HO_571002,HO_580001,HO_580002,HO_590001,HO_590002,BK527,BK570,BK579,BK589,HB⟩:=hrel
 cases gk with
 | zero=>exact absurd HA.out (by simp [laws_FnWires.l1])
 | succ k8 =>
  have H:=HA.out
  clear HA
  simp only [laws_FnWires.l1] at H
  by_cases c196 : x40_8 < (t528.length : Int)
  ·rw [if_pos c196] at H
   have c196b0 : decide (x40_8 < (t528.length : Int)) = true:=decide_eq_true c196
   clear c196
   have HC197:=Aside0.mk H
   clear H
   obtain ⟨Ao198,co198,eo198⟩:=R_slice HO_4.out
   subst eo198
   go_upto_region 44 with (fail)
   go_cut [308] (fun v308 wc=>∃ (kq : Nat) (x308_196 : Bool),v308 = .bool x308_196 ∧ Aside0 (laws_FnWires.j10 kq t528 t531 t545 t554 t558 x38_8 x39_8 x40_8 x308_196 t520 t521 t524 t562 t563 t566 = some r) ∧ Aside0 (kq ≤ k8) ∧ Aside0 (Kd.R (Kd.int .i64) 3 wc w.heap.size (fun k_=>ob k_ v532 ∧ ob k_ v546 ∧ ob k_ (.slice Ao11 t521.length co11) ∧ ob k_ (.slice Ao12 t524.length co12) ∧ ob k_ (.slice Ao76 t563.length co76) ∧ ob k_ (.slice Ao77 t566.length co77) ∧ ob k_ (.slice Ao84 t572.length co84) ∧ ob k_ (.slice Ao85 t575.length co85) ∧ ob k_ (.slice Ao106 t582.length co106) ∧ ob k_ (.slice Ao107 t585.length co107)) (.slice Ao198 t528.length co198) t528) ∧ Aside0 (Kd.R (Kd.int .i64) 3 wc w.heap.size (fun k_=>ob k_ (.slice Ao198 t528.length co198) ∧ ob k_ v546 ∧ ob k_ (.slice Ao11 t521.length co11) ∧ ob k_ (.slice Ao12 t524.length co12) ∧ ob k_ (.slice Ao76 t563.length co76) ∧ ob k_ (.slice Ao77 t566.length co77) ∧ ob k_ (.slice Ao84 t572.length co84) ∧ ob k_ (.slice Ao85 t575.length co85) ∧ ob k_ (.slice Ao106 t582.length co106) ∧ ob k_ (.slice Ao107 t585.length co107)) v532 t531) ∧ Aside0 (Kd.R (Kd.int .i64) 3 wc w.heap.size (fun k_=>ob k_ (.slice Ao198 t528.length co198) ∧ ob k_ v532 ∧ ob k_ (.slice Ao11 t521.length co11) ∧ ob k_ (.slice Ao12 t524.length co12) ∧ ob k_ (.slice Ao76 t563.length co76) ∧ ob k_ (.slice Ao77 t566.length co77) ∧ ob k_ (.slice Ao84 t572.length co84) ∧ ob k_ (.slice Ao85 t575.length co85) ∧ ob k_ (.slice Ao106 t582.length co106) ∧ ob k_ (.slice Ao107 t585.length co107)) v546 t545) ∧ Aside0 (Kd.R (Kd.int .i64) 3 wc w.heap.size (fun k_=>ob k_ (.slice Ao198 t528.length co198) ∧ ob k_ v532 ∧ ob k_ v546 ∧ ob k_ (.slice Ao12 t524.length co12) ∧ ob k_ (.slice Ao76 t563.length co76) ∧ ob k_ (.slice Ao77 t566.length co77) ∧ ob k_ (.slice Ao84 t572.length co84) ∧ ob k_ (.slice Ao85 t575.length co85) ∧ ob k_ (.slice Ao106 t582.length co106) ∧ ob k_ (.slice Ao107 t585.length co107)) (.slice Ao11 t521.length co11) t521) ∧ Aside0 (Kd.R (Kd.int .i64) 3 wc w.heap.size (fun k_=>ob k_ (.slice Ao198 t528.length co198) ∧ ob k_ v532 ∧ ob k_ v546 ∧ ob k_ (.slice Ao11 t521.length co11) ∧ ob k_ (.slice Ao76 t563.length co76) ∧ ob k_ (.slice Ao77 t566.length co77) ∧ ob k_ (.slice Ao84 t572.length co84) ∧ ob k_ (.slice Ao85 t575.length co85) ∧ ob k_ (.slice Ao106 t582.length co106) ∧ ob k_ (.slice Ao107 t585.length co107)) (.slice Ao12 t524.length co12) t524) ∧ Aside0 (Kd.R (Kd.int .i64) 3 wc w.heap.size (fun k_=>ob k_ (.slice Ao198 t528.length co198) ∧ ob k_ v532 ∧ ob k_ v546 ∧ ob k_ (.slice Ao11 t521.length co11) ∧ ob k_ (.slice Ao12 t524.length co12) ∧ ob k_ (.slice Ao77 t566.length co77) ∧ ob k_ (.slice Ao84 t572.length co84) ∧ ob k_ (.slice Ao85 t575.length co85) ∧ ob k_ (.slice Ao106 t582.length co106) ∧ ob k_ (.slice Ao107 t585.length co107)) (.slice Ao76 t563.length co76) t563) ∧ Aside0 (Kd.R (Kd.int .i64) 3 wc w.heap.size (fun k_=>ob k_ (.slice Ao198 t528.length co198) ∧ ob k_ v532 ∧ ob k_ v546 ∧ ob k_ (.slice Ao11 t521.length co11) ∧ ob k_ (.slice Ao12 t524.length co12) ∧ ob k_ (.slice Ao76 t563.length co76) ∧ ob k_ (.slice Ao84 t572.length co84) ∧ ob k_ (.slice Ao85 t575.length co85) ∧ ob k_ (.slice Ao106 t582.length co106) ∧ ob k_ (.slice Ao107 t585.length co107)) (.slice Ao77 t566.length co77) t566) ∧ Aside0 (Kd.R (Kd.int .i64) 3 wc w.heap.size (fun k_=>ob k_ (.slice Ao198 t528.length co198) ∧ ob k_ v532 ∧ ob k_ v546 ∧ ob k_ (.slice Ao11 t521.length co11) ∧ ob k_ (.slice Ao12 t524.length co12) ∧ ob k_ (.slice Ao76 t563.length co76) ∧ ob k_ (.slice Ao77 t566.length co77) ∧ ob k_ (.slice Ao85 t575.length co85) ∧ ob k_ (.slice Ao106 t582.length co106) ∧ ob k_ (.slice Ao107 t585.length co107)) (.slice Ao84 t572.length co84) t572) ∧ Aside0 (Kd.R (Kd.int .i64) 3 wc w.heap.size (fun k_=>ob k_ (.slice Ao198 t528.length co198) ∧ ob k_ v532 ∧ ob k_ v546 ∧ ob k_ (.slice Ao11 t521.length co11) ∧ ob k_ (.slice Ao12 t524.length co12) ∧ ob k_ (.slice Ao76 t563.length co76) ∧ ob k_ (.slice Ao77 t566.length co77) ∧ ob k_ (.slice Ao84 t572.length co84) ∧ ob k_ (.slice Ao106 t582.length co106) ∧ ob k_ (.slice Ao107 t585.length co107)) (.slice Ao85 t575.length co85) t575) ∧ Aside0 (Kd.R (Kd.int .i64) 3 wc w.heap.size (fun k_=>ob k_ (.slice Ao198 t528.length co198) ∧ ob k_ v532 ∧ ob k_ v546 ∧ ob k_ (.slice Ao11 t521.length co11) ∧ ob k_ (.slice Ao12 t524.length co12) ∧ ob k_ (.slice Ao76 t563.length co76) ∧ ob k_ (.slice Ao77 t566.length co77) ∧ ob k_ (.slice Ao84 t572.length co84) ∧ ob k_ (.slice Ao85 t575.length co85) ∧ ob k_ (.slice Ao107 t585.length co107)) (.slice Ao106 t582.length co106) t582) ∧ Aside0 (Kd.R (Kd.int .i64) 3 wc w.heap.size (fun k_=>ob k_ (.slice Ao198 t528.length co198) ∧ ob k_ v532 ∧ ob k_ v546 ∧ ob k_ (.slice Ao11 t521.length co11) ∧ ob k_ (.slice Ao12 t524.length co12) ∧ ob k_ (.slice Ao76 t563.length co76) ∧ ob k_ (.slice Ao77 t566.length co77) ∧ ob k_ (.slice Ao84 t572.length co84) ∧ ob k_ (.slice Ao85 t575.length co85) ∧ ob k_ (.slice Ao106 t582.length co106)) (.slice Ao107 t585.length co107) t585) ∧ Aside0 (wc.heap[gb527]? = some (.cells #[.int .i64 t520,(.slice Ao11 t521.length co11),(.slice Ao12 t524.length co12)] 27 (0,0))) ∧ Aside0 (wc.heap[gb570]? = some (.cells #[.int .i64 t562,(.slice Ao76 t563.length co76),(.slice Ao77 t566.length co77)] 27 (0,0))) ∧ Aside0 (wc.heap[gb579]? = some (.cells #[.int .i64 t571,(.slice Ao84 t572.length co84),(.slice Ao85 t575.length co85)] 27 (0,0))) ∧ Aside0 (wc.heap[gb589]? = some (.cells #[.int .i64 t581,(.slice Ao106 t582.length co106),(.slice Ao107 t585.length co107)] 27 (0,0))) ∧ Aside0 (Below w.heap.size w wc))
   case first =>
    have H:=HC197.out
    clear HC197
    by_cases c199 : x40_8 > 0
    rotate_left
    ·rw [if_neg c199] at H
     have c199b0 : decide (0 < x40_8) = false:=decide_eq_false c199
     clear c199
     as_aux_lemma =>
      have H':=Aside0.mk H
      clear H
      go_wp2
      repeat (go_quiet (fail);try go_wp2)
      go_meet
      case rel=>exact ⟨_,(false),fd,H',⟨by first|exact Nat.le_refl _|(have:=HJ6.out;have:=HJ36.out;have:=HJ49.out;have:=HJ59.out;have:=HJ69.out;have:=HJ98.out;have:=HJ121.out;have:=HK8.out;omega)⟩,⟨rm HO_4.out⟩,⟨rm HO_5.out⟩,⟨rm HO_10.out⟩,⟨rm HO_528001.out⟩,⟨rm HO_528002.out⟩,⟨rm HO_571001.out⟩,⟨rm HO_571002.out⟩,⟨rm HO_580001.out⟩,⟨rm HO_580002.out⟩,⟨rm HO_590001.out⟩,⟨rm HO_590002.out⟩,⟨bm BK527.out⟩,⟨bm BK570.out⟩,⟨bm BK579.out⟩,⟨bm BK589.out⟩,⟨by repeat ((with_reducible first|exact HB.out|apply below_alloc|apply pw_below_drewN|apply below_drew1|refine below_set ?_ GE527.out|refine below_set ?_ GE570.out|refine below_set ?_ GE579.out|refine below_set ?_ GE589.out))⟩⟩
    rw [if_pos c199] at H
    have c199b0 : decide (0 < x40_8) = true:=decide_eq_true c199
    clear c199
    obtain ⟨c200,H⟩:=gi H
    have c200b0 : decide (0 ≤ x40_8) = true:=decide_eq_true c200
    clear c200
    obtain ⟨c201,H⟩:=gi H
    have c201b0 : decide (x40_8 < (t531.length : Int)) = true:=decide_eq_true c201
    clear c201
    obtain ⟨ji202,hji202⟩ : ∃ j_ : Int,(wrap64 (x40_8 - 1)) = j_:=⟨_,rfl⟩
    replace H : (if 0 ≤ (ji202) then (if (ji202) < (t531.length : Int) then (laws_FnWires.j10 k8 t528 t531 t545 t554 t558 x38_8 x39_8 x40_8 (decide ((rd t531 x40_8) < (rd t531 (ji202)))) t520 t521 t524 t562 t563 t566) else (none)) else (none)) = some r:=by first|(rw [hji202] at H;exact H)|(simp only [hji202] at H ⊢;exact H)
    have hji202w : (IntKind.i64.wrap (x40_8 - 1)) = ji202:=(i64_w _).trans hji202
    obtain ⟨c203,H⟩:=gi H
    have c203b0 : decide (0 ≤ (ji202)) = true:=decide_eq_true c203
    clear c203
    obtain ⟨c204,H⟩:=gi H
    have c204b0 : decide ((ji202) < (t531.length : Int)) = true:=decide_eq_true c204
    clear c204
    as_aux_lemma =>
     have H':=Aside0.mk H
     clear H
     obtain ⟨Ao205,co205,eo205⟩:=R_slice HO_5.out
     subst eo205
     have p623 : 0 ≤ (x40_8 : Int):=od
     have q623 : x40_8 < (t531.length : Int):=od
     obtain ⟨ad623,e623,hx623_0⟩:=Kd.at_int (R_reads' HO_5.out).2.2 x40_8 p623 q623
     cases e623
     replace p623:=eq_true p623
     replace q623:=eq_true q623
     have p624 : 0 ≤ ((ji202) : Int):=od
     have q624 : (ji202) < (t531.length : Int):=od
     obtain ⟨ad624,e624,hx624_0⟩:=Kd.at_int (R_reads' HO_5.out).2.2 (ji202) p624 q624
     obtain rfl : ad623 = ad624:=(by injection e624)
     replace p624:=eq_true p624
     replace q624:=eq_true q624
     go_wp2
     repeat (go_quiet (fail);try go_wp2)
     go_meet
     case rel=>exact ⟨_,(decide ((rd t531 x40_8) < (rd t531 (ji202)))),(by first|rfl|(simp;done)|(simp only [← hji202] <;> (fail))|(simp [*];done)),H',⟨by first|exact Nat.le_refl _|(have:=HJ6.out;have:=HJ36.out;have:=HJ49.out;have:=HJ59.out;have:=HJ69.out;have:=HJ98.out;have:=HJ121.out;have:=HK8.out;omega)⟩,⟨rm HO_4.out⟩,⟨rm HO_5.out⟩,⟨rm HO_10.out⟩,⟨rm HO_528001.out⟩,⟨rm HO_528002.out⟩,⟨rm HO_571001.out⟩,⟨rm HO_571002.out⟩,⟨rm HO_580001.out⟩,⟨rm HO_580002.out⟩,⟨rm HO_590001.out⟩,⟨rm HO_590002.out⟩,⟨bm BK527.out⟩,⟨bm BK570.out⟩,⟨bm BK579.out⟩,⟨bm BK589.out⟩,⟨by repeat ((with_reducible first|exact HB.out|apply below_alloc|apply pw_below_drewN|apply below_drew1|refine below_set ?_ GE527.out|refine below_set ?_ GE570.out|refine below_set ?_ GE579.out|refine below_set ?_ GE589.out))⟩⟩
   clear HC197
   clear c196b0
   obtain ⟨kq,x308_196,rfl,HA,HJ196,HO_4,HO_5,HO_10,HO_528001,HO_528002,HO_571001,HO_571002,HO_580001,HO_580002,HO_590001,HO_590002,BK527,BK570,BK579,BK589,HB⟩:=hcut
   cases kq with
   | zero=>exact absurd HA.out (by simp [laws_FnWires.j10])
   | succ kj196 =>
    have H:=HA.out
    clear HA
    simp only [laws_FnWires.j10] at H
    by_cases c206 : x308_196 = true
    ·subst c206
     rw [if_pos rfl] at H
     as_aux_lemma =>
      obtain rfl:=Option.some.inj H
      go_wp2
      go_ret
      exact ⟨fe,by repeat ((with_reducible first|exact HB.out|apply below_alloc|apply pw_below_drewN|apply below_drew1|refine below_set ?_ GE527.out|refine below_set ?_ GE570.out|refine below_set ?_ GE579.out|refine below_set ?_ GE589.out))⟩
    replace c206:=Bool.eq_false_iff.mpr c206
    subst c206
    rw [if_neg (show ¬ (false = true) by decide)] at H
    obtain ⟨c207,H⟩:=gi H
    have c207b0 : decide (0 ≤ x40_8) = true:=decide_eq_true c207
    clear c207
    obtain ⟨c208,H⟩:=gi H
    have c208b0 : decide (x40_8 < (t531.length : Int)) = true:=decide_eq_true c208
    clear c208
    by_cases c209 : (rd t531 x40_8) = (-1)
    rotate_left
    ·rw [if_neg c209] at H
     have c209b0 : ((rd t531 x40_8) == (-1)) = false:=beq_eq_false_iff_ne.mpr c209
     have c209b1 : ((rd t531 x40_8) != (-1)) = true:=bne_iff_ne.mpr c209
     obtain ⟨c214,H⟩:=gi H
     have c214b0 : decide (x40_8 < (t528.length : Int)) = true:=decide_eq_true c214
     clear c214
     by_cases c215 : (rd t528 x40_8) > x39_8
     rotate_left
     ·rw [if_neg c215] at H
      have c215b0 : decide (x39_8 < (rd t528 x40_8)) = false:=decide_eq_false c215
      clear c215
      as_aux_lemma =>
       have H':=Aside0.mk H
       clear H
       obtain ⟨Ao217,co217,eo217⟩:=R_slice HO_5.out
       subst eo217
       have p625 : 0 ≤ (x40_8 : Int):=od
       have q625 : x40_8 < (t531.length : Int):=od
       obtain ⟨ad625,e625,hx625_0⟩:=Kd.at_int (R_reads' HO_5.out).2.2 x40_8 p625 q625
       cases e625
       replace p625:=eq_true p625
       replace q625:=eq_true q625
       have p628 : 0 ≤ (x40_8 : Int):=od
       have q628 : x40_8 < (t528.length : Int):=od
       obtain ⟨ad628,e628,hx628_0⟩:=Kd.at_int (R_reads' HO_4.out).2.2 x40_8 p628 q628
       cases e628
       replace p628:=eq_true p628
       replace q628:=eq_true q628
       go_wp2
       go_roundg kj196
       case measure=>have:=HJ6.out;have:=HJ36.out;have:=HJ49.out;have:=HJ59.out;have:=HJ69.out;have:=HJ98.out;have:=HJ121.out;have:=HK8.out;have:=HJ196.out;omega
       case rel=>exact ⟨(x38_8),(x39_8),(wrap64 (x40_8 + 1)),fd,fd,fd,H',⟨by have:=HJ6.out;have:=HJ36.out;have:=HJ49.out;have:=HJ59.out;have:=HJ69.out;have:=HJ98.out;have:=HJ121.out;have:=HK8.out;have:=HJ196.out;omega⟩,⟨rm HO_4.out⟩,⟨rm HO_5.out⟩,⟨rm HO_10.out⟩,⟨rm HO_528001.out⟩,⟨rm HO_528002.out⟩,⟨rm HO_571001.out⟩,⟨rm HO_571002.out⟩,⟨rm HO_580001.out⟩,⟨rm HO_580002.out⟩,⟨rm HO_590001.out⟩,⟨rm HO_590002.out⟩,⟨bm BK527.out⟩,⟨bm BK570.out⟩,⟨bm BK579.out⟩,⟨bm BK589.out⟩,⟨by repeat ((with_reducible first|exact HB.out|apply below_alloc|apply pw_below_drewN|apply below_drew1|refine below_set ?_ GE527.out|refine below_set ?_ GE570.out|refine below_set ?_ GE579.out|refine below_set ?_ GE589.out))⟩⟩
     rw [if_pos c215] at H
     have c215b0 : decide (x39_8 < (rd t528 x40_8)) = true:=decide_eq_true c215
     clear c215
     as_aux_lemma =>
      have H':=Aside0.mk H
      clear H
      obtain ⟨Ao216,co216,eo216⟩:=R_slice HO_5.out
      subst eo216
      have p625 : 0 ≤ (x40_8 : Int):=od
      have q625 : x40_8 < (t531.length : Int):=od
      obtain ⟨ad625,e625,hx625_0⟩:=Kd.at_int (R_reads' HO_5.out).2.2 x40_8 p625 q625
      cases e625
      replace p625:=eq_true p625
      replace q625:=eq_true q625
      have p628 : 0 ≤ (x40_8 : Int):=od
      have q628 : x40_8 < (t528.length : Int):=od
      obtain ⟨ad628,e628,hx628_0⟩:=Kd.at_int (R_reads' HO_4.out).2.2 x40_8 p628 q628
      cases e628
      replace p628:=eq_true p628
      replace q628:=eq_true q628
      have p629 : 0 ≤ (x40_8 : Int):=od
      have q629 : x40_8 < (t528.length : Int):=od
      obtain ⟨ad629,e629,hx629_0⟩:=Kd.at_int (R_reads' HO_4.out).2.2 x40_8 p629 q629
      obtain rfl : ad628 = ad629:=(by injection e629)
      replace p629:=eq_true p629
      replace q629:=eq_true q629
      go_wp2
      go_roundg kj196
      case measure=>have:=HJ6.out;have:=HJ36.out;have:=HJ49.out;have:=HJ59.out;have:=HJ69.out;have:=HJ98.out;have:=HJ121.out;have:=HK8.out;have:=HJ196.out;omega
      case rel=>exact ⟨(x38_8),(rd t528 x40_8),(wrap64 (x40_8 + 1)),fd,fd,fd,H',⟨by have:=HJ6.out;have:=HJ36.out;have:=HJ49.out;have:=HJ59.out;have:=HJ69.out;have:=HJ98.out;have:=HJ121.out;have:=HK8.out;have:=HJ196.out;omega⟩,⟨rm HO_4.out⟩,⟨rm HO_5.out⟩,⟨rm HO_10.out⟩,⟨rm HO_528001.out⟩,⟨rm HO_528002.out⟩,⟨rm HO_571001.out⟩,⟨rm HO_571002.out⟩,⟨rm HO_580001.out⟩,⟨rm HO_580002.out⟩,⟨rm HO_590001.out⟩,⟨rm HO_590002.out⟩,⟨bm BK527.out⟩,⟨bm BK570.out⟩,⟨bm BK579.out⟩,⟨bm BK589.out⟩,⟨by repeat ((with_reducible first|exact HB.out|apply below_alloc|apply pw_below_drewN|apply below_drew1|refine below_set ?_ GE527.out|refine below_set ?_ GE570.out|refine below_set ?_ GE579.out|refine below_set ?_ GE589.out))⟩⟩
    rw [if_pos c209] at H
    have c209b0 : ((rd t531 x40_8) == (-1)) = true:=beq_iff_eq.mpr c209
    have c209b1 : ((rd t531 x40_8) != (-1)) = false:=bne_eq_false_iff_eq.mpr c209
    clear c209
    obtain ⟨c210,H⟩:=gi H
    have c210b0 : decide (x40_8 < (t528.length : Int)) = true:=decide_eq_true c210
    clear c210
    by_cases c211 : (rd t528 x40_8) > x39_8
    rotate_left
    ·rw [if_neg c211] at H
     have c211b0 : decide (x39_8 < (rd t528 x40_8)) = false:=decide_eq_false c211
     clear c211
     as_aux_lemma =>
      have H':=Aside0.mk H
      clear H
      obtain ⟨Ao213,co213,eo213⟩:=R_slice HO_5.out
      subst eo213
      have p625 : 0 ≤ (x40_8 : Int):=od
      have q625 : x40_8 < (t531.length : Int):=od
      obtain ⟨ad625,e625,hx625_0⟩:=Kd.at_int (R_reads' HO_5.out).2.2 x40_8 p625 q625
      cases e625
      replace p625:=eq_true p625
      replace q625:=eq_true q625
      have p626 : 0 ≤ (x40_8 : Int):=od
      have q626 : x40_8 < (t528.length : Int):=od
      obtain ⟨ad626,e626,hx626_0⟩:=Kd.at_int (R_reads' HO_4.out).2.2 x40_8 p626 q626
      cases e626
      replace p626:=eq_true p626
      replace q626:=eq_true q626
      go_wp2
      go_roundg kj196
      case measure=>have:=HJ6.out;have:=HJ36.out;have:=HJ49.out;have:=HJ59.out;have:=HJ69.out;have:=HJ98.out;have:=HJ121.out;have:=HK8.out;have:=HJ196.out;omega
      case rel=>exact ⟨(wrap64 (x38_8 + 1)),(x39_8),(wrap64 (x40_8 + 1)),fd,fd,fd,H',⟨by have:=HJ6.out;have:=HJ36.out;have:=HJ49.out;have:=HJ59.out;have:=HJ69.out;have:=HJ98.out;have:=HJ121.out;have:=HK8.out;have:=HJ196.out;omega⟩,⟨rm HO_4.out⟩,⟨rm HO_5.out⟩,⟨rm HO_10.out⟩,⟨rm HO_528001.out⟩,⟨rm HO_528002.out⟩,⟨rm HO_571001.out⟩,⟨rm HO_571002.out⟩,⟨rm HO_580001.out⟩,⟨rm HO_580002.out⟩,⟨rm HO_590001.out⟩,⟨rm HO_590002.out⟩,⟨bm BK527.out⟩,⟨bm BK570.out⟩,⟨bm BK579.out⟩,⟨bm BK589.out⟩,⟨by repeat ((with_reducible first|exact HB.out|apply below_alloc|apply pw_below_drewN|apply below_drew1|refine below_set ?_ GE527.out|refine below_set ?_ GE570.out|refine below_set ?_ GE579.out|refine below_set ?_ GE589.out))⟩⟩
    rw [if_pos c211] at H
    have c211b0 : decide (x39_8 < (rd t528 x40_8)) = true:=decide_eq_true c211
    clear c211
    as_aux_lemma =>
     have H':=Aside0.mk H
     clear H
     obtain ⟨Ao212,co212,eo212⟩:=R_slice HO_5.out
     subst eo212
     have p625 : 0 ≤ (x40_8 : Int):=od
     have q625 : x40_8 < (t531.length : Int):=od
     obtain ⟨ad625,e625,hx625_0⟩:=Kd.at_int (R_reads' HO_5.out).2.2 x40_8 p625 q625
     cases e625
     replace p625:=eq_true p625
     replace q625:=eq_true q625
     have p626 : 0 ≤ (x40_8 : Int):=od
     have q626 : x40_8 < (t528.length : Int):=od
     obtain ⟨ad626,e626,hx626_0⟩:=Kd.at_int (R_reads' HO_4.out).2.2 x40_8 p626 q626
     cases e626
     replace p626:=eq_true p626
     replace q626:=eq_true q626
     have p627 : 0 ≤ (x40_8 : Int):=od
     have q627 : x40_8 < (t528.length : Int):=od
     obtain ⟨ad627,e627,hx627_0⟩:=Kd.at_int (R_reads' HO_4.out).2.2 x40_8 p627 q627
     obtain rfl : ad626 = ad627:=(by injection e627)
     replace p627:=eq_true p627
     replace q627:=eq_true q627
     go_wp2
     go_roundg kj196
     case measure=>have:=HJ6.out;have:=HJ36.out;have:=HJ49.out;have:=HJ59.out;have:=HJ69.out;have:=HJ98.out;have:=HJ121.out;have:=HK8.out;have:=HJ196.out;omega
     case rel=>exact ⟨(wrap64 (x38_8 + 1)),(rd t528 x40_8),(wrap64 (x40_8 + 1)),fd,fd,fd,H',⟨by have:=HJ6.out;have:=HJ36.out;have:=HJ49.out;have:=HJ59.out;have:=HJ69.out;have:=HJ98.out;have:=HJ121.out;have:=HK8.out;have:=HJ196.out;omega⟩,⟨rm HO_4.out⟩,⟨rm HO_5.out⟩,⟨rm HO_10.out⟩,⟨rm HO_528001.out⟩,⟨rm HO_528002.out⟩,⟨rm HO_571001.out⟩,⟨rm HO_571002.out⟩,⟨rm HO_580001.out⟩,⟨rm HO_580002.out⟩,⟨rm HO_590001.out⟩,⟨rm HO_590002.out⟩,⟨bm BK527.out⟩,⟨bm BK570.out⟩,⟨bm BK579.out⟩,⟨bm BK589.out⟩,⟨by repeat ((with_reducible first|exact HB.out|apply below_alloc|apply pw_below_drewN|apply below_drew1|refine below_set ?_ GE527.out|refine below_set ?_ GE570.out|refine below_set ?_ GE579.out|refine below_set ?_ GE589.out))⟩⟩
  rw [if_neg c196] at H
  have c196b0 : decide (x40_8 < (t528.length : Int)) = false:=decide_eq_false c196
  clear c196
  have H':=Aside0.mk H
  clear H
  obtain ⟨Ao218,co218,eo218⟩:=R_slice HO_4.out
  subst eo218
  go_wp2
  go_loopg [41,42] k8 (fun kq v41 v42 w'=>∃ (x41_9 : Int) (x42_9 : Int),v41 = .int .i64 x41_9 ∧ v42 = .int .i64 x42_9 ∧ Aside0 (laws_FnWires.l2 kq t528 t545 t554 t558 x38_8 x39_8 x41_9 x42_9 t520 t521 t524 t562 t563 t566 = some r) ∧ Aside0 (kq ≤ k8) ∧ Aside0 (Kd.R (Kd.int .i64) 3 w' w.heap.size (fun k_=>ob k_ v546 ∧ ob k_ (.slice Ao11 t521.length co11) ∧ ob k_ (.slice Ao12 t524.length co12) ∧ ob k_ (.slice Ao76 t563.length co76) ∧ ob k_ (.slice Ao77 t566.length co77) ∧ ob k_ (.slice Ao84 t572.length co84) ∧ ob k_ (.slice Ao85 t575.length co85) ∧ ob k_ (.slice Ao106 t582.length co106) ∧ ob k_ (.slice Ao107 t585.length co107)) (.slice Ao218 t528.length co218) t528) ∧ Aside0 (Kd.R (Kd.int .i64) 3 w' w.heap.size (fun k_=>ob k_ (.slice Ao218 t528.length co218) ∧ ob k_ (.slice Ao11 t521.length co11) ∧ ob k_ (.slice Ao12 t524.length co12) ∧ ob k_ (.slice Ao76 t563.length co76) ∧ ob k_ (.slice Ao77 t566.length co77) ∧ ob k_ (.slice Ao84 t572.length co84) ∧ ob k_ (.slice Ao85 t575.length co85) ∧ ob k_ (.slice Ao106 t582.length co106) ∧ ob k_ (.slice Ao107 t585.length co107)) v546 t545) ∧ Aside0 (Kd.R (Kd.int .i64) 3 w' w.heap.size (fun k_=>ob k_ (.slice Ao218 t528.length co218) ∧ ob k_ v546 ∧ ob k_ (.slice Ao12 t524.length co12) ∧ ob k_ (.slice Ao76 t563.length co76) ∧ ob k_ (.slice Ao77 t566.length co77) ∧ ob k_ (.slice Ao84 t572.length co84) ∧ ob k_ (.slice Ao85 t575.length co85) ∧ ob k_ (.slice Ao106 t582.length co106) ∧ ob k_ (.slice Ao107 t585.length co107)) (.slice Ao11 t521.length co11) t521) ∧ Aside0 (Kd.R (Kd.int .i64) 3 w' w.heap.size (fun k_=>ob k_ (.slice Ao218 t528.length co218) ∧ ob k_ v546 ∧ ob k_ (.slice Ao11 t521.length co11) ∧ ob k_ (.slice Ao76 t563.length co76) ∧ ob k_ (.slice Ao77 t566.length co77) ∧ ob k_ (.slice Ao84 t572.length co84) ∧ ob k_ (.slice Ao85 t575.length co85) ∧ ob k_ (.slice Ao106 t582.length co106) ∧ ob k_ (.slice Ao107 t585.length co107)) (.slice Ao12 t524.length co12) t524) ∧ Aside0 (Kd.R (Kd.int .i64) 3 w' w.heap.size (fun k_=>ob k_ (.slice Ao218 t528.length co218) ∧ ob k_ v546 ∧ ob k_ (.slice Ao11 t521.length co11) ∧ ob k_ (.slice Ao12 t524.length co12) ∧ ob k_ (.slice Ao77 t566.length co77) ∧ ob k_ (.slice Ao84 t572.length co84) ∧ ob k_ (.slice Ao85 t575.length co85) ∧ ob k_ (.slice Ao106 t582.length co106) ∧ ob k_ (.slice Ao107 t585.length co107)) (.slice Ao76 t563.length co76) t563) ∧ Aside0 (Kd.R (Kd.int .i64) 3 w' w.heap.size (fun k_=>ob k_ (.slice Ao218 t528.length co218) ∧ ob k_ v546 ∧ ob k_ (.slice Ao11 t521.length co11) ∧ ob k_ (.slice Ao12 t524.length co12) ∧ ob k_ (.slice Ao76 t563.length co76) ∧ ob k_ (.slice Ao84 t572.length co84) ∧ ob k_ (.slice Ao85 t575.length co85) ∧ ob k_ (.slice Ao106 t582.length co106) ∧ ob k_ (.slice Ao107 t585.length co107)) (.slice Ao77 t566.length co77) t566) ∧ Aside0 (Kd.R (Kd.int .i64) 3 w' w.heap.size (fun k_=>ob k_ (.slice Ao218 t528.length co218) ∧ ob k_ v546 ∧ ob k_ (.slice Ao11 t521.length co11) ∧ ob k_ (.slice Ao12 t524.length co12) ∧ ob k_ (.slice Ao76 t563.length co76) ∧ ob k_ (.slice Ao77 t566.length co77) ∧ ob k_ (.slice Ao85 t575.length co85) ∧ ob k_ (.slice Ao106 t582.length co106) ∧ ob k_ (.slice Ao107 t585.length co107)) (.slice Ao84 t572.length co84) t572) ∧ Aside0 (Kd.R (Kd.int .i64) 3 w' w.heap.size (fun k_=>ob k_ (.slice Ao218 t528.length co218) ∧ ob k_ v546 ∧ ob k_ (.slice Ao11 t521.length co11) ∧ ob k_ (.slice Ao12 t524.length co12) ∧ ob k_ (.slice Ao76 t563.length co76) ∧ ob k_ (.slice Ao77 t566.length co77) ∧ ob k_ (.slice Ao84 t572.length co84) ∧ ob k_ (.slice Ao106 t582.length co106) ∧ ob k_ (.slice Ao107 t585.length co107)) (.slice Ao85 t575.length co85) t575) ∧ Aside0 (Kd.R (Kd.int .i64) 3 w' w.heap.size (fun k_=>ob k_ (.slice Ao218 t528.length co218) ∧ ob k_ v546 ∧ ob k_ (.slice Ao11 t521.length co11) ∧ ob k_ (.slice Ao12 t524.length co12) ∧ ob k_ (.slice Ao76 t563.length co76) ∧ ob k_ (.slice Ao77 t566.length co77) ∧ ob k_ (.slice Ao84 t572.length co84) ∧ ob k_ (.slice Ao85 t575.length co85) ∧ ob k_ (.slice Ao107 t585.length co107)) (.slice Ao106 t582.length co106) t582) ∧ Aside0 (Kd.R (Kd.int .i64) 3 w' w.heap.size (fun k_=>ob k_ (.slice Ao218 t528.length co218) ∧ ob k_ v546 ∧ ob k_ (.slice Ao11 t521.length co11) ∧ ob k_ (.slice Ao12 t524.length co12) ∧ ob k_ (.slice Ao76 t563.length co76) ∧ ob k_ (.slice Ao77 t566.length co77) ∧ ob k_ (.slice Ao84 t572.length co84) ∧ ob k_ (.slice Ao85 t575.length co85) ∧ ob k_ (.slice Ao106 t582.length co106)) (.slice Ao107 t585.length co107) t585) ∧ Aside0 (w'.heap[gb527]? = some (.cells #[.int .i64 t520,(.slice Ao11 t521.length co11),(.slice Ao12 t524.length co12)] 27 (0,0))) ∧ Aside0 (w'.heap[gb570]? = some (.cells #[.int .i64 t562,(.slice Ao76 t563.length co76),(.slice Ao77 t566.length co77)] 27 (0,0))) ∧ Aside0 (w'.heap[gb579]? = some (.cells #[.int .i64 t571,(.slice Ao84 t572.length co84),(.slice Ao85 t575.length co85)] 27 (0,0))) ∧ Aside0 (w'.heap[gb589]? = some (.cells #[.int .i64 t581,(.slice Ao106 t582.length co106),(.slice Ao107 t585.length co107)] 27 (0,0))) ∧ Aside0 (Below w.heap.size w w'))
  case atStart=>exact ⟨(0),(0),fd,fd,H',⟨Nat.le_refl _⟩,rq HO_4,rq HO_10,rq HO_528001,rq HO_528002,rq HO_571001,rq HO_571002,rq HO_580001,rq HO_580002,rq HO_590001,rq HO_590002,⟨bm BK527.out⟩,⟨bm BK570.out⟩,⟨bm BK579.out⟩,⟨bm BK589.out⟩,⟨by repeat ((with_reducible first|exact HB.out|apply below_alloc|apply pw_below_drewN|apply below_drew1|refine below_set ?_ GE527.out|refine below_set ?_ GE570.out|refine below_set ?_ GE579.out|refine below_set ?_ GE589.out))⟩⟩
  clear H'
  clear c196b0
  obtain ⟨x41_9,x42_9,rfl,rfl,HA,HK9,HO_4,HO_10,HO_528001,HO_528002,HO_571001,HO_571002,HO_580001,HO_580002,HO_590001,HO_590002,BK527,BK570,BK579,BK589,HB⟩:=hrel
  cases gk with
  | zero=>exact absurd HA.out (by simp [laws_FnWires.l2])
  | succ k9 =>
   have H:=HA.out
   clear HA
   simp only [laws_FnWires.l2] at H
   by_cases c219 : x42_9 < (t524.length : Int)
   ·rw [if_pos c219] at H
    have c219b0 : decide (x42_9 < (t524.length : Int)) = true:=decide_eq_true c219
    clear c219
    obtain ⟨c220,H⟩:=gi H
    have c220b0 : decide (0 ≤ x42_9) = true:=decide_eq_true c220
    clear c220
    by_cases c221 : (rd t524 x42_9) = (-1)
    rotate_left
    ·rw [if_neg c221] at H
     have c221b0 : ((rd t524 x42_9) == (-1)) = false:=beq_eq_false_iff_ne.mpr c221
     have c221b1 : ((rd t524 x42_9) != (-1)) = true:=bne_iff_ne.mpr c221
     as_aux_lemma =>
      have H':=Aside0.mk H
      clear H
      have hnb226:=NB527_570.out
      have hnc226:=NB570_527.out
      have hnb227:=NB527_579.out
      have hnc227:=NB579_527.out
      have hnb228:=NB527_589.out
      have hnc228:=NB589_527.out
      have hcz229_0:=bc BK527 0 rfl
      have hcz229_1:=bc BK527 1 rfl
      have hcz229_2:=bc BK527 2 rfl
      have hfz229_0:=bf BK527 0
      have hfz229_1:=bf BK527 1
      have hfz229_2:=bf BK527 2
      have p630 : 0 ≤ (x42_9 : Int):=od
      have q630 : x42_9 < (t524.length : Int):=od
      obtain ⟨ad630,e630,hx630_0⟩:=Kd.at_int (R_reads' HO_528002.out).2.2 x42_9 p630 q630
      cases e630
      replace p630:=eq_true p630
      replace q630:=eq_true q630
      go_wp2
      go_roundg k9
      case measure=>have:=HJ6.out;have:=HJ36.out;have:=HJ49.out;have:=HJ59.out;have:=HJ69.out;have:=HJ98.out;have:=HJ121.out;have:=HK8.out;have:=HK9.out;omega
      case rel=>exact ⟨(x41_9),(wrap64 (x42_9 + 1)),fd,fd,H',⟨by have:=HJ6.out;have:=HJ36.out;have:=HJ49.out;have:=HJ59.out;have:=HJ69.out;have:=HJ98.out;have:=HJ121.out;have:=HK8.out;have:=HK9.out;omega⟩,⟨rm HO_4.out⟩,⟨rm HO_10.out⟩,⟨rm HO_528001.out⟩,⟨rm HO_528002.out⟩,⟨rm HO_571001.out⟩,⟨rm HO_571002.out⟩,⟨rm HO_580001.out⟩,⟨rm HO_580002.out⟩,⟨rm HO_590001.out⟩,⟨rm HO_590002.out⟩,⟨bm BK527.out⟩,⟨bm BK570.out⟩,⟨bm BK579.out⟩,⟨bm BK589.out⟩,⟨by repeat ((with_reducible first|exact HB.out|apply below_alloc|apply pw_below_drewN|apply below_drew1|refine below_set ?_ GE527.out|refine below_set ?_ GE570.out|refine below_set ?_ GE579.out|refine below_set ?_ GE589.out))⟩⟩
    rw [if_pos c221] at H
    have c221b0 : ((rd t524 x42_9) == (-1)) = true:=beq_iff_eq.mpr c221
    have c221b1 : ((rd t524 x42_9) != (-1)) = false:=bne_eq_false_iff_eq.mpr c221
    clear c221
    as_aux_lemma =>
     have H':=Aside0.mk H
     clear H
     have hnb222:=NB527_570.out
     have hnc222:=NB570_527.out
     have hnb223:=NB527_579.out
     have hnc223:=NB579_527.out
     have hnb224:=NB527_589.out
     have hnc224:=NB589_527.out
     have hcz225_0:=bc BK527 0 rfl
     have hcz225_1:=bc BK527 1 rfl
     have hcz225_2:=bc BK527 2 rfl
     have hfz225_0:=bf BK527 0
     have hfz225_1:=bf BK527 1
     have hfz225_2:=bf BK527 2
     have p630 : 0 ≤ (x42_9 : Int):=od
     have q630 : x42_9 < (t524.length : Int):=od
     obtain ⟨ad630,e630,hx630_0⟩:=Kd.at_int (R_reads' HO_528002.out).2.2 x42_9 p630 q630
     cases e630
     replace p630:=eq_true p630
     replace q630:=eq_true q630
     go_wp2
     go_roundg k9
     case measure=>have:=HJ6.out;have:=HJ36.out;have:=HJ49.out;have:=HJ59.out;have:=HJ69.out;have:=HJ98.out;have:=HJ121.out;have:=HK8.out;have:=HK9.out;omega
     case rel=>exact ⟨(wrap64 (x41_9 + 1)),(wrap64 (x42_9 + 1)),fd,fd,H',⟨by have:=HJ6.out;have:=HJ36.out;have:=HJ49.out;have:=HJ59.out;have:=HJ69.out;have:=HJ98.out;have:=HJ121.out;have:=HK8.out;have:=HK9.out;omega⟩,⟨rm HO_4.out⟩,⟨rm HO_10.out⟩,⟨rm HO_528001.out⟩,⟨rm HO_528002.out⟩,⟨rm HO_571001.out⟩,⟨rm HO_571002.out⟩,⟨rm HO_580001.out⟩,⟨rm HO_580002.out⟩,⟨rm HO_590001.out⟩,⟨rm HO_590002.out⟩,⟨bm BK527.out⟩,⟨bm BK570.out⟩,⟨bm BK579.out⟩,⟨bm BK589.out⟩,⟨by repeat ((with_reducible first|exact HB.out|apply below_alloc|apply pw_below_drewN|apply below_drew1|refine below_set ?_ GE527.out|refine below_set ?_ GE570.out|refine below_set ?_ GE579.out|refine below_set ?_ GE589.out))⟩⟩
   rw [if_neg c219] at H
   have c219b0 : decide (x42_9 < (t524.length : Int)) = false:=decide_eq_false c219
   clear c219
   obtain ⟨⟨t631,t632⟩,A230,H⟩:=bd H;(try dsimp only at H)
   obtain ⟨⟨t633,t634⟩,A231,H⟩:=bd H;(try dsimp only at H)
   by_cases c232 : t632 = true
   rotate_left
   ·replace c232:=Bool.eq_false_iff.mpr c232
    subst c232
    rw [if_neg (show ¬ (false = true) by decide)] at H
    as_aux_lemma =>
     obtain rfl:=Option.some.inj H
     have hnb303:=NB527_570.out
     have hnc303:=NB570_527.out
     have hnb304:=NB527_579.out
     have hnc304:=NB579_527.out
     have hnb305:=NB527_589.out
     have hnc305:=NB589_527.out
     have hcz306_0:=bc BK527 0 rfl
     have hcz306_1:=bc BK527 1 rfl
     have hcz306_2:=bc BK527 2 rfl
     have hfz306_0:=bf BK527 0
     have hfz306_1:=bf BK527 1
     have hfz306_2:=bf BK527 2
     have hnb307:=NB570_579.out
     have hnc307:=NB579_570.out
     have hnb308:=NB570_589.out
     have hnc308:=NB589_570.out
     have hcz309_0:=bc BK570 0 rfl
     have hcz309_1:=bc BK570 1 rfl
     have hcz309_2:=bc BK570 2 rfl
     have hfz309_0:=bf BK570 0
     have hfz309_1:=bf BK570 1
     have hfz309_2:=bf BK570 2
     have go_:=trivial;repeat ((clear go_);try go_wp2_with (first|(go_at_call 17;(with_reducible refine (impl_CountMeets.calls k9 t562 _ _ t563 _ _ t566 t631 false _ ?side1 ?side2 ?side3 ?side4 A230.out).mono ?_);(case side1=>exact cm (R_reads' HO_571001.out).2.2);(case side2=>exact (R_reads' HO_571001.out).2.1);(case side3=>exact cm (R_reads' HO_571002.out).2.2);(case side4=>exact (R_reads' HO_571002.out).2.1);rintro e w310 ⟨rfl,hb⟩;replace HO_4:=rb HO_4 hb;replace HO_10:=rb HO_10 hb;replace HO_528001:=rb HO_528001 hb;replace HO_528002:=rb HO_528002 hb;replace HO_571001:=rb HO_571001 hb;replace HO_571002:=rb HO_571002 hb;replace HO_580001:=rb HO_580001 hb;replace HO_580002:=rb HO_580002 hb;replace HO_590001:=rb HO_590001 hb;replace HO_590002:=rb HO_590002 hb;replace BK527:=kb BK527 hb;replace BK570:=kb BK570 hb;replace BK579:=kb BK579 hb;replace BK589:=kb BK589 hb;replace HB:=ak (below_step (by repeat ((with_reducible first|exact HB.out|apply below_alloc|apply pw_below_drewN|apply below_drew1|refine below_set ?_ GE527.out|refine below_set ?_ GE570.out|refine below_set ?_ GE579.out|refine below_set ?_ GE589.out))) hb);(try clear hb);have hcz311_0:=bc BK570 0 rfl;have hcz311_1:=bc BK570 1 rfl;have hcz311_2:=bc BK570 2 rfl;have hfz311_0:=bf BK570 0;have hfz311_1:=bf BK570 1;have hfz311_2:=bf BK570 2)|(go_at_call 19;(with_reducible refine (impl_LastFall.calls k9 t562 _ _ t563 _ _ t566 t633 t634 _ ?side1 ?side2 ?side3 ?side4 A231.out).mono ?_);(case side1=>exact cm (R_reads' HO_571001.out).2.2);(case side2=>exact (R_reads' HO_571001.out).2.1);(case side3=>exact cm (R_reads' HO_571002.out).2.2);(case side4=>exact (R_reads' HO_571002.out).2.1);rintro e w312 ⟨rfl,hb⟩;replace HO_4:=rb HO_4 hb;replace HO_10:=rb HO_10 hb;replace HO_528001:=rb HO_528001 hb;replace HO_528002:=rb HO_528002 hb;replace HO_571001:=rb HO_571001 hb;replace HO_571002:=rb HO_571002 hb;replace HO_580001:=rb HO_580001 hb;replace HO_580002:=rb HO_580002 hb;replace HO_590001:=rb HO_590001 hb;replace HO_590002:=rb HO_590002 hb;replace BK527:=kb BK527 hb;replace BK570:=kb BK570 hb;replace BK579:=kb BK579 hb;replace BK589:=kb BK589 hb;replace HB:=ak (below_step (by repeat ((with_reducible first|exact HB.out|apply below_alloc|apply pw_below_drewN|apply below_drew1|refine below_set ?_ GE527.out|refine below_set ?_ GE570.out|refine below_set ?_ GE579.out|refine below_set ?_ GE589.out))) hb);(try clear hb))))
     go_ret
     exact ⟨fe,by repeat ((with_reducible first|exact HB.out|apply below_alloc|apply pw_below_drewN|apply below_drew1|refine below_set ?_ GE527.out|refine below_set ?_ GE570.out|refine below_set ?_ GE579.out|refine below_set ?_ GE589.out))⟩
   subst c232
   rw [if_pos rfl] at H
   by_cases c233 : t634 = true
   rotate_left
   ·replace c233:=Bool.eq_false_iff.mpr c233
    subst c233
    rw [if_neg (show ¬ (false = true) by decide)] at H
    as_aux_lemma =>
     obtain rfl:=Option.some.inj H
     have hnb293:=NB527_570.out
     have hnc293:=NB570_527.out
     have hnb294:=NB527_579.out
     have hnc294:=NB579_527.out
     have hnb295:=NB527_589.out
     have hnc295:=NB589_527.out
     have hcz296_0:=bc BK527 0 rfl
     have hcz296_1:=bc BK527 1 rfl
     have hcz296_2:=bc BK527 2 rfl
     have hfz296_0:=bf BK527 0
     have hfz296_1:=bf BK527 1
     have hfz296_2:=bf BK527 2
     have hnb297:=NB570_579.out
     have hnc297:=NB579_570.out
     have hnb298:=NB570_589.out
     have hnc298:=NB589_570.out
     have hcz299_0:=bc BK570 0 rfl
     have hcz299_1:=bc BK570 1 rfl
     have hcz299_2:=bc BK570 2 rfl
     have hfz299_0:=bf BK570 0
     have hfz299_1:=bf BK570 1
     have hfz299_2:=bf BK570 2
     have go_:=trivial;repeat ((clear go_);try go_wp2_with (first|(go_at_call 17;(with_reducible refine (impl_CountMeets.calls k9 t562 _ _ t563 _ _ t566 t631 true _ ?side1 ?side2 ?side3 ?side4 A230.out).mono ?_);(case side1=>exact cm (R_reads' HO_571001.out).2.2);(case side2=>exact (R_reads' HO_571001.out).2.1);(case side3=>exact cm (R_reads' HO_571002.out).2.2);(case side4=>exact (R_reads' HO_571002.out).2.1);rintro e w300 ⟨rfl,hb⟩;replace HO_4:=rb HO_4 hb;replace HO_10:=rb HO_10 hb;replace HO_528001:=rb HO_528001 hb;replace HO_528002:=rb HO_528002 hb;replace HO_571001:=rb HO_571001 hb;replace HO_571002:=rb HO_571002 hb;replace HO_580001:=rb HO_580001 hb;replace HO_580002:=rb HO_580002 hb;replace HO_590001:=rb HO_590001 hb;replace HO_590002:=rb HO_590002 hb;replace BK527:=kb BK527 hb;replace BK570:=kb BK570 hb;replace BK579:=kb BK579 hb;replace BK589:=kb BK589 hb;replace HB:=ak (below_step (by repeat ((with_reducible first|exact HB.out|apply below_alloc|apply pw_below_drewN|apply below_drew1|refine below_set ?_ GE527.out|refine below_set ?_ GE570.out|refine below_set ?_ GE579.out|refine below_set ?_ GE589.out))) hb);(try clear hb);have hcz301_0:=bc BK570 0 rfl;have hcz301_1:=bc BK570 1 rfl;have hcz301_2:=bc BK570 2 rfl;have hfz301_0:=bf BK570 0;have hfz301_1:=bf BK570 1;have hfz301_2:=bf BK570 2)|(go_at_call 19;(with_reducible refine (impl_LastFall.calls k9 t562 _ _ t563 _ _ t566 t633 false _ ?side1 ?side2 ?side3 ?side4 A231.out).mono ?_);(case side1=>exact cm (R_reads' HO_571001.out).2.2);(case side2=>exact (R_reads' HO_571001.out).2.1);(case side3=>exact cm (R_reads' HO_571002.out).2.2);(case side4=>exact (R_reads' HO_571002.out).2.1);rintro e w302 ⟨rfl,hb⟩;replace HO_4:=rb HO_4 hb;replace HO_10:=rb HO_10 hb;replace HO_528001:=rb HO_528001 hb;replace HO_528002:=rb HO_528002 hb;replace HO_571001:=rb HO_571001 hb;replace HO_571002:=rb HO_571002 hb;replace HO_580001:=rb HO_580001 hb;replace HO_580002:=rb HO_580002 hb;replace HO_590001:=rb HO_590001 hb;replace HO_590002:=rb HO_590002 hb;replace BK527:=kb BK527 hb;replace BK570:=kb BK570 hb;replace BK579:=kb BK579 hb;replace BK589:=kb BK589 hb;replace HB:=ak (below_step (by repeat ((with_reducible first|exact HB.out|apply below_alloc|apply pw_below_drewN|apply below_drew1|refine below_set ?_ GE527.out|refine below_set ?_ GE570.out|refine below_set ?_ GE579.out|refine below_set ?_ GE589.out))) hb);(try clear hb))))
     go_ret
     exact ⟨fe,by repeat ((with_reducible first|exact HB.out|apply below_alloc|apply pw_below_drewN|apply below_drew1|refine below_set ?_ GE527.out|refine below_set ?_ GE570.out|refine below_set ?_ GE579.out|refine below_set ?_ GE589.out))⟩
   subst c233
   rw [if_pos rfl] at H
   by_cases c234 : x38_8 = x41_9
   rotate_left
   ·rw [if_neg c234] at H
    have c234b0 : (x38_8 == x41_9) = false:=beq_eq_false_iff_ne.mpr c234
    have c234b1 : (x38_8 != x41_9) = true:=bne_iff_ne.mpr c234
    as_aux_lemma =>
     obtain rfl:=Option.some.inj H
     have hnb283:=NB527_570.out
     have hnc283:=NB570_527.out
     have hnb284:=NB527_579.out
     have hnc284:=NB579_527.out
     have hnb285:=NB527_589.out
     have hnc285:=NB589_527.out
     have hcz286_0:=bc BK527 0 rfl
     have hcz286_1:=bc BK527 1 rfl
     have hcz286_2:=bc BK527 2 rfl
     have hfz286_0:=bf BK527 0
     have hfz286_1:=bf BK527 1
     have hfz286_2:=bf BK527 2
     have hnb287:=NB570_579.out
     have hnc287:=NB579_570.out
     have hnb288:=NB570_589.out
     have hnc288:=NB589_570.out
     have hcz289_0:=bc BK570 0 rfl
     have hcz289_1:=bc BK570 1 rfl
     have hcz289_2:=bc BK570 2 rfl
     have hfz289_0:=bf BK570 0
     have hfz289_1:=bf BK570 1
     have hfz289_2:=bf BK570 2
     have go_:=trivial;repeat ((clear go_);try go_wp2_with (first|(go_at_call 17;(with_reducible refine (impl_CountMeets.calls k9 t562 _ _ t563 _ _ t566 t631 true _ ?side1 ?side2 ?side3 ?side4 A230.out).mono ?_);(case side1=>exact cm (R_reads' HO_571001.out).2.2);(case side2=>exact (R_reads' HO_571001.out).2.1);(case side3=>exact cm (R_reads' HO_571002.out).2.2);(case side4=>exact (R_reads' HO_571002.out).2.1);rintro e w290 ⟨rfl,hb⟩;replace HO_4:=rb HO_4 hb;replace HO_10:=rb HO_10 hb;replace HO_528001:=rb HO_528001 hb;replace HO_528002:=rb HO_528002 hb;replace HO_571001:=rb HO_571001 hb;replace HO_571002:=rb HO_571002 hb;replace HO_580001:=rb HO_580001 hb;replace HO_580002:=rb HO_580002 hb;replace HO_590001:=rb HO_590001 hb;replace HO_590002:=rb HO_590002 hb;replace BK527:=kb BK527 hb;replace BK570:=kb BK570 hb;replace BK579:=kb BK579 hb;replace BK589:=kb BK589 hb;replace HB:=ak (below_step (by repeat ((with_reducible first|exact HB.out|apply below_alloc|apply pw_below_drewN|apply below_drew1|refine below_set ?_ GE527.out|refine below_set ?_ GE570.out|refine below_set ?_ GE579.out|refine below_set ?_ GE589.out))) hb);(try clear hb);have hcz291_0:=bc BK570 0 rfl;have hcz291_1:=bc BK570 1 rfl;have hcz291_2:=bc BK570 2 rfl;have hfz291_0:=bf BK570 0;have hfz291_1:=bf BK570 1;have hfz291_2:=bf BK570 2)|(go_at_call 19;(with_reducible refine (impl_LastFall.calls k9 t562 _ _ t563 _ _ t566 t633 true _ ?side1 ?side2 ?side3 ?side4 A231.out).mono ?_);(case side1=>exact cm (R_reads' HO_571001.out).2.2);(case side2=>exact (R_reads' HO_571001.out).2.1);(case side3=>exact cm (R_reads' HO_571002.out).2.2);(case side4=>exact (R_reads' HO_571002.out).2.1);rintro e w292 ⟨rfl,hb⟩;replace HO_4:=rb HO_4 hb;replace HO_10:=rb HO_10 hb;replace HO_528001:=rb HO_528001 hb;replace HO_528002:=rb HO_528002 hb;replace HO_571001:=rb HO_571001 hb;replace HO_571002:=rb HO_571002 hb;replace HO_580001:=rb HO_580001 hb;replace HO_580002:=rb HO_580002 hb;replace HO_590001:=rb HO_590001 hb;replace HO_590002:=rb HO_590002 hb;replace BK527:=kb BK527 hb;replace BK570:=kb BK570 hb;replace BK579:=kb BK579 hb;replace BK589:=kb BK589 hb;replace HB:=ak (below_step (by repeat ((with_reducible first|exact HB.out|apply below_alloc|apply pw_below_drewN|apply below_drew1|refine below_set ?_ GE527.out|refine below_set ?_ GE570.out|refine below_set ?_ GE579.out|refine below_set ?_ GE589.out))) hb);(try clear hb))))
     go_ret
     exact ⟨fe,by repeat ((with_reducible first|exact HB.out|apply below_alloc|apply pw_below_drewN|apply below_drew1|refine below_set ?_ GE527.out|refine below_set ?_ GE570.out|refine below_set ?_ GE579.out|refine below_set ?_ GE589.out))⟩
   rw [if_pos c234] at H
   have c234b0 : (x38_8 == x41_9) = true:=beq_iff_eq.mpr c234
   have c234b1 : (x38_8 != x41_9) = false:=bne_eq_false_iff_eq.mpr c234
   clear c234
   by_cases c235 : x39_8 = t554
   rotate_left
   ·rw [if_neg c235] at H
    have c235b0 : (x39_8 == t554) = false:=beq_eq_false_iff_ne.mpr c235
    have c235b1 : (x39_8 != t554) = true:=bne_iff_ne.mpr c235
    as_aux_lemma =>
     obtain rfl:=Option.some.inj H
     have hnb273:=NB527_570.out
     have hnc273:=NB570_527.out
     have hnb274:=NB527_579.out
     have hnc274:=NB579_527.out
     have hnb275:=NB527_589.out
     have hnc275:=NB589_527.out
     have hcz276_0:=bc BK527 0 rfl
     have hcz276_1:=bc BK527 1 rfl
     have hcz276_2:=bc BK527 2 rfl
     have hfz276_0:=bf BK527 0
     have hfz276_1:=bf BK527 1
     have hfz276_2:=bf BK527 2
     have hnb277:=NB570_579.out
     have hnc277:=NB579_570.out
     have hnb278:=NB570_589.out
     have hnc278:=NB589_570.out
     have hcz279_0:=bc BK570 0 rfl
     have hcz279_1:=bc BK570 1 rfl
     have hcz279_2:=bc BK570 2 rfl
     have hfz279_0:=bf BK570 0
     have hfz279_1:=bf BK570 1
     have hfz279_2:=bf BK570 2
     have go_:=trivial;repeat ((clear go_);try go_wp2_with (first|(go_at_call 17;(with_reducible refine (impl_CountMeets.calls k9 t562 _ _ t563 _ _ t566 t631 true _ ?side1 ?side2 ?side3 ?side4 A230.out).mono ?_);(case side1=>exact cm (R_reads' HO_571001.out).2.2);(case side2=>exact (R_reads' HO_571001.out).2.1);(case side3=>exact cm (R_reads' HO_571002.out).2.2);(case side4=>exact (R_reads' HO_571002.out).2.1);rintro e w280 ⟨rfl,hb⟩;replace HO_4:=rb HO_4 hb;replace HO_10:=rb HO_10 hb;replace HO_528001:=rb HO_528001 hb;replace HO_528002:=rb HO_528002 hb;replace HO_571001:=rb HO_571001 hb;replace HO_571002:=rb HO_571002 hb;replace HO_580001:=rb HO_580001 hb;replace HO_580002:=rb HO_580002 hb;replace HO_590001:=rb HO_590001 hb;replace HO_590002:=rb HO_590002 hb;replace BK527:=kb BK527 hb;replace BK570:=kb BK570 hb;replace BK579:=kb BK579 hb;replace BK589:=kb BK589 hb;replace HB:=ak (below_step (by repeat ((with_reducible first|exact HB.out|apply below_alloc|apply pw_below_drewN|apply below_drew1|refine below_set ?_ GE527.out|refine below_set ?_ GE570.out|refine below_set ?_ GE579.out|refine below_set ?_ GE589.out))) hb);(try clear hb);have hcz281_0:=bc BK570 0 rfl;have hcz281_1:=bc BK570 1 rfl;have hcz281_2:=bc BK570 2 rfl;have hfz281_0:=bf BK570 0;have hfz281_1:=bf BK570 1;have hfz281_2:=bf BK570 2)|(go_at_call 19;(with_reducible refine (impl_LastFall.calls k9 t562 _ _ t563 _ _ t566 t633 true _ ?side1 ?side2 ?side3 ?side4 A231.out).mono ?_);(case side1=>exact cm (R_reads' HO_571001.out).2.2);(case side2=>exact (R_reads' HO_571001.out).2.1);(case side3=>exact cm (R_reads' HO_571002.out).2.2);(case side4=>exact (R_reads' HO_571002.out).2.1);rintro e w282 ⟨rfl,hb⟩;replace HO_4:=rb HO_4 hb;replace HO_10:=rb HO_10 hb;replace HO_528001:=rb HO_528001 hb;replace HO_528002:=rb HO_528002 hb;replace HO_571001:=rb HO_571001 hb;replace HO_571002:=rb HO_571002 hb;replace HO_580001:=rb HO_580001 hb;replace HO_580002:=rb HO_580002 hb;replace HO_590001:=rb HO_590001 hb;replace HO_590002:=rb HO_590002 hb;replace BK527:=kb BK527 hb;replace BK570:=kb BK570 hb;replace BK579:=kb BK579 hb;replace BK589:=kb BK589 hb;replace HB:=ak (below_step (by repeat ((with_reducible first|exact HB.out|apply below_alloc|apply pw_below_drewN|apply below_drew1|refine below_set ?_ GE527.out|refine below_set ?_ GE570.out|refine below_set ?_ GE579.out|refine below_set ?_ GE589.out))) hb);(try clear hb))))
     go_ret
     exact ⟨fe,by repeat ((with_reducible first|exact HB.out|apply below_alloc|apply pw_below_drewN|apply below_drew1|refine below_set ?_ GE527.out|refine below_set ?_ GE570.out|refine below_set ?_ GE579.out|refine below_set ?_ GE589.out))⟩
   rw [if_pos c235] at H
   have c235b0 : (x39_8 == t554) = true:=beq_iff_eq.mpr c235
   have c235b1 : (x39_8 != t554) = false:=bne_eq_false_iff_eq.mpr c235
   clear c235
   obtain ⟨t635,A236,H⟩:=bd H
   obtain ⟨t636,A237,H⟩:=bd H
   by_cases c238 : t635 = t636
   rotate_left
   ·rw [if_neg c238] at H
    have c238b0 : (t635 == t636) = false:=beq_eq_false_iff_ne.mpr c238
    have c238b1 : (t635 != t636) = true:=bne_iff_ne.mpr c238
    as_aux_lemma =>
     obtain rfl:=Option.some.inj H
     have hnb262:=NB527_570.out
     have hnc262:=NB570_527.out
     have hnb263:=NB527_579.out
     have hnc263:=NB579_527.out
     have hnb264:=NB527_589.out
     have hnc264:=NB589_527.out
     have hcz265_0:=bc BK527 0 rfl
     have hcz265_1:=bc BK527 1 rfl
     have hcz265_2:=bc BK527 2 rfl
     have hfz265_0:=bf BK527 0
     have hfz265_1:=bf BK527 1
     have hfz265_2:=bf BK527 2
     have hnb266:=NB570_579.out
     have hnc266:=NB579_570.out
     have hnb267:=NB570_589.out
     have hnc267:=NB589_570.out
     have hcz268_0:=bc BK570 0 rfl
     have hcz268_1:=bc BK570 1 rfl
     have hcz268_2:=bc BK570 2 rfl
     have hfz268_0:=bf BK570 0
     have hfz268_1:=bf BK570 1
     have hfz268_2:=bf BK570 2
     have go_:=trivial;repeat ((clear go_);try go_wp2_with (first|(go_at_call 17;(with_reducible refine (impl_CountMeets.calls k9 t562 _ _ t563 _ _ t566 t631 true _ ?side1 ?side2 ?side3 ?side4 A230.out).mono ?_);(case side1=>exact cm (R_reads' HO_571001.out).2.2);(case side2=>exact (R_reads' HO_571001.out).2.1);(case side3=>exact cm (R_reads' HO_571002.out).2.2);(case side4=>exact (R_reads' HO_571002.out).2.1);rintro e w269 ⟨rfl,hb⟩;replace HO_4:=rb HO_4 hb;replace HO_10:=rb HO_10 hb;replace HO_528001:=rb HO_528001 hb;replace HO_528002:=rb HO_528002 hb;replace HO_571001:=rb HO_571001 hb;replace HO_571002:=rb HO_571002 hb;replace HO_580001:=rb HO_580001 hb;replace HO_580002:=rb HO_580002 hb;replace HO_590001:=rb HO_590001 hb;replace HO_590002:=rb HO_590002 hb;replace BK527:=kb BK527 hb;replace BK570:=kb BK570 hb;replace BK579:=kb BK579 hb;replace BK589:=kb BK589 hb;replace HB:=ak (below_step (by repeat ((with_reducible first|exact HB.out|apply below_alloc|apply pw_below_drewN|apply below_drew1|refine below_set ?_ GE527.out|refine below_set ?_ GE570.out|refine below_set ?_ GE579.out|refine below_set ?_ GE589.out))) hb);(try clear hb);have hcz270_0:=bc BK570 0 rfl;have hcz270_1:=bc BK570 1 rfl;have hcz270_2:=bc BK570 2 rfl;have hfz270_0:=bf BK570 0;have hfz270_1:=bf BK570 1;have hfz270_2:=bf BK570 2)|(go_at_call 19;(with_reducible refine (impl_LastFall.calls k9 t562 _ _ t563 _ _ t566 t633 true _ ?side1 ?side2 ?side3 ?side4 A231.out).mono ?_);(case side1=>exact cm (R_reads' HO_571001.out).2.2);(case side2=>exact (R_reads' HO_571001.out).2.1);(case side3=>exact cm (R_reads' HO_571002.out).2.2);(case side4=>exact (R_reads' HO_571002.out).2.1);rintro e w271 ⟨rfl,hb⟩;replace HO_4:=rb HO_4 hb;replace HO_10:=rb HO_10 hb;replace HO_528001:=rb HO_528001 hb;replace HO_528002:=rb HO_528002 hb;replace HO_571001:=rb HO_571001 hb;replace HO_571002:=rb HO_571002 hb;replace HO_580001:=rb HO_580001 hb;replace HO_580002:=rb HO_580002 hb;replace HO_590001:=rb HO_590001 hb;replace HO_590002:=rb HO_590002 hb;replace BK527:=kb BK527 hb;replace BK570:=kb BK570 hb;replace BK579:=kb BK579 hb;replace BK589:=kb BK589 hb;replace HB:=ak (below_step (by repeat ((with_reducible first|exact HB.out|apply below_alloc|apply pw_below_drewN|apply below_drew1|refine below_set ?_ GE527.out|refine below_set ?_ GE570.out|refine below_set ?_ GE579.out|refine below_set ?_ GE589.out))) hb);(try clear hb))|(go_at_call 38;(with_reducible refine (laws_rSum.calls k9 _ _ t528 t635 _ ?side1 ?side2 A236.out).mono ?_);(case side1=>exact cm (R_reads' HO_4.out).2.2);(case side2=>exact (R_reads' HO_4.out).2.1);rintro e w' ⟨rfl,⟨nd,rfl⟩⟩;(try first|exact ⟨rfl,_,World.drewN_drewN _ _ _⟩|exact ⟨rfl,_,Eq.trans (World.drewN_drewN _ _ _) (congrArg (World.drewN _) (Nat.add_assoc _ _ _))⟩);obtain ⟨Ao272,co272,eo272⟩:=R_slice HO_10.out;subst eo272)|(go_at_call 38;(with_reducible refine (laws_rSum.calls k9 _ _ t545 t636 _ ?side1 ?side2 A237.out).mono ?_);(case side1=>exact cm (R_reads' HO_10.out).2.2);(case side2=>exact (R_reads' HO_10.out).2.1);rintro e w' ⟨rfl,⟨nd,rfl⟩⟩;(try first|exact ⟨rfl,_,World.drewN_drewN _ _ _⟩|exact ⟨rfl,_,Eq.trans (World.drewN_drewN _ _ _) (congrArg (World.drewN _) (Nat.add_assoc _ _ _))⟩))))
     go_ret
     exact ⟨fe,by repeat ((with_reducible first|exact HB.out|apply below_alloc|apply pw_below_drewN|apply below_drew1|refine below_set ?_ GE527.out|refine below_set ?_ GE570.out|refine below_set ?_ GE579.out|refine below_set ?_ GE589.out))⟩
   rw [if_pos c238] at H
   have c238b0 : (t635 == t636) = true:=beq_iff_eq.mpr c238
   have c238b1 : (t635 != t636) = false:=bne_eq_false_iff_eq.mpr c238
   clear c238
   by_cases c239 : t631 = t558
   rotate_left
   ·rw [if_neg c239] at H
    have c239b0 : (t631 == t558) = false:=beq_eq_false_iff_ne.mpr c239
    have c239b1 : (t631 != t558) = true:=bne_iff_ne.mpr c239
    as_aux_lemma =>
     obtain rfl:=Option.some.inj H
     have hnb251:=NB527_570.out
     have hnc251:=NB570_527.out
     have hnb252:=NB527_579.out
     have hnc252:=NB579_527.out
     have hnb253:=NB527_589.out
     have hnc253:=NB589_527.out
     have hcz254_0:=bc BK527 0 rfl
     have hcz254_1:=bc BK527 1 rfl
     have hcz254_2:=bc BK527 2 rfl
     have hfz254_0:=bf BK527 0
     have hfz254_1:=bf BK527 1
     have hfz254_2:=bf BK527 2
     have hnb255:=NB570_579.out
     have hnc255:=NB579_570.out
     have hnb256:=NB570_589.out
     have hnc256:=NB589_570.out
     have hcz257_0:=bc BK570 0 rfl
     have hcz257_1:=bc BK570 1 rfl
     have hcz257_2:=bc BK570 2 rfl
     have hfz257_0:=bf BK570 0
     have hfz257_1:=bf BK570 1
     have hfz257_2:=bf BK570 2
     have go_:=trivial;repeat ((clear go_);try go_wp2_with (first|(go_at_call 17;(with_reducible refine (impl_CountMeets.calls k9 t562 _ _ t563 _ _ t566 t631 true _ ?side1 ?side2 ?side3 ?side4 A230.out).mono ?_);(case side1=>exact cm (R_reads' HO_571001.out).2.2);(case side2=>exact (R_reads' HO_571001.out).2.1);(case side3=>exact cm (R_reads' HO_571002.out).2.2);(case side4=>exact (R_reads' HO_571002.out).2.1);rintro e w258 ⟨rfl,hb⟩;replace HO_4:=rb HO_4 hb;replace HO_10:=rb HO_10 hb;replace HO_528001:=rb HO_528001 hb;replace HO_528002:=rb HO_528002 hb;replace HO_571001:=rb HO_571001 hb;replace HO_571002:=rb HO_571002 hb;replace HO_580001:=rb HO_580001 hb;replace HO_580002:=rb HO_580002 hb;replace HO_590001:=rb HO_590001 hb;replace HO_590002:=rb HO_590002 hb;replace BK527:=kb BK527 hb;replace BK570:=kb BK570 hb;replace BK579:=kb BK579 hb;replace BK589:=kb BK589 hb;replace HB:=ak (below_step (by repeat ((with_reducible first|exact HB.out|apply below_alloc|apply pw_below_drewN|apply below_drew1|refine below_set ?_ GE527.out|refine below_set ?_ GE570.out|refine below_set ?_ GE579.out|refine below_set ?_ GE589.out))) hb);(try clear hb);have hcz259_0:=bc BK570 0 rfl;have hcz259_1:=bc BK570 1 rfl;have hcz259_2:=bc BK570 2 rfl;have hfz259_0:=bf BK570 0;have hfz259_1:=bf BK570 1;have hfz259_2:=bf BK570 2)|(go_at_call 19;(with_reducible refine (impl_LastFall.calls k9 t562 _ _ t563 _ _ t566 t633 true _ ?side1 ?side2 ?side3 ?side4 A231.out).mono ?_);(case side1=>exact cm (R_reads' HO_571001.out).2.2);(case side2=>exact (R_reads' HO_571001.out).2.1);(case side3=>exact cm (R_reads' HO_571002.out).2.2);(case side4=>exact (R_reads' HO_571002.out).2.1);rintro e w260 ⟨rfl,hb⟩;replace HO_4:=rb HO_4 hb;replace HO_10:=rb HO_10 hb;replace HO_528001:=rb HO_528001 hb;replace HO_528002:=rb HO_528002 hb;replace HO_571001:=rb HO_571001 hb;replace HO_571002:=rb HO_571002 hb;replace HO_580001:=rb HO_580001 hb;replace HO_580002:=rb HO_580002 hb;replace HO_590001:=rb HO_590001 hb;replace HO_590002:=rb HO_590002 hb;replace BK527:=kb BK527 hb;replace BK570:=kb BK570 hb;replace BK579:=kb BK579 hb;replace BK589:=kb BK589 hb;replace HB:=ak (below_step (by repeat ((with_reducible first|exact HB.out|apply below_alloc|apply pw_below_drewN|apply below_drew1|refine below_set ?_ GE527.out|refine below_set ?_ GE570.out|refine below_set ?_ GE579.out|refine below_set ?_ GE589.out))) hb);(try clear hb))|(go_at_call 38;(with_reducible refine (laws_rSum.calls k9 _ _ t528 t635 _ ?side1 ?side2 A236.out).mono ?_);(case side1=>exact cm (R_reads' HO_4.out).2.2);(case side2=>exact (R_reads' HO_4.out).2.1);rintro e w' ⟨rfl,⟨nd,rfl⟩⟩;(try first|exact ⟨rfl,_,World.drewN_drewN _ _ _⟩|exact ⟨rfl,_,Eq.trans (World.drewN_drewN _ _ _) (congrArg (World.drewN _) (Nat.add_assoc _ _ _))⟩);obtain ⟨Ao261,co261,eo261⟩:=R_slice HO_10.out;subst eo261)|(go_at_call 38;(with_reducible refine (laws_rSum.calls k9 _ _ t545 t636 _ ?side1 ?side2 A237.out).mono ?_);(case side1=>exact cm (R_reads' HO_10.out).2.2);(case side2=>exact (R_reads' HO_10.out).2.1);rintro e w' ⟨rfl,⟨nd,rfl⟩⟩;(try first|exact ⟨rfl,_,World.drewN_drewN _ _ _⟩|exact ⟨rfl,_,Eq.trans (World.drewN_drewN _ _ _) (congrArg (World.drewN _) (Nat.add_assoc _ _ _))⟩))))
     go_ret
     exact ⟨fe,by repeat ((with_reducible first|exact HB.out|apply below_alloc|apply pw_below_drewN|apply below_drew1|refine below_set ?_ GE527.out|refine below_set ?_ GE570.out|refine below_set ?_ GE579.out|refine below_set ?_ GE589.out))⟩
   rw [if_pos c239] at H
   have c239b0 : (t631 == t558) = true:=beq_iff_eq.mpr c239
   have c239b1 : (t631 != t558) = false:=bne_eq_false_iff_eq.mpr c239
   clear c239
   as_aux_lemma =>
    obtain rfl:=Option.some.inj H
    have hnb240:=NB527_570.out
    have hnc240:=NB570_527.out
    have hnb241:=NB527_579.out
    have hnc241:=NB579_527.out
    have hnb242:=NB527_589.out
    have hnc242:=NB589_527.out
    have hcz243_0:=bc BK527 0 rfl
    have hcz243_1:=bc BK527 1 rfl
    have hcz243_2:=bc BK527 2 rfl
    have hfz243_0:=bf BK527 0
    have hfz243_1:=bf BK527 1
    have hfz243_2:=bf BK527 2
    have hnb244:=NB570_579.out
    have hnc244:=NB579_570.out
    have hnb245:=NB570_589.out
    have hnc245:=NB589_570.out
    have hcz246_0:=bc BK570 0 rfl
    have hcz246_1:=bc BK570 1 rfl
    have hcz246_2:=bc BK570 2 rfl
    have hfz246_0:=bf BK570 0
    have hfz246_1:=bf BK570 1
    have hfz246_2:=bf BK570 2
    have go_:=trivial;repeat ((clear go_);try go_wp2_with (first|(go_at_call 17;(with_reducible refine (impl_CountMeets.calls k9 t562 _ _ t563 _ _ t566 t631 true _ ?side1 ?side2 ?side3 ?side4 A230.out).mono ?_);(case side1=>exact cm (R_reads' HO_571001.out).2.2);(case side2=>exact (R_reads' HO_571001.out).2.1);(case side3=>exact cm (R_reads' HO_571002.out).2.2);(case side4=>exact (R_reads' HO_571002.out).2.1);rintro e w247 ⟨rfl,hb⟩;replace HO_4:=rb HO_4 hb;replace HO_10:=rb HO_10 hb;replace HO_528001:=rb HO_528001 hb;replace HO_528002:=rb HO_528002 hb;replace HO_571001:=rb HO_571001 hb;replace HO_571002:=rb HO_571002 hb;replace HO_580001:=rb HO_580001 hb;replace HO_580002:=rb HO_580002 hb;replace HO_590001:=rb HO_590001 hb;replace HO_590002:=rb HO_590002 hb;replace BK527:=kb BK527 hb;replace BK570:=kb BK570 hb;replace BK579:=kb BK579 hb;replace BK589:=kb BK589 hb;replace HB:=ak (below_step (by repeat ((with_reducible first|exact HB.out|apply below_alloc|apply pw_below_drewN|apply below_drew1|refine below_set ?_ GE527.out|refine below_set ?_ GE570.out|refine below_set ?_ GE579.out|refine below_set ?_ GE589.out))) hb);(try clear hb);have hcz248_0:=bc BK570 0 rfl;have hcz248_1:=bc BK570 1 rfl;have hcz248_2:=bc BK570 2 rfl;have hfz248_0:=bf BK570 0;have hfz248_1:=bf BK570 1;have hfz248_2:=bf BK570 2)|(go_at_call 19;(with_reducible refine (impl_LastFall.calls k9 t562 _ _ t563 _ _ t566 t633 true _ ?side1 ?side2 ?side3 ?side4 A231.out).mono ?_);(case side1=>exact cm (R_reads' HO_571001.out).2.2);(case side2=>exact (R_reads' HO_571001.out).2.1);(case side3=>exact cm (R_reads' HO_571002.out).2.2);(case side4=>exact (R_reads' HO_571002.out).2.1);rintro e w249 ⟨rfl,hb⟩;replace HO_4:=rb HO_4 hb;replace HO_10:=rb HO_10 hb;replace HO_528001:=rb HO_528001 hb;replace HO_528002:=rb HO_528002 hb;replace HO_571001:=rb HO_571001 hb;replace HO_571002:=rb HO_571002 hb;replace HO_580001:=rb HO_580001 hb;replace HO_580002:=rb HO_580002 hb;replace HO_590001:=rb HO_590001 hb;replace HO_590002:=rb HO_590002 hb;replace BK527:=kb BK527 hb;replace BK570:=kb BK570 hb;replace BK579:=kb BK579 hb;replace BK589:=kb BK589 hb;replace HB:=ak (below_step (by repeat ((with_reducible first|exact HB.out|apply below_alloc|apply pw_below_drewN|apply below_drew1|refine below_set ?_ GE527.out|refine below_set ?_ GE570.out|refine below_set ?_ GE579.out|refine below_set ?_ GE589.out))) hb);(try clear hb))|(go_at_call 38;(with_reducible refine (laws_rSum.calls k9 _ _ t528 t635 _ ?side1 ?side2 A236.out).mono ?_);(case side1=>exact cm (R_reads' HO_4.out).2.2);(case side2=>exact (R_reads' HO_4.out).2.1);rintro e w' ⟨rfl,⟨nd,rfl⟩⟩;(try first|exact ⟨rfl,_,World.drewN_drewN _ _ _⟩|exact ⟨rfl,_,Eq.trans (World.drewN_drewN _ _ _) (congrArg (World.drewN _) (Nat.add_assoc _ _ _))⟩);obtain ⟨Ao250,co250,eo250⟩:=R_slice HO_10.out;subst eo250)|(go_at_call 38;(with_reducible refine (laws_rSum.calls k9 _ _ t545 t636 _ ?side1 ?side2 A237.out).mono ?_);(case side1=>exact cm (R_reads' HO_10.out).2.2);(case side2=>exact (R_reads' HO_10.out).2.1);rintro e w' ⟨rfl,⟨nd,rfl⟩⟩;(try first|exact ⟨rfl,_,World.drewN_drewN _ _ _⟩|exact ⟨rfl,_,Eq.trans (World.drewN_drewN _ _ _) (congrArg (World.drewN _) (Nat.add_assoc _ _ _))⟩))))
    go_ret
    exact ⟨fe,by repeat ((with_reducible first|exact HB.out|apply below_alloc|apply pw_below_drewN|apply below_drew1|refine below_set ?_ GE527.out|refine below_set ?_ GE570.out|refine below_set ?_ GE579.out|refine below_set ?_ GE589.out))⟩

end
end Go.Proofs.Ytciihopkgblpkaa.QFnWires
