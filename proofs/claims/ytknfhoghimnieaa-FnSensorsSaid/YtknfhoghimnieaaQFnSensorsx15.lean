/- Functions that the law FnSensors comes to, as Lean functions, with the proof that the Go code does what they say: written by a program of this session over the kit's print. No condition but those named. -/
import Derived.Test.YtknfhoghimnieaaQFnSensorsx0
import Derived.Test.YtknfhoghimnieaaQFnSensorsx4
import Derived.Test.YtknfhoghimnieaaQFnSensorsx5
import Derived.Test.YtknfhoghimnieaaQFnSensorsx6
import Derived.Test.YtknfhoghimnieaaQFnSensorsx7
import Derived.Test.YtknfhoghimnieaaQFnSensorsx8
import Derived.Test.YtknfhoghimnieaaQFnSensorsx9
import Derived.Test.YtknfhoghimnieaaQFnSensorsx10
import Derived.Test.YtknfhoghimnieaaQFnSensorsx12
import Derived.Test.YtknfhoghimnieaaQFnSensorsx13
import Derived.Test.YtknfhoghimnieaaQFnSensorsx14
namespace Go.Proofs.Ytknfhoghimnieaa.QFnSensors
open Go.RowKit Go.Proofs.YtknfhoghimnieaaW.PrintWords Go.Proofs.YtknfhoghimnieaaW.PrintLast Go.Proofs.YtknfhoghimnieaaW.PrintMore Go.Proofs.Ytknfhoghimnieaa.Short
attribute [local go_sem] max2_int min2_int max_two min_two max_three min_three max_four min_four   -- for this text's walks alone
set_option linter.unusedVariables false
set_option linter.unusedSimpArgs false

section
open Kd
set_option maxHeartbeats 8000000 in
set_option maxRecDepth 1000000 in
theorem laws_FnSensors.rest4 {k : Nat} {A0 : Option Addr} {c0 : Nat} {l0 : List Int} {r : Bool} {w : World} {t470 : Int} {t471 : Bool} {t472 : List S59} {t476 : List Int} {t483 : Bool} {t484 : List S54} {t487 t491 : Bool} {t492 : Int} {t493 : Bool} {t494 : Int} {t495 : Bool} {t496 : List Int} {t499 t503 t504 t505 t506 t507 : Bool} {t511 : Int} {t512 : Bool} {t513 : List S59} {t520 t524 : Bool} {gb475 : Nat} {Ao23 : Option Addr} {co23 : Nat} {v481 v489 v497 v501 : Value} {gb516 : Nat} {Ao49 : Option Addr} {co49 : Nat} {v518 v522 : Value} {kj18 : Nat} {u31 u32 u33 u34 u35 u36 u37 : Value} {kj138 co192 : Nat} {ad544 : Addr} {x38_3 x39_3 x41_3 : Int} {k3 : Nat} {u2 u43 : Value} {x40_4 x42_4 : Int} {k4 : Nat} {Ao219 : Option Addr} {co219 : Nat} {wc : World} {u48 u49 u50 u51 u52 u53 u54 u55 u56 u57 u58 u59 u60 u61 u62 u63 u64 u65 u66 u67 u68 u69 u70 u71 u72 u73 u74 u75 u76 u77 u78 u79 u80 u81 u82 u83 u84 u85 u86 u87 u88 u89 u90 u91 u92 u93 u94 u95 u96 u97 u98 u99 u100 u101 u102 u103 u104 u105 u106 u107 u108 u109 u110 u111 u112 u113 u114 u115 u116 u117 u118 u119 u120 u121 u122 u123 u124 u125 u126 u127 u128 u129 u130 u131 u132 u133 u134 u135 u136 u137 u138 u139 u140 u141 u142 u143 u144 u145 u146 u147 u148 u149 u150 u151 u152 u153 u154 u155 u156 u157 u158 u159 u160 u161 u162 u163 u164 u165 u166 u167 u168 u169 u170 u171 u172 u173 u174 u175 u176 u177 u178 u179 u180 u181 u182 u183 u184 u185 u186 u187 u188 u189 u190 u191 u192 u193 u194 u195 u196 u197 u198 u199 u200 u201 u202 u203 u204 u205 u206 u207 u208 u209 u210 u211 u212 u213 u214 u215 u216 u217 u218 u219 u220 u221 u222 u223 u224 u225 u226 u227 u228 u229 u230 u231 u232 u233 u234 u235 u236 u237 u238 u239 u240 u241 u242 u243 u244 u245 u246 u247 u248 u249 u250 u251 u252 u253 u254 u255 u256 u257 u258 u259 u260 u261 u262 u263 u264 u265 u266 u267 u268 u269 u270 u271 u272 u273 u274 u275 u276 u277 u278 u279 u280 u281 u282 u283 u284 u285 u286 u287 u288 u289 u290 u291 u292 u293 u294 u295 u296 u297 u298 u299 u300 u301 u302 u303 u304 u305 u306 u307 u308 u309 u310 u311 u312 u313 u314 u315 u316 u317 u318 u319 u320 u321 u322 u323 u324 u325 u326 u327 u328 u329 u330 u331 u332 u334 u335 u336 u337 u338 u339 u340 u341 u342 u343 u344 u345 u346 u347 u348 u349 u350 u351 u352 u353 u354 u355 u356 u357 u358 u359 u360 u361 u362 u363 u364 u365 u366 u367 u368 u369 u370 u371 : Value} {kj217 : Nat} {K1 K : Act → World → Prop} (hK1 : ∀ a w_, Code.wp Try.prog (follow [true, true, true, true, true, true, true, true, true, true, true, true, true, true, true, true, true, true, true, true, true, true, true] (Try.f9.body.getD Code.skip)) (bodyPost Try.prog Try.f9 fun e w' => e = Ending.returned (Value.bool r) ∧ Below w.heap.size w w') a w_ → K1 a w_) (hK : ∀ a w_, Code.wp Try.prog (follow [true, true, true, true, true, true, true, true, true, true, true, true, true, true, true, true, true, true, true, true, true, true, false, true] (Try.f9.body.getD Code.skip)) (Exit.then K1 (bodyPost Try.prog Try.f9 fun e w' => e = Ending.returned (Value.bool r) ∧ Below w.heap.size w w')) a w_ → K a w_) (GE475 : Aside0 (w.heap.size ≤ gb475)) (GE516 : Aside0 (w.heap.size ≤ gb516)) (NB475_516 : Aside0 (gb475 ≠ gb516)) (NB516_475 : Aside0 (gb516 ≠ gb475)) (HJ18 : Aside0 (kj18 + 1 ≤ k)) (HJ138 : Aside0 (kj138 + 1 ≤ kj18)) (HK3 : Aside0 (k3 + 1 ≤ kj138)) (HK4 : Aside0 (k4 + 1 ≤ k3)) (HO_4 : Aside0 (k59.R 59 wc w.heap.size (fun x => True) (Value.slice Ao23 t472.length co23) t472)) (HO_17 : Aside0 ((int IntKind.i64).R 3 wc w.heap.size (fun x => True) v497 t496)) (BK475 : Aside0 (wc.heap[gb475]? = some (Obj.cells #[Value.int IntKind.i64 t470, Value.bool t471] 28))) (BK516 : Aside0 (wc.heap[gb516]? = some (Obj.cells #[Value.int IntKind.i64 t511, Value.bool t512] 28))) (HB : Aside0 (Below w.heap.size w wc)) (HJ217 : Aside0 (kj217 + 1 ≤ k4)) (H : l4 kj217 t472 t492 t496 0 t470 t471 = some r) :
  K { tmps := #[Value.slice A0 l0.length c0, undef, u2, Value.pointer (some { block := gb475, off := 0 }), Value.slice Ao23 t472.length co23, Value.slice (some ad544) t476.length co192, Value.bool true, v481, Value.bool t483, Value.slice Ao219 t484.length co219, Value.bool t487, v489, Value.bool t491, Value.int IntKind.i64 t492, Value.bool t493, Value.int IntKind.i64 t494, Value.bool t495, v497, Value.bool t499, v501, Value.bool t503, Value.bool t504, Value.bool t505, Value.bool t506, Value.bool t507, Value.pointer (some { block := gb516, off := 0 }), Value.slice Ao49 t513.length co49, v518, Value.bool t520, v522, Value.bool t524, u31, u32, u33, u34, u35, u36, u37, Value.int IntKind.i64 x38_3, Value.int IntKind.i64 x39_3, Value.int IntKind.i64 x40_4, Value.int IntKind.i64 x41_3, Value.int IntKind.i64 x42_4, u43, undef, undef, undef, undef, u48, u49, u50, u51, u52, u53, u54, u55, u56, u57, u58, u59, u60, u61, u62, u63, u64, u65, u66, u67, u68, u69, u70, u71, u72, u73, u74, u75, u76, u77, u78, u79, u80, u81, u82, u83, u84, u85, u86, u87, u88, u89, u90, u91, u92, u93, u94, u95, u96, u97, u98, u99, u100, u101, u102, u103, u104, u105, u106, u107, u108, u109, u110, u111, u112, u113, u114, u115, u116, u117, u118, u119, u120, u121, u122, u123, u124, u125, u126, u127, u128, u129, u130, u131, u132, u133, u134, u135, u136, u137, u138, u139, u140, u141, u142, u143, u144, u145, u146, u147, u148, u149, u150, u151, u152, u153, u154, u155, u156, u157, u158, u159, u160, u161, u162, u163, u164, u165, u166, u167, u168, u169, u170, u171, u172, u173, u174, u175, u176, u177, u178, u179, u180, u181, u182, u183, u184, u185, u186, u187, u188, u189, u190, u191, u192, u193, u194, u195, u196, u197, u198, u199, u200, u201, u202, u203, u204, u205, u206, u207, u208, u209, u210, u211, u212, u213, u214, u215, u216, u217, u218, u219, u220, u221, u222, u223, u224, u225, u226, u227, u228, u229, u230, u231, u232, u233, u234, u235, u236, u237, u238, u239, u240, u241, u242, u243, u244, u245, u246, u247, u248, u249, u250, u251, u252, u253, u254, u255, u256, u257, u258, u259, u260, u261, u262, u263, u264, u265, u266, u267, u268, u269, u270, u271, u272, u273, u274, u275, u276, u277, u278, u279, u280, u281, u282, u283, u284, u285, u286, u287, u288, u289, u290, u291, u292, u293, u294, u295, u296, u297, u298, u299, u300, u301, u302, u303, u304, u305, u306, u307, u308, u309, u310, u311, u312, u313, u314, u315, u316, u317, u318, u319, u320, u321, u322, u323, u324, u325, u326, u327, u328, u329, u330, u331, u332, Value.bool false, u334, u335, u336, u337, u338, u339, u340, u341, u342, u343, u344, u345, u346, u347, u348, u349, u350, u351, u352, u353, u354, u355, u356, u357, u358, u359, u360, u361, u362, u363, u364, u365, u366, u367, u368, u369, u370, u371], defers := [] } wc := by
 have hu28:=Try.underlying28
 conv at hK1 => enter [a, w_, 1, 2]; whnf
 conv at hK => enter [a, w_, 1, 2]; whnf
 have H':=Aside0.mk H
 clear H
 go_wp2
 go_loopg [44] kj217 (fun kq v44 w'=>∃ (x44_6 : Int),v44 = .int .i64 x44_6 ∧ Aside0 (laws_FnSensors.l4 kq t472 t492 t496 x44_6 t470 t471 = some r) ∧ Aside0 (kq ≤ kj217) ∧ Aside0 (Kd.R k59 59 w' w.heap.size (fun _=>True) (.slice Ao23 t472.length co23) t472) ∧ Aside0 (Kd.R (Kd.int .i64) 3 w' w.heap.size (fun _=>True) v497 t496) ∧ Aside0 (w'.heap[gb475]? = some (.cells #[.int .i64 t470,.bool t471] 28 (0,0))) ∧ Aside0 (w'.heap[gb516]? = some (.cells #[.int .i64 t511,.bool t512] 28 (0,0))) ∧ Aside0 (Below w.heap.size w w'))
 case atStart=>exact ⟨(0),fd,H',⟨Nat.le_refl _⟩,⟨rm HO_4.out⟩,⟨rm HO_17.out⟩,⟨bm BK475.out⟩,⟨bm BK516.out⟩,⟨h2 HB.out GE475.out GE516.out⟩⟩
 clear H'
 try clear c1
 try clear c2
 try clear p2
 try clear p5
 try clear q5
 try clear hx5
 try clear qi5
 try clear c6
 try clear p6
 try clear c7
 try clear c8
 try clear c9
 try clear c13
 try clear c14
 try clear c15
 try clear c16
 try clear c17
 try clear c18
 try clear c19
 try clear c20
 try clear c21
 try clear c22
 try clear p53
 try clear q53
 try clear hx53
 try clear p54
 try clear q54
 try clear hx54
 try clear qi54
 try clear p55
 try clear q55
 try clear hx55
 try clear c62
 try clear c62b0
 try clear c62b1
 try clear c62b2
 try clear p64
 try clear c67
 try clear c67b0
 try clear c67b1
 try clear c67b2
 try clear c73
 try clear c74
 try clear c74b0
 try clear c74b1
 try clear c74b2
 try clear c81
 try clear c81b0
 try clear c81b1
 try clear c81b2
 try clear c88
 try clear c88b0
 try clear c88b1
 try clear c88b2
 try clear c96
 try clear c97
 try clear c138
 try clear c140
 try clear c143
 try clear c150
 try clear c151
 try clear c152
 try clear c154
 try clear c155
 try clear c155b0
 try clear c156
 try clear c156b0
 try clear c158
 try clear c158b0
 try clear c159
 try clear c159b0
 try clear c160
 try clear c160b0
 try clear c160b1
 try clear c168
 try clear c169
 try clear c170
 try clear c172
 try clear c173
 try clear c177
 try clear c181
 try clear c184
 try clear c187
 try clear c190
 try clear c191
 try clear c191b0
 try clear c191b1
 try clear c193
 try clear c193b0
 try clear c194
 try clear c194b0
 try clear c195
 try clear c195b0
 try clear c196
 try clear c196b0
 try clear c197
 try clear c197b0
 try clear c197b1
 try clear c198
 try clear c200
 try clear c202
 try clear c202b0
 try clear c202b1
 try clear c203
 try clear c205
 try clear c207
 try clear c209
 try clear c209b0
 try clear c210
 try clear c210b0
 try clear c212
 try clear c212b0
 try clear c213
 try clear c213b0
 try clear c214
 try clear c214b0
 try clear c215
 try clear c215b0
 try clear c216
 try clear c216b0
 try clear c217
 try clear c217b0
 try clear c217b1
 try clear c220
 try clear c220b0
 try clear c220b1
 try clear c221
 try clear c221b0
 try clear c221b1
 try clear c222
 try clear hcz144_0
 try clear hcz144_1
 try clear hcz146_0
 try clear hcz146_1
 try clear hcz153_0
 try clear hcz153_1
 try clear hcz174_0
 try clear hcz174_1
 try clear hcz178_0
 try clear hcz178_1
 try clear hcz182_0
 try clear hcz182_1
 try clear hcz185_0
 try clear hcz185_1
 try clear hcz188_0
 try clear hcz188_1
 try clear hcz199_0
 try clear hcz199_1
 try clear hcz201_0
 try clear hcz201_1
 try clear hcz204_0
 try clear hcz204_1
 try clear hcz206_0
 try clear hcz206_1
 try clear hcz208_0
 try clear hcz208_1
 try clear hcz22_0
 try clear hcz22_1
 try clear hcz25_0
 try clear hcz25_1
 try clear hcz27_0
 try clear hcz27_1
 try clear hcz29_0
 try clear hcz29_1
 try clear hcz31_0
 try clear hcz31_1
 try clear hcz33_0
 try clear hcz33_1
 try clear hcz35_0
 try clear hcz35_1
 try clear hcz37_0
 try clear hcz37_1
 try clear hcz39_0
 try clear hcz39_1
 try clear hcz41_0
 try clear hcz41_1
 try clear hcz48_0
 try clear hcz48_1
 try clear hcz51_0
 try clear hcz51_1
 try clear hfz144_0
 try clear hfz144_1
 try clear hfz146_0
 try clear hfz146_1
 try clear hfz153_0
 try clear hfz153_1
 try clear hfz174_0
 try clear hfz174_1
 try clear hfz178_0
 try clear hfz178_1
 try clear hfz182_0
 try clear hfz182_1
 try clear hfz185_0
 try clear hfz185_1
 try clear hfz188_0
 try clear hfz188_1
 try clear hfz199_0
 try clear hfz199_1
 try clear hfz201_0
 try clear hfz201_1
 try clear hfz204_0
 try clear hfz204_1
 try clear hfz206_0
 try clear hfz206_1
 try clear hfz208_0
 try clear hfz208_1
 try clear hfz22_0
 try clear hfz22_1
 try clear hfz25_0
 try clear hfz25_1
 try clear hfz27_0
 try clear hfz27_1
 try clear hfz29_0
 try clear hfz29_1
 try clear hfz31_0
 try clear hfz31_1
 try clear hfz33_0
 try clear hfz33_1
 try clear hfz35_0
 try clear hfz35_1
 try clear hfz37_0
 try clear hfz37_1
 try clear hfz39_0
 try clear hfz39_1
 try clear hfz41_0
 try clear hfz41_1
 try clear hfz48_0
 try clear hfz48_1
 try clear hfz51_0
 try clear hfz51_1
 try clear hx537_0
 try clear hx538_0
 try clear hx544_0
 try clear hx545_0
 try clear hx546_0
 try clear hx547_0
 try clear hx548_0
 try clear hx549_0
 try clear hx549_1
 try clear hx550_0
 try clear hx550_1
 try clear hx551_0
 try clear p2
 try clear p5
 try clear p53
 try clear p537
 try clear p538
 try clear p54
 try clear p544
 try clear p545
 try clear p546
 try clear p547
 try clear p548
 try clear p549
 try clear p55
 try clear p550
 try clear p551
 try clear p6
 try clear p64
 try clear q5
 try clear q53
 try clear q537
 try clear q538
 try clear q54
 try clear q544
 try clear q545
 try clear q546
 try clear q547
 try clear q548
 try clear q549
 try clear q55
 try clear q550
 try clear q551
 obtain ⟨x44_6,rfl,HA,HK6,HO_4,HO_17,BK475,BK516,HB⟩:=hrel
 cases gk with
 | zero=>exact absurd HA.out (by simp [laws_FnSensors.l4])
 | succ k6 =>
  have H:=HA.out
  clear HA
  simp only [laws_FnSensors.l4] at H
  by_cases c223 : x44_6 < (t472.length : Int)
  rotate_left
  ·rw [if_neg c223] at H
   have c223b0 : decide (x44_6 < (t472.length : Int)) = false:=decide_eq_false c223
   clear c223
   as_aux_lemma =>
    obtain rfl:=Option.some.inj H
    go_wp2
    go_ret
    exact ⟨fe,h2 HB.out GE475.out GE516.out⟩
  rw [if_pos c223] at H
  have c223b0 : decide (x44_6 < (t472.length : Int)) = true:=decide_eq_true c223
  clear c223
  obtain ⟨y552,hy552⟩ : ∃ y_ : List (S59),y_ = (([] : List (S59))):=⟨_,rfl⟩
  replace H : (if 0 ≤ x44_6 then (if x44_6 ≤ (t472.length : Int) then ((some (t472.take (x44_6 : Int).toNat : List (S59))).bind fun y555=>(if y552.length + y555.length < 8796093022208 then ((some (y552 ++ y555 : List (S59))).bind fun y559=>(if 0 ≤ (wrap64 (x44_6 + 1)) then (if (wrap64 (x44_6 + 1)) ≤ (t472.length : Int) then ((some (t472.drop ((wrap64 (x44_6 + 1)) : Int).toNat : List (S59))).bind fun y562=>(if y559.length + y562.length < 8796093022208 then ((impl_StrengthOf.f k6 t470 t471 (y559 ++ y562)).bind fun bt569=>(if bt569.2 = true then ((laws_vHas.f k6 t496 x44_6).bind fun t571=>(if (t571 != (decide (bt569.1 > 0))) = true then (some false) else (if bt569.1 < (wrap64 (t492 - 1)) then (some false) else (laws_FnSensors.l4 k6 t472 t492 t496 (wrap64 (x44_6 + 1)) t470 t471)))) else (some false))) else (none))) else (none)) else (none))) else (none))) else (none)) else (none)) = some r:=by first|(rw [hy552];with_reducible exact H)|(have H2_:=(Option.bind_some _ _).symm.trans H;rw [hy552];with_reducible exact H2_)|(have H2_:=(Option.bind_some _ _).symm.trans H;with_reducible exact H2_)|with_reducible exact H|(rw [hy552];exact H)|exact H
  have Ny552:=Aside0.mk hy552
  clear hy552
  by_cases c224 : 0 ≤ x44_6
  rotate_left
  ·rw [if_neg c224] at H
   exact absurd H (by simp)
  rw [if_pos c224] at H
  have c224b0:=eq_true c224
  have c224b1 : decide (0 ≤ x44_6) = true:=decide_eq_true c224
  clear c224
  by_cases c225 : x44_6 ≤ (t472.length : Int)
  rotate_left
  ·rw [if_neg c225] at H
   exact absurd H (by simp)
  rw [if_pos c225] at H
  have c225b0:=eq_true c225
  have c225b1 : decide (x44_6 ≤ (t472.length : Int)) = true:=decide_eq_true c225
  clear c225
  obtain ⟨y555,hy555⟩ : ∃ y_ : List (S59),y_ = (t472.take (x44_6 : Int).toNat):=⟨_,rfl⟩
  replace H : (if y552.length + y555.length < 8796093022208 then ((some (y552 ++ y555 : List (S59))).bind fun y559=>(if 0 ≤ (wrap64 (x44_6 + 1)) then (if (wrap64 (x44_6 + 1)) ≤ (t472.length : Int) then ((some (t472.drop ((wrap64 (x44_6 + 1)) : Int).toNat : List (S59))).bind fun y562=>(if y559.length + y562.length < 8796093022208 then ((impl_StrengthOf.f k6 t470 t471 (y559 ++ y562)).bind fun bt569=>(if bt569.2 = true then ((laws_vHas.f k6 t496 x44_6).bind fun t571=>(if (t571 != (decide (bt569.1 > 0))) = true then (some false) else (if bt569.1 < (wrap64 (t492 - 1)) then (some false) else (laws_FnSensors.l4 k6 t472 t492 t496 (wrap64 (x44_6 + 1)) t470 t471)))) else (some false))) else (none))) else (none)) else (none))) else (none)) = some r:=by first|(rw [hy555];with_reducible exact H)|(have H2_:=(Option.bind_some _ _).symm.trans H;rw [hy555];with_reducible exact H2_)|(have H2_:=(Option.bind_some _ _).symm.trans H;with_reducible exact H2_)|with_reducible exact H|(rw [hy555];exact H)|exact H
  have Ny555:=Aside0.mk hy555
  clear hy555
  by_cases c226 : y552.length + y555.length < 8796093022208
  rotate_left
  ·rw [if_neg c226] at H
   exact absurd H (by simp)
  rw [if_pos c226] at H
  have LMc226:=Aside0.mk c226
  clear c226
  obtain ⟨y559,hy559⟩ : ∃ y_ : List (S59),y_ = (y552 ++ y555):=⟨_,rfl⟩
  replace H : (if 0 ≤ (wrap64 (x44_6 + 1)) then (if (wrap64 (x44_6 + 1)) ≤ (t472.length : Int) then ((some (t472.drop ((wrap64 (x44_6 + 1)) : Int).toNat : List (S59))).bind fun y562=>(if y559.length + y562.length < 8796093022208 then ((impl_StrengthOf.f k6 t470 t471 (y559 ++ y562)).bind fun bt569=>(if bt569.2 = true then ((laws_vHas.f k6 t496 x44_6).bind fun t571=>(if (t571 != (decide (bt569.1 > 0))) = true then (some false) else (if bt569.1 < (wrap64 (t492 - 1)) then (some false) else (laws_FnSensors.l4 k6 t472 t492 t496 (wrap64 (x44_6 + 1)) t470 t471)))) else (some false))) else (none))) else (none)) else (none)) = some r:=by first|(rw [hy559];with_reducible exact H)|(have H2_:=(Option.bind_some _ _).symm.trans H;rw [hy559];with_reducible exact H2_)|(have H2_:=(Option.bind_some _ _).symm.trans H;with_reducible exact H2_)|with_reducible exact H|(rw [hy559];exact H)|exact H
  have Ny559:=Aside0.mk hy559
  clear hy559
  obtain ⟨ji227,hji227⟩ : ∃ j_ : Int,(wrap64 (x44_6 + 1)) = j_:=⟨_,rfl⟩
  replace H : (if 0 ≤ (ji227) then (if (ji227) ≤ (t472.length : Int) then ((some (t472.drop ((ji227) : Int).toNat : List (S59))).bind fun y562=>(if y559.length + y562.length < 8796093022208 then ((impl_StrengthOf.f k6 t470 t471 (y559 ++ y562)).bind fun bt569=>(if bt569.2 = true then ((laws_vHas.f k6 t496 x44_6).bind fun t571=>(if (t571 != (decide (bt569.1 > 0))) = true then (some false) else (if bt569.1 < (wrap64 (t492 - 1)) then (some false) else (laws_FnSensors.l4 k6 t472 t492 t496 ji227 t470 t471)))) else (some false))) else (none))) else (none)) else (none)) = some r:=by first|(rw [hji227] at H;exact H)|(simp only [hji227] at H ⊢;exact H)
  have hji227w : (IntKind.i64.wrap (x44_6 + 1)) = ji227:=(i64_w _).trans hji227
  by_cases c228 : 0 ≤ (ji227)
  rotate_left
  ·rw [if_neg c228] at H
   exact absurd H (by simp)
  rw [if_pos c228] at H
  have c228b0:=eq_true c228
  have c228b1 : decide (0 ≤ (ji227)) = true:=decide_eq_true c228
  clear c228
  by_cases c229 : (ji227) ≤ (t472.length : Int)
  rotate_left
  ·rw [if_neg c229] at H
   exact absurd H (by simp)
  rw [if_pos c229] at H
  have c229b0:=eq_true c229
  have c229b1 : decide ((ji227) ≤ (t472.length : Int)) = true:=decide_eq_true c229
  clear c229
  obtain ⟨y562,hy562⟩ : ∃ y_ : List (S59),y_ = (t472.drop ((ji227) : Int).toNat):=⟨_,rfl⟩
  replace H : (if y559.length + y562.length < 8796093022208 then ((impl_StrengthOf.f k6 t470 t471 (y559 ++ y562)).bind fun bt569=>(if bt569.2 = true then ((laws_vHas.f k6 t496 x44_6).bind fun t571=>(if (t571 != (decide (bt569.1 > 0))) = true then (some false) else (if bt569.1 < (wrap64 (t492 - 1)) then (some false) else (laws_FnSensors.l4 k6 t472 t492 t496 ji227 t470 t471)))) else (some false))) else (none)) = some r:=by first|(rw [hy562];with_reducible exact H)|(have H2_:=(Option.bind_some _ _).symm.trans H;rw [hy562];with_reducible exact H2_)|(have H2_:=(Option.bind_some _ _).symm.trans H;with_reducible exact H2_)|with_reducible exact H|(rw [hy562];exact H)|exact H
  have Ny562:=Aside0.mk hy562
  clear hy562
  by_cases c230 : y559.length + y562.length < 8796093022208
  rotate_left
  ·rw [if_neg c230] at H
   exact absurd H (by simp)
  rw [if_pos c230] at H
  have LMc230:=Aside0.mk c230
  clear c230
  obtain ⟨y566,hy566⟩ : ∃ y_ : List (S59),y_ = (y559 ++ y562):=⟨_,rfl⟩
  replace H : ((impl_StrengthOf.f k6 t470 t471 y566).bind fun bt569=>(if bt569.2 = true then ((laws_vHas.f k6 t496 x44_6).bind fun t571=>(if (t571 != (decide (bt569.1 > 0))) = true then (some false) else (if bt569.1 < (wrap64 (t492 - 1)) then (some false) else (laws_FnSensors.l4 k6 t472 t492 t496 ji227 t470 t471)))) else (some false))) = some r:=by first|(rw [hy566];with_reducible exact H)|(have H2_:=(Option.bind_some _ _).symm.trans H;rw [hy566];with_reducible exact H2_)|(have H2_:=(Option.bind_some _ _).symm.trans H;with_reducible exact H2_)|with_reducible exact H|(rw [hy566];exact H)|exact H
  have Ny566:=Aside0.mk hy566
  clear hy566
  replace H:=Option.bind_eq_some_iff.mp H
  obtain ⟨⟨t569,t570⟩,A2310,H⟩:=H
  (try dsimp only at H)
  have A231:=Aside0.mk A2310
  clear A2310
  by_cases c232 : t570 = true
  rotate_left
  ·replace c232:=Bool.eq_false_iff.mpr c232
   subst c232
   rw [if_neg (show ¬ (false = true) by decide)] at H
   as_aux_lemma =>
    obtain rfl:=Option.some.inj H
    try go_wp2
    replace HO_4:=ak (R_drew HO_4.out)
    replace HO_17:=ak (R_drew HO_17.out)
    replace BK475:=ak (blk_drew BK475.out)
    replace BK516:=ak (blk_drew BK516.out)
    replace HB:=ak (below_drew1 HB.out)
    have q273 : (x44_6 : Int) ≤ ((t472.length : Int) : Int):=od
    obtain ⟨i0273,hi0273,_,hsz273,_⟩:=info_parts info59
    have hroom273 : t472.length ≤ co23:=(R_reads' HO_4.out).2.1
    have hC273 : Kd.C k59 _ Ao23 t472.length t472:=(R_reads' HO_4.out).2.2
    have hcut273:=cut_to (P:=Try.prog) 30 59 .i64 Try.underlying30 hi0273 Ao23 t472.length co23 x44_6 (od) q273 hroom273
    have hr273:=C_take (m:=(x44_6 : Int).toNat) hC273 (by omega)
    have hy273 : y555.length = (x44_6 : Int).toNat:=(by rw [Ny555.out,List.length_take];omega)
    rw [← Ny555.out] at hr273
    rw [← hy273] at hcut273
    have HR558:=Aside0.mk hr273
    have HC558:=Aside0.mk (show y555.length ≤ co23 from by omega)
    clear hr273 hC273 hroom273 hi0273 hsz273
    have KY273:=Aside0.mk hy273
    clear hy273
    have KL273:=Aside0.mk (show (x44_6 : Int).toNat ≤ t472.length from by omega)
    replace q273:=eq_true q273
    have q274 : ((ji227) : Int) ≤ ((t472.length : Int) : Int):=od
    obtain ⟨i0274,hi0274,_,hsz274,_⟩:=info_parts info59
    have hroom274 : t472.length ≤ co23:=(R_reads' HO_4.out).2.1
    have hC274 : Kd.C k59 _ Ao23 t472.length t472:=(R_reads' HO_4.out).2.2
    have q0274 : (0 : Int) ≤ ((ji227) : Int):=od
    have hcut274:=cut_from (P:=Try.prog) 30 59 .i64 Try.underlying30 hi0274 2 hsz274 Ao23 t472.length co23 (ji227) q0274 q274
    have hr274:=C_drop (m:=((ji227) : Int).toNat) (c:=co23) hC274 (by omega) hroom274
    obtain ⟨A274,hA274⟩ : ∃ A_,A_ = (if co23 = ((ji227) : Int).toNat then Ao23 else (Ao23 : Option Addr).map (·.add (((ji227) : Int).toNat * 2))):=⟨_,rfl⟩
    obtain ⟨c274,hc274⟩ : ∃ c1,c1 = co23 - ((ji227) : Int).toNat:=⟨_,rfl⟩
    have hy274 : y562.length = t472.length - ((ji227) : Int).toNat:=(by rw [Ny562.out,List.length_drop] <;> omega)
    rw [show (t472).drop ((ji227) : Int).toNat = y562 from Ny562.out.symm] at hr274
    replace hr274 : Kd.C k59 _ A274 y562.length y562:=(by rw [hA274];exact hr274)
    rw [← hy274,← hA274,← hc274] at hcut274
    have HR565:=Aside0.mk hr274
    have HC565:=Aside0.mk (show y562.length ≤ c274 from by rw [hy274,hc274];exact Nat.sub_le_sub_right hroom274 _)
    clear hr274 hC274 hroom274 hi0274 hsz274 hc274
    have KY274:=Aside0.mk hy274
    have KA274:=Aside0.mk hA274
    clear hy274 hA274
    have KL274:=Aside0.mk (show ((ji227) : Int).toNat ≤ t472.length from by omega)
    replace q274:=eq_true q274
    refine start_ (n:=11) (S:=fun w'=>True) (ds:=[]) (lb 11 0) (by kernel_rfl) rfl rfl trivial (fun hHeld=>?_);refine with_tabW laws_FnSensors.tab54 laws_FnSensors.bits54 (fun HT_ HW_=>?_)
    generalize wr.drew = w272 at HO_4 HO_17 BK475 BK516 HB HR558 HR565 hHeld ⊢
    refine pu 1 (N:=some 341) (v:=?_) (a':=?_) (lb 11 2) HT_ (by kernel_rfl) rfl rfl rfl (fun _ _ _ h=>h) ?_ ?_ ?_
    rotate_left
    ·intro w'
     go_simp
     with_reducible rfl
    rotate_left
    ·simp only [ap]
     rfl
    refine pu 2 (N:=some 342) (v:=?_) (a':=?_) (lb 11 6) HT_ (by kernel_rfl) rfl rfl rfl (fun _ _ _ h=>h) ?_ ?_ ?_
    rotate_left
    ·intro w'
     go_simp
     with_reducible rfl
    rotate_left
    ·simp only [ap]
     rfl
    refine pu 3 (N:=some 343) (v:=?_) (a':=?_) (lb 11 14) HT_ (by kernel_rfl) rfl rfl rfl (fun _ _ _ h=>h) ?_ ?_ ?_
    rotate_left
    ·intro w'
     go_simp
     with_reducible rfl
    rotate_left
    ·simp only [ap]
     rfl
    refine pu 5 (N:=some 345) (v:=?_) (a':=?_) (lb 11 46) HT_ (by kernel_rfl) rfl rfl rfl (fun _ _ _ h=>h) ?_ ?_ ?_
    rotate_left
    ·intro w'
     go_simp
     with_reducible rfl
    rotate_left
    ·simp only [ap]
     rfl
    refine pu 6 (N:=some 346) (v:=?_) (a':=?_) (lb 11 110) HT_ (by kernel_rfl) rfl rfl rfl (fun _ _ _ h=>h) ?_ ?_ ?_
    rotate_left
    ·intro w'
     go_simp
     with_reducible rfl
    rotate_left
    ·simp only [ap]
     rfl
    refine pu 7 (N:=some 347) (v:=?_) (a':=?_) (lb 11 238) HT_ (by kernel_rfl) rfl rfl rfl (fun _ _ _ h=>h) ?_ ?_ ?_
    rotate_left
    ·intro w'
     go_simp
     with_reducible rfl
    rotate_left
    ·simp only [ap]
     rfl
    refine pu 8 (N:=some 348) (v:=?_) (a':=?_) (lb 11 494) HT_ (by kernel_rfl) rfl rfl rfl (fun _ _ _ h=>h) ?_ ?_ ?_
    rotate_left
    ·intro w'
     go_simp
     with_reducible rfl
    rotate_left
    ·simp only [ap]
     rfl
    refine one_ (i:=0) (N:=some 340) (lb 11 495) rfl rfl (one_of HT_.out (by kernel_rfl)) (by decide) (fun K hK=>?_)
    refine R_lit_step k59 _ 59 ?hg (N:=340) ?hd (xs:=([] : List (S59))) (inner:=[]) (ok:=fun _=>True) (okp:=fun _=>True) ?hr ?hp (fun _ hk=>hk) trivial (Below.refl _ _) (Nat.le_refl _) (by simp) ?_;(case hd=>rfl);(case hg=>rfl);(case hr=>first|(go_simp;done)|(go_simp;rfl));(case hp=>exact (Reps.none _ _))
    intro v553 w275 ho276 hb hg_ hnew_
    clear hg_ hnew_
    (first|rw [← Ny552.out] at ho276|(simp only [Int.reduceToNat] at ho276;rw [← Ny552.out] at ho276))
    replace HO_17:=rb HO_17 hb
    have HO554:=ak (R_lower (R_new' ho276 (R_lt (rm HO_4.out))) (below_size (h2 HB.out GE475.out GE516.out)))
    replace HO_4:=ak (R_elder' (rm HO_4.out) (R_base ho276) hb)
    replace BK475:=kb BK475 hb
    replace BK516:=kb BK516 hb
    replace HR558:=ak (C_below (by repeat (first|(with_reducible exact HR558.out)|(with_reducible refine C_alloc ?_ _)|(with_reducible refine C_drewN ?_ _)|(with_reducible refine C_drew ?_)|exact HR558.out)) hb)
    replace HR565:=ak (C_below (by repeat (first|(with_reducible exact HR565.out)|(with_reducible refine C_alloc ?_ _)|(with_reducible refine C_drewN ?_ _)|(with_reducible refine C_drew ?_)|exact HR565.out)) hb)
    replace HB:=ak (below_step (h2 HB.out GE475.out GE516.out) hb)
    clear hb ho276
    refine hK.out _ _ trivial (fun hHeld=>?_)
    clear hK K
    refine norm_ (a':=?_) ?_ ?_
    rotate_left
    ·show Act.put _ (some 340) _ = _
     simp only [ap]
     rfl
    refine one_ (i:=4) (N:=some 344) (lb 11 511) rfl rfl (one_of HT_.out (by kernel_rfl)) (by decide) (fun K hK=>?_)
    refine R_append_rows_step k59 (w0:=w) w.heap.size (by rfl) (.tmp 340) (.tmp 343) 30 59 (.agg #[(.int .i64 0),(.int .i64 0)]) 16 rfl Try.underlying30 info59 rfl (by decide) (by omega) v553 y552 y555 _ _ _ (fun k_=>ob k_ (.slice Ao23 t472.length co23)) (fun _=>False) rfl rfl ?aO ?aR (fun _ _ h=>h) (fun _ h=>h.elim) ?aF ?aB ?aS ?aL ?_
    (case aR=>repeat (first|exact (by repeat (first|(with_reducible exact HR558.out)|(with_reducible refine C_alloc ?_ _)|(with_reducible refine C_drewN ?_ _)|(with_reducible refine C_drew ?_)|exact HR558.out))|(with_reducible refine C_alloc ?_ _)|(with_reducible refine C_drewN ?_ _)|(with_reducible refine C_drew ?_)))
    (case aB=>exact (h2 HB.out GE475.out GE516.out))
    (case aF=>exact (fun k_ hk=>Kd.fresh' (R_lt (rm HO_4.out)) k_ hk))
    (case aO=>exact (rm (R_mono HO554.out (fun _ hk=>hk.2))))
    (case aS=>exact (below_size (h2 HB.out GE475.out GE516.out)))
    (case aL=>have:=LMc226.out;omega)
    intro v560 w277 ho hb hg hat
    rw [← Ny559.out] at ho
    replace HO_17:=ak (R_over' (rm HO_17.out) (R_typed (rm HO554.out)) (by decide) hg)
    replace BK475:=ak (blk_grown (g:=gb475) (o:=.cells #[.int .i64 t470,.bool t471] 28 (0,0)) (bm BK475.out) hg (R_ne HO554.out BK475.out (by decide)))
    replace BK516:=ak (blk_grown (g:=gb516) (o:=.cells #[.int .i64 t511,.bool t512] 28 (0,0)) (bm BK516.out) hg (R_ne HO554.out BK516.out (by decide)))
    replace HB:=ak hb
    replace HR558:=ak ((show Kd.C k59 w277 Ao23 y555.length y555 from by rw [Ny555.out];exact C_take (m:=(x44_6 : Int).toNat) ((R_reads' (R_after (ok:=(fun _=>True)) (by (with_reducible repeat (first|apply R_alloc|apply R_drewN|apply R_drew));exact HO_4.out) hg hat)).2.2) KL273.out))
    replace HR565:=ak ((show Kd.C k59 w277 A274 y562.length y562 from by rw [Ny562.out,KA274.out];exact C_drop (m:=((ji227) : Int).toNat) (c:=co23) ((R_reads' (R_after (ok:=(fun _=>True)) (by (with_reducible repeat (first|apply R_alloc|apply R_drewN|apply R_drew));exact HO_4.out) hg hat)).2.2) KL274.out ((R_reads' (R_after (ok:=(fun _=>True)) (rm HO_4.out) hg hat)).2.1)))
    replace HO_4:=ak (R_after (ok:=(fun _=>True)) (rm HO_4.out) hg hat)
    have HO561:=ak ho
    clear HO554
    clear ho hb hg hat
    refine hK.out _ _ trivial (fun hHeld=>?_)
    clear hK K
    refine norm_ (a':=?_) ?_ ?_
    rotate_left
    ·show Act.put _ (some 344) _ = _
     simp only [ap]
     rfl
    refine one_ (i:=9) (N:=some 349) (lb 11 1023) rfl rfl (one_of HT_.out (by kernel_rfl)) (by decide) (fun K hK=>?_)
    refine R_append_rows_step k59 (w0:=w) w.heap.size (by rfl) (.tmp 344) (.tmp 348) 30 59 (.agg #[(.int .i64 0),(.int .i64 0)]) 16 rfl Try.underlying30 info59 rfl (by decide) (by omega) v560 y559 y562 _ _ _ (fun k_=>ob k_ (.slice Ao23 t472.length co23)) (fun _=>False) rfl rfl ?aO ?aR (fun _ _ h=>h) (fun _ h=>h.elim) ?aF ?aB ?aS ?aL ?_
    (case aR=>repeat (first|exact (by repeat (first|(with_reducible exact HR565.out)|(with_reducible refine C_alloc ?_ _)|(with_reducible refine C_drewN ?_ _)|(with_reducible refine C_drew ?_)|exact HR565.out))|(with_reducible refine C_alloc ?_ _)|(with_reducible refine C_drewN ?_ _)|(with_reducible refine C_drew ?_)))
    (case aB=>exact (h2 HB.out GE475.out GE516.out))
    (case aF=>exact (fun k_ hk=>Kd.fresh' (R_lt (rm HO_4.out)) k_ hk))
    (case aO=>exact (rm HO561.out))
    (case aS=>exact (below_size (h2 HB.out GE475.out GE516.out)))
    (case aL=>have:=LMc230.out;omega)
    intro v567 w278 ho hb hg hat
    rw [← Ny566.out] at ho
    replace HO_17:=ak (R_over' (rm HO_17.out) (R_typed (rm HO561.out)) (by decide) hg)
    replace BK475:=ak (blk_grown (g:=gb475) (o:=.cells #[.int .i64 t470,.bool t471] 28 (0,0)) (bm BK475.out) hg (R_ne HO561.out BK475.out (by decide)))
    replace BK516:=ak (blk_grown (g:=gb516) (o:=.cells #[.int .i64 t511,.bool t512] 28 (0,0)) (bm BK516.out) hg (R_ne HO561.out BK516.out (by decide)))
    replace HB:=ak hb
    replace HR558:=ak ((show Kd.C k59 w278 Ao23 y555.length y555 from by rw [Ny555.out];exact C_take (m:=(x44_6 : Int).toNat) ((R_reads' (R_after (ok:=(fun _=>True)) (by (with_reducible repeat (first|apply R_alloc|apply R_drewN|apply R_drew));exact HO_4.out) hg hat)).2.2) KL273.out))
    replace HR565:=ak ((show Kd.C k59 w278 A274 y562.length y562 from by rw [Ny562.out,KA274.out];exact C_drop (m:=((ji227) : Int).toNat) (c:=co23) ((R_reads' (R_after (ok:=(fun _=>True)) (by (with_reducible repeat (first|apply R_alloc|apply R_drewN|apply R_drew));exact HO_4.out) hg hat)).2.2) KL274.out ((R_reads' (R_after (ok:=(fun _=>True)) (rm HO_4.out) hg hat)).2.1)))
    replace HO_4:=ak (R_after (ok:=(fun _=>True)) (rm HO_4.out) hg hat)
    have HO568:=ak ho
    clear HO561
    clear ho hb hg hat
    refine hK.out _ _ trivial (fun hHeld=>?_)
    clear hK K
    refine norm_ (a':=?_) ?_ ?_
    rotate_left
    ·show Act.put _ (some 349) _ = _
     simp only [ap]
     rfl
    refine pu 10 (N:=some 45) (v:=?_) (a':=?_) (lb 11 2047) HT_ (by kernel_rfl) rfl rfl rfl (fun _ _ _ h=>h) ?_ ?_ ?_
    rotate_left
    ·intro w'
     go_simp
     with_reducible rfl
    rotate_left
    ·simp only [ap]
     rfl
    refine done_ (done_of HT_.out (by kernel_rfl)) ?_
    have hnb279:=NB475_516.out
    have hnc279:=NB516_475.out
    have hcz280_0 : w278.cell? ⟨gb475,0,none⟩ = some (.int .i64 t470):=(blk_cell BK475.out 0).trans rfl
    have hcz280_1 : w278.cell? ⟨gb475,1,none⟩ = some (.bool t471):=(blk_cell BK475.out 1).trans rfl
    have hfz280_0:=blk_frozen BK475.out 0
    have hfz280_1:=blk_frozen BK475.out 1
    obtain ⟨Ao281,co281,eo281⟩:=R_slice HO568.out
    subst eo281
    try go_wp2_with (first|((with_reducible refine gate_callee (f:=21) rfl ?_);refine goesL_ (some 353) rfl rfl Try.func21 (by kernel_rfl) rfl #[.agg #[.int .i64 t470,.bool t471],.slice Ao281 y566.length co281] rfl gl ?_;(with_reducible refine (impl_StrengthOf.calls k6 t470 t471 _ _ y566 t569 false _ ?side1 ?side2 A231.out).mono ?_);(case side1=>exact cm (R_reads' HO568.out).2.2);(case side2=>exact (R_reads' HO568.out).2.1);rintro e w282 ⟨rfl,hb⟩;refine ⟨_,rfl,?_⟩;replace HO_4:=rb HO_4 hb;replace HO_17:=rb HO_17 hb;replace HO568:=rb HO568 hb;replace BK475:=kb BK475 hb;replace BK516:=kb BK516 hb;replace HR558:=ak (C_below (by repeat (first|(with_reducible exact HR558.out)|(with_reducible refine C_alloc ?_ _)|(with_reducible refine C_drewN ?_ _)|(with_reducible refine C_drew ?_)|exact HR558.out)) hb);replace HR565:=ak (C_below (by repeat (first|(with_reducible exact HR565.out)|(with_reducible refine C_alloc ?_ _)|(with_reducible refine C_drewN ?_ _)|(with_reducible refine C_drew ?_)|exact HR565.out)) hb);replace HB:=ak (below_step (h2 HB.out GE475.out GE516.out) hb);(try clear hb);(try clear hk);(try clear hi)))
    go_ret
    exact ⟨by first|rfl|(simp [errW_none,errW_some] <;> rfl)|(simp only [← hji227];first|rfl|(simp [errW_none,errW_some] <;> rfl))|(simp [*,errW_none,errW_some] <;> rfl),h2 HB.out GE475.out GE516.out⟩
  subst c232
  rw [if_pos rfl] at H
  replace H:=Option.bind_eq_some_iff.mp H
  obtain ⟨t571,A2330,H⟩:=H
  (try dsimp only at H)
  have A233:=Aside0.mk A2330
  clear A2330
  by_cases c234 : (t571 != (decide (t569 > 0))) = true
  ·rw [if_pos c234] at H
   have c234b0 : (t571 != (decide (t569 > 0))) = true:=c234
   (try (have c234b1 : decide (t571 = (decide (t569 > 0))) = false:=by simpa using c234))
   (try (have c234b2 : (t571 == (decide (t569 > 0))) = false:=by simpa using c234))
   (try (have c234b3 : ¬ (t571 = (decide (t569 > 0))):=by simpa using c234))
   clear c234
   as_aux_lemma =>
    obtain rfl:=Option.some.inj H
    try go_wp2
    replace HO_4:=ak (R_drew HO_4.out)
    replace HO_17:=ak (R_drew HO_17.out)
    replace BK475:=ak (blk_drew BK475.out)
    replace BK516:=ak (blk_drew BK516.out)
    replace HB:=ak (below_drew1 HB.out)
    have q236 : (x44_6 : Int) ≤ ((t472.length : Int) : Int):=od
    obtain ⟨i0236,hi0236,_,hsz236,_⟩:=info_parts info59
    have hroom236 : t472.length ≤ co23:=(R_reads' HO_4.out).2.1
    have hC236 : Kd.C k59 _ Ao23 t472.length t472:=(R_reads' HO_4.out).2.2
    have hcut236:=cut_to (P:=Try.prog) 30 59 .i64 Try.underlying30 hi0236 Ao23 t472.length co23 x44_6 (od) q236 hroom236
    have hr236:=C_take (m:=(x44_6 : Int).toNat) hC236 (by omega)
    have hy236 : y555.length = (x44_6 : Int).toNat:=(by rw [Ny555.out,List.length_take];omega)
    rw [← Ny555.out] at hr236
    rw [← hy236] at hcut236
    have HR558:=Aside0.mk hr236
    have HC558:=Aside0.mk (show y555.length ≤ co23 from by omega)
    clear hr236 hC236 hroom236 hi0236 hsz236
    have KY236:=Aside0.mk hy236
    clear hy236
    have KL236:=Aside0.mk (show (x44_6 : Int).toNat ≤ t472.length from by omega)
    replace q236:=eq_true q236
    have q237 : ((ji227) : Int) ≤ ((t472.length : Int) : Int):=od
    obtain ⟨i0237,hi0237,_,hsz237,_⟩:=info_parts info59
    have hroom237 : t472.length ≤ co23:=(R_reads' HO_4.out).2.1
    have hC237 : Kd.C k59 _ Ao23 t472.length t472:=(R_reads' HO_4.out).2.2
    have q0237 : (0 : Int) ≤ ((ji227) : Int):=od
    have hcut237:=cut_from (P:=Try.prog) 30 59 .i64 Try.underlying30 hi0237 2 hsz237 Ao23 t472.length co23 (ji227) q0237 q237
    have hr237:=C_drop (m:=((ji227) : Int).toNat) (c:=co23) hC237 (by omega) hroom237
    obtain ⟨A237,hA237⟩ : ∃ A_,A_ = (if co23 = ((ji227) : Int).toNat then Ao23 else (Ao23 : Option Addr).map (·.add (((ji227) : Int).toNat * 2))):=⟨_,rfl⟩
    obtain ⟨c237,hc237⟩ : ∃ c1,c1 = co23 - ((ji227) : Int).toNat:=⟨_,rfl⟩
    have hy237 : y562.length = t472.length - ((ji227) : Int).toNat:=(by rw [Ny562.out,List.length_drop] <;> omega)
    rw [show (t472).drop ((ji227) : Int).toNat = y562 from Ny562.out.symm] at hr237
    replace hr237 : Kd.C k59 _ A237 y562.length y562:=(by rw [hA237];exact hr237)
    rw [← hy237,← hA237,← hc237] at hcut237
    have HR565:=Aside0.mk hr237
    have HC565:=Aside0.mk (show y562.length ≤ c237 from by rw [hy237,hc237];exact Nat.sub_le_sub_right hroom237 _)
    clear hr237 hC237 hroom237 hi0237 hsz237 hc237
    have KY237:=Aside0.mk hy237
    have KA237:=Aside0.mk hA237
    clear hy237 hA237
    have KL237:=Aside0.mk (show ((ji227) : Int).toNat ≤ t472.length from by omega)
    replace q237:=eq_true q237
    refine start_ (n:=11) (S:=fun w'=>True) (ds:=[]) (lb 11 0) (by kernel_rfl) rfl rfl trivial (fun hHeld=>?_);refine with_tabW laws_FnSensors.tab54 laws_FnSensors.bits54 (fun HT_ HW_=>?_)
    generalize wr.drew = w235 at HO_4 HO_17 BK475 BK516 HB HR558 HR565 hHeld ⊢
    refine pu 1 (N:=some 341) (v:=?_) (a':=?_) (lb 11 2) HT_ (by kernel_rfl) rfl rfl rfl (fun _ _ _ h=>h) ?_ ?_ ?_
    rotate_left
    ·intro w'
     go_simp
     with_reducible rfl
    rotate_left
    ·simp only [ap]
     rfl
    refine pu 2 (N:=some 342) (v:=?_) (a':=?_) (lb 11 6) HT_ (by kernel_rfl) rfl rfl rfl (fun _ _ _ h=>h) ?_ ?_ ?_
    rotate_left
    ·intro w'
     go_simp
     with_reducible rfl
    rotate_left
    ·simp only [ap]
     rfl
    refine pu 3 (N:=some 343) (v:=?_) (a':=?_) (lb 11 14) HT_ (by kernel_rfl) rfl rfl rfl (fun _ _ _ h=>h) ?_ ?_ ?_
    rotate_left
    ·intro w'
     go_simp
     with_reducible rfl
    rotate_left
    ·simp only [ap]
     rfl
    refine pu 5 (N:=some 345) (v:=?_) (a':=?_) (lb 11 46) HT_ (by kernel_rfl) rfl rfl rfl (fun _ _ _ h=>h) ?_ ?_ ?_
    rotate_left
    ·intro w'
     go_simp
     with_reducible rfl
    rotate_left
    ·simp only [ap]
     rfl
    refine pu 6 (N:=some 346) (v:=?_) (a':=?_) (lb 11 110) HT_ (by kernel_rfl) rfl rfl rfl (fun _ _ _ h=>h) ?_ ?_ ?_
    rotate_left
    ·intro w'
     go_simp
     with_reducible rfl
    rotate_left
    ·simp only [ap]
     rfl
    refine pu 7 (N:=some 347) (v:=?_) (a':=?_) (lb 11 238) HT_ (by kernel_rfl) rfl rfl rfl (fun _ _ _ h=>h) ?_ ?_ ?_
    rotate_left
    ·intro w'
     go_simp
     with_reducible rfl
    rotate_left
    ·simp only [ap]
     rfl
    refine pu 8 (N:=some 348) (v:=?_) (a':=?_) (lb 11 494) HT_ (by kernel_rfl) rfl rfl rfl (fun _ _ _ h=>h) ?_ ?_ ?_
    rotate_left
    ·intro w'
     go_simp
     with_reducible rfl
    rotate_left
    ·simp only [ap]
     rfl
    refine one_ (i:=0) (N:=some 340) (lb 11 495) rfl rfl (one_of HT_.out (by kernel_rfl)) (by decide) (fun K hK=>?_)
    refine R_lit_step k59 _ 59 ?hg (N:=340) ?hd (xs:=([] : List (S59))) (inner:=[]) (ok:=fun _=>True) (okp:=fun _=>True) ?hr ?hp (fun _ hk=>hk) trivial (Below.refl _ _) (Nat.le_refl _) (by simp) ?_;(case hd=>rfl);(case hg=>rfl);(case hr=>first|(go_simp;done)|(go_simp;rfl));(case hp=>exact (Reps.none _ _))
    intro v553 w238 ho239 hb hg_ hnew_
    clear hg_ hnew_
    (first|rw [← Ny552.out] at ho239|(simp only [Int.reduceToNat] at ho239;rw [← Ny552.out] at ho239))
    replace HO_17:=rb HO_17 hb
    have HO554:=ak (R_lower (R_new' ho239 (R_lt (rm HO_4.out))) (below_size (h2 HB.out GE475.out GE516.out)))
    replace HO_4:=ak (R_elder' (rm HO_4.out) (R_base ho239) hb)
    replace BK475:=kb BK475 hb
    replace BK516:=kb BK516 hb
    replace HR558:=ak (C_below (by repeat (first|(with_reducible exact HR558.out)|(with_reducible refine C_alloc ?_ _)|(with_reducible refine C_drewN ?_ _)|(with_reducible refine C_drew ?_)|exact HR558.out)) hb)
    replace HR565:=ak (C_below (by repeat (first|(with_reducible exact HR565.out)|(with_reducible refine C_alloc ?_ _)|(with_reducible refine C_drewN ?_ _)|(with_reducible refine C_drew ?_)|exact HR565.out)) hb)
    replace HB:=ak (below_step (h2 HB.out GE475.out GE516.out) hb)
    clear hb ho239
    refine hK.out _ _ trivial (fun hHeld=>?_)
    clear hK K
    refine norm_ (a':=?_) ?_ ?_
    rotate_left
    ·show Act.put _ (some 340) _ = _
     simp only [ap]
     rfl
    refine one_ (i:=4) (N:=some 344) (lb 11 511) rfl rfl (one_of HT_.out (by kernel_rfl)) (by decide) (fun K hK=>?_)
    refine R_append_rows_step k59 (w0:=w) w.heap.size (by rfl) (.tmp 340) (.tmp 343) 30 59 (.agg #[(.int .i64 0),(.int .i64 0)]) 16 rfl Try.underlying30 info59 rfl (by decide) (by omega) v553 y552 y555 _ _ _ (fun k_=>ob k_ (.slice Ao23 t472.length co23)) (fun _=>False) rfl rfl ?aO ?aR (fun _ _ h=>h) (fun _ h=>h.elim) ?aF ?aB ?aS ?aL ?_
    (case aR=>repeat (first|exact (by repeat (first|(with_reducible exact HR558.out)|(with_reducible refine C_alloc ?_ _)|(with_reducible refine C_drewN ?_ _)|(with_reducible refine C_drew ?_)|exact HR558.out))|(with_reducible refine C_alloc ?_ _)|(with_reducible refine C_drewN ?_ _)|(with_reducible refine C_drew ?_)))
    (case aB=>exact (h2 HB.out GE475.out GE516.out))
    (case aF=>exact (fun k_ hk=>Kd.fresh' (R_lt (rm HO_4.out)) k_ hk))
    (case aO=>exact (rm (R_mono HO554.out (fun _ hk=>hk.2))))
    (case aS=>exact (below_size (h2 HB.out GE475.out GE516.out)))
    (case aL=>have:=LMc226.out;omega)
    intro v560 w240 ho hb hg hat
    rw [← Ny559.out] at ho
    replace HO_17:=ak (R_over' (rm HO_17.out) (R_typed (rm HO554.out)) (by decide) hg)
    replace BK475:=ak (blk_grown (g:=gb475) (o:=.cells #[.int .i64 t470,.bool t471] 28 (0,0)) (bm BK475.out) hg (R_ne HO554.out BK475.out (by decide)))
    replace BK516:=ak (blk_grown (g:=gb516) (o:=.cells #[.int .i64 t511,.bool t512] 28 (0,0)) (bm BK516.out) hg (R_ne HO554.out BK516.out (by decide)))
    replace HB:=ak hb
    replace HR558:=ak ((show Kd.C k59 w240 Ao23 y555.length y555 from by rw [Ny555.out];exact C_take (m:=(x44_6 : Int).toNat) ((R_reads' (R_after (ok:=(fun _=>True)) (by (with_reducible repeat (first|apply R_alloc|apply R_drewN|apply R_drew));exact HO_4.out) hg hat)).2.2) KL236.out))
    replace HR565:=ak ((show Kd.C k59 w240 A237 y562.length y562 from by rw [Ny562.out,KA237.out];exact C_drop (m:=((ji227) : Int).toNat) (c:=co23) ((R_reads' (R_after (ok:=(fun _=>True)) (by (with_reducible repeat (first|apply R_alloc|apply R_drewN|apply R_drew));exact HO_4.out) hg hat)).2.2) KL237.out ((R_reads' (R_after (ok:=(fun _=>True)) (rm HO_4.out) hg hat)).2.1)))
    replace HO_4:=ak (R_after (ok:=(fun _=>True)) (rm HO_4.out) hg hat)
    have HO561:=ak ho
    clear HO554
    clear ho hb hg hat
    refine hK.out _ _ trivial (fun hHeld=>?_)
    clear hK K
    refine norm_ (a':=?_) ?_ ?_
    rotate_left
    ·show Act.put _ (some 344) _ = _
     simp only [ap]
     rfl
    refine one_ (i:=9) (N:=some 349) (lb 11 1023) rfl rfl (one_of HT_.out (by kernel_rfl)) (by decide) (fun K hK=>?_)
    refine R_append_rows_step k59 (w0:=w) w.heap.size (by rfl) (.tmp 344) (.tmp 348) 30 59 (.agg #[(.int .i64 0),(.int .i64 0)]) 16 rfl Try.underlying30 info59 rfl (by decide) (by omega) v560 y559 y562 _ _ _ (fun k_=>ob k_ (.slice Ao23 t472.length co23)) (fun _=>False) rfl rfl ?aO ?aR (fun _ _ h=>h) (fun _ h=>h.elim) ?aF ?aB ?aS ?aL ?_
    (case aR=>repeat (first|exact (by repeat (first|(with_reducible exact HR565.out)|(with_reducible refine C_alloc ?_ _)|(with_reducible refine C_drewN ?_ _)|(with_reducible refine C_drew ?_)|exact HR565.out))|(with_reducible refine C_alloc ?_ _)|(with_reducible refine C_drewN ?_ _)|(with_reducible refine C_drew ?_)))
    (case aB=>exact (h2 HB.out GE475.out GE516.out))
    (case aF=>exact (fun k_ hk=>Kd.fresh' (R_lt (rm HO_4.out)) k_ hk))
    (case aO=>exact (rm HO561.out))
    (case aS=>exact (below_size (h2 HB.out GE475.out GE516.out)))
    (case aL=>have:=LMc230.out;omega)
    intro v567 w241 ho hb hg hat
    rw [← Ny566.out] at ho
    replace HO_17:=ak (R_over' (rm HO_17.out) (R_typed (rm HO561.out)) (by decide) hg)
    replace BK475:=ak (blk_grown (g:=gb475) (o:=.cells #[.int .i64 t470,.bool t471] 28 (0,0)) (bm BK475.out) hg (R_ne HO561.out BK475.out (by decide)))
    replace BK516:=ak (blk_grown (g:=gb516) (o:=.cells #[.int .i64 t511,.bool t512] 28 (0,0)) (bm BK516.out) hg (R_ne HO561.out BK516.out (by decide)))
    replace HB:=ak hb
    replace HR558:=ak ((show Kd.C k59 w241 Ao23 y555.length y555 from by rw [Ny555.out];exact C_take (m:=(x44_6 : Int).toNat) ((R_reads' (R_after (ok:=(fun _=>True)) (by (with_reducible repeat (first|apply R_alloc|apply R_drewN|apply R_drew));exact HO_4.out) hg hat)).2.2) KL236.out))
    replace HR565:=ak ((show Kd.C k59 w241 A237 y562.length y562 from by rw [Ny562.out,KA237.out];exact C_drop (m:=((ji227) : Int).toNat) (c:=co23) ((R_reads' (R_after (ok:=(fun _=>True)) (by (with_reducible repeat (first|apply R_alloc|apply R_drewN|apply R_drew));exact HO_4.out) hg hat)).2.2) KL237.out ((R_reads' (R_after (ok:=(fun _=>True)) (rm HO_4.out) hg hat)).2.1)))
    replace HO_4:=ak (R_after (ok:=(fun _=>True)) (rm HO_4.out) hg hat)
    have HO568:=ak ho
    clear HO561
    clear ho hb hg hat
    refine hK.out _ _ trivial (fun hHeld=>?_)
    clear hK K
    refine norm_ (a':=?_) ?_ ?_
    rotate_left
    ·show Act.put _ (some 349) _ = _
     simp only [ap]
     rfl
    refine pu 10 (N:=some 45) (v:=?_) (a':=?_) (lb 11 2047) HT_ (by kernel_rfl) rfl rfl rfl (fun _ _ _ h=>h) ?_ ?_ ?_
    rotate_left
    ·intro w'
     go_simp
     with_reducible rfl
    rotate_left
    ·simp only [ap]
     rfl
    refine done_ (done_of HT_.out (by kernel_rfl)) ?_
    have hnb242:=NB475_516.out
    have hnc242:=NB516_475.out
    have hcz243_0 : w241.cell? ⟨gb475,0,none⟩ = some (.int .i64 t470):=(blk_cell BK475.out 0).trans rfl
    have hcz243_1 : w241.cell? ⟨gb475,1,none⟩ = some (.bool t471):=(blk_cell BK475.out 1).trans rfl
    have hfz243_0:=blk_frozen BK475.out 0
    have hfz243_1:=blk_frozen BK475.out 1
    obtain ⟨Ao244,co244,eo244⟩:=R_slice HO568.out
    subst eo244
    try go_wp2_with (first|((with_reducible refine gate_callee (f:=21) rfl ?_);refine goesL_ (some 353) rfl rfl Try.func21 (by kernel_rfl) rfl #[.agg #[.int .i64 t470,.bool t471],.slice Ao244 y566.length co244] rfl gl ?_;(with_reducible refine (impl_StrengthOf.calls k6 t470 t471 _ _ y566 t569 true _ ?side1 ?side2 A231.out).mono ?_);(case side1=>exact cm (R_reads' HO568.out).2.2);(case side2=>exact (R_reads' HO568.out).2.1);rintro e w245 ⟨rfl,hb⟩;refine ⟨_,rfl,?_⟩;replace HO_4:=rb HO_4 hb;replace HO_17:=rb HO_17 hb;replace HO568:=rb HO568 hb;replace BK475:=kb BK475 hb;replace BK516:=kb BK516 hb;replace HR558:=ak (C_below (by repeat (first|(with_reducible exact HR558.out)|(with_reducible refine C_alloc ?_ _)|(with_reducible refine C_drewN ?_ _)|(with_reducible refine C_drew ?_)|exact HR558.out)) hb);replace HR565:=ak (C_below (by repeat (first|(with_reducible exact HR565.out)|(with_reducible refine C_alloc ?_ _)|(with_reducible refine C_drewN ?_ _)|(with_reducible refine C_drew ?_)|exact HR565.out)) hb);replace HB:=ak (below_step (h2 HB.out GE475.out GE516.out) hb);(try clear hb);(try clear hk);(try clear hi);obtain ⟨Ao246,co246,eo246⟩:=R_slice HO_17.out;subst eo246)|(go_at_call 41;(with_reducible refine (laws_vHas.calls k6 _ _ t496 x44_6 t571 _ ?side1 ?side2 A233.out).mono ?_);(case side1=>exact cm (R_reads' HO_17.out).2.2);(case side2=>exact (R_reads' HO_17.out).2.1);rintro e w' ⟨rfl,⟨nd,rfl⟩⟩))
    go_ret
    exact ⟨by first|rfl|(simp [errW_none,errW_some] <;> rfl)|(simp only [← hji227];first|rfl|(simp [errW_none,errW_some] <;> rfl))|(simp [*,errW_none,errW_some] <;> rfl),h2 HB.out GE475.out GE516.out⟩
  rw [if_neg c234] at H
  have c234b0 : (t571 != (decide (t569 > 0))) = false:=by simpa using c234
  (try (have c234b1 : decide (t571 = (decide (t569 > 0))) = true:=by simpa using c234))
  (try (have c234b2 : (t571 == (decide (t569 > 0))) = true:=by simpa using c234))
  clear c234
  by_cases c247 : t569 < (wrap64 (t492 - 1))
  ·rw [if_pos c247] at H
   have c247b0 : decide (t569 < (wrap64 (t492 - 1))) = true:=decide_eq_true c247
   clear c247
   as_aux_lemma =>
    obtain rfl:=Option.some.inj H
    try go_wp2
    replace HO_4:=ak (R_drew HO_4.out)
    replace HO_17:=ak (R_drew HO_17.out)
    replace BK475:=ak (blk_drew BK475.out)
    replace BK516:=ak (blk_drew BK516.out)
    replace HB:=ak (below_drew1 HB.out)
    have q249 : (x44_6 : Int) ≤ ((t472.length : Int) : Int):=od
    obtain ⟨i0249,hi0249,_,hsz249,_⟩:=info_parts info59
    have hroom249 : t472.length ≤ co23:=(R_reads' HO_4.out).2.1
    have hC249 : Kd.C k59 _ Ao23 t472.length t472:=(R_reads' HO_4.out).2.2
    have hcut249:=cut_to (P:=Try.prog) 30 59 .i64 Try.underlying30 hi0249 Ao23 t472.length co23 x44_6 (od) q249 hroom249
    have hr249:=C_take (m:=(x44_6 : Int).toNat) hC249 (by omega)
    have hy249 : y555.length = (x44_6 : Int).toNat:=(by rw [Ny555.out,List.length_take];omega)
    rw [← Ny555.out] at hr249
    rw [← hy249] at hcut249
    have HR558:=Aside0.mk hr249
    have HC558:=Aside0.mk (show y555.length ≤ co23 from by omega)
    clear hr249 hC249 hroom249 hi0249 hsz249
    have KY249:=Aside0.mk hy249
    clear hy249
    have KL249:=Aside0.mk (show (x44_6 : Int).toNat ≤ t472.length from by omega)
    replace q249:=eq_true q249
    have q250 : ((ji227) : Int) ≤ ((t472.length : Int) : Int):=od
    obtain ⟨i0250,hi0250,_,hsz250,_⟩:=info_parts info59
    have hroom250 : t472.length ≤ co23:=(R_reads' HO_4.out).2.1
    have hC250 : Kd.C k59 _ Ao23 t472.length t472:=(R_reads' HO_4.out).2.2
    have q0250 : (0 : Int) ≤ ((ji227) : Int):=od
    have hcut250:=cut_from (P:=Try.prog) 30 59 .i64 Try.underlying30 hi0250 2 hsz250 Ao23 t472.length co23 (ji227) q0250 q250
    have hr250:=C_drop (m:=((ji227) : Int).toNat) (c:=co23) hC250 (by omega) hroom250
    obtain ⟨A250,hA250⟩ : ∃ A_,A_ = (if co23 = ((ji227) : Int).toNat then Ao23 else (Ao23 : Option Addr).map (·.add (((ji227) : Int).toNat * 2))):=⟨_,rfl⟩
    obtain ⟨c250,hc250⟩ : ∃ c1,c1 = co23 - ((ji227) : Int).toNat:=⟨_,rfl⟩
    have hy250 : y562.length = t472.length - ((ji227) : Int).toNat:=(by rw [Ny562.out,List.length_drop] <;> omega)
    rw [show (t472).drop ((ji227) : Int).toNat = y562 from Ny562.out.symm] at hr250
    replace hr250 : Kd.C k59 _ A250 y562.length y562:=(by rw [hA250];exact hr250)
    rw [← hy250,← hA250,← hc250] at hcut250
    have HR565:=Aside0.mk hr250
    have HC565:=Aside0.mk (show y562.length ≤ c250 from by rw [hy250,hc250];exact Nat.sub_le_sub_right hroom250 _)
    clear hr250 hC250 hroom250 hi0250 hsz250 hc250
    have KY250:=Aside0.mk hy250
    have KA250:=Aside0.mk hA250
    clear hy250 hA250
    have KL250:=Aside0.mk (show ((ji227) : Int).toNat ≤ t472.length from by omega)
    replace q250:=eq_true q250
    refine start_ (n:=11) (S:=fun w'=>True) (ds:=[]) (lb 11 0) (by kernel_rfl) rfl rfl trivial (fun hHeld=>?_);refine with_tabW laws_FnSensors.tab54 laws_FnSensors.bits54 (fun HT_ HW_=>?_)
    generalize wr.drew = w248 at HO_4 HO_17 BK475 BK516 HB HR558 HR565 hHeld ⊢
    refine pu 1 (N:=some 341) (v:=?_) (a':=?_) (lb 11 2) HT_ (by kernel_rfl) rfl rfl rfl (fun _ _ _ h=>h) ?_ ?_ ?_
    rotate_left
    ·intro w'
     go_simp
     with_reducible rfl
    rotate_left
    ·simp only [ap]
     rfl
    refine pu 2 (N:=some 342) (v:=?_) (a':=?_) (lb 11 6) HT_ (by kernel_rfl) rfl rfl rfl (fun _ _ _ h=>h) ?_ ?_ ?_
    rotate_left
    ·intro w'
     go_simp
     with_reducible rfl
    rotate_left
    ·simp only [ap]
     rfl
    refine pu 3 (N:=some 343) (v:=?_) (a':=?_) (lb 11 14) HT_ (by kernel_rfl) rfl rfl rfl (fun _ _ _ h=>h) ?_ ?_ ?_
    rotate_left
    ·intro w'
     go_simp
     with_reducible rfl
    rotate_left
    ·simp only [ap]
     rfl
    refine pu 5 (N:=some 345) (v:=?_) (a':=?_) (lb 11 46) HT_ (by kernel_rfl) rfl rfl rfl (fun _ _ _ h=>h) ?_ ?_ ?_
    rotate_left
    ·intro w'
     go_simp
     with_reducible rfl
    rotate_left
    ·simp only [ap]
     rfl
    refine pu 6 (N:=some 346) (v:=?_) (a':=?_) (lb 11 110) HT_ (by kernel_rfl) rfl rfl rfl (fun _ _ _ h=>h) ?_ ?_ ?_
    rotate_left
    ·intro w'
     go_simp
     with_reducible rfl
    rotate_left
    ·simp only [ap]
     rfl
    refine pu 7 (N:=some 347) (v:=?_) (a':=?_) (lb 11 238) HT_ (by kernel_rfl) rfl rfl rfl (fun _ _ _ h=>h) ?_ ?_ ?_
    rotate_left
    ·intro w'
     go_simp
     with_reducible rfl
    rotate_left
    ·simp only [ap]
     rfl
    refine pu 8 (N:=some 348) (v:=?_) (a':=?_) (lb 11 494) HT_ (by kernel_rfl) rfl rfl rfl (fun _ _ _ h=>h) ?_ ?_ ?_
    rotate_left
    ·intro w'
     go_simp
     with_reducible rfl
    rotate_left
    ·simp only [ap]
     rfl
    refine one_ (i:=0) (N:=some 340) (lb 11 495) rfl rfl (one_of HT_.out (by kernel_rfl)) (by decide) (fun K hK=>?_)
    refine R_lit_step k59 _ 59 ?hg (N:=340) ?hd (xs:=([] : List (S59))) (inner:=[]) (ok:=fun _=>True) (okp:=fun _=>True) ?hr ?hp (fun _ hk=>hk) trivial (Below.refl _ _) (Nat.le_refl _) (by simp) ?_;(case hd=>rfl);(case hg=>rfl);(case hr=>first|(go_simp;done)|(go_simp;rfl));(case hp=>exact (Reps.none _ _))
    intro v553 w251 ho252 hb hg_ hnew_
    clear hg_ hnew_
    (first|rw [← Ny552.out] at ho252|(simp only [Int.reduceToNat] at ho252;rw [← Ny552.out] at ho252))
    replace HO_17:=rb HO_17 hb
    have HO554:=ak (R_lower (R_new' ho252 (R_lt (rm HO_4.out))) (below_size (h2 HB.out GE475.out GE516.out)))
    replace HO_4:=ak (R_elder' (rm HO_4.out) (R_base ho252) hb)
    replace BK475:=kb BK475 hb
    replace BK516:=kb BK516 hb
    replace HR558:=ak (C_below (by repeat (first|(with_reducible exact HR558.out)|(with_reducible refine C_alloc ?_ _)|(with_reducible refine C_drewN ?_ _)|(with_reducible refine C_drew ?_)|exact HR558.out)) hb)
    replace HR565:=ak (C_below (by repeat (first|(with_reducible exact HR565.out)|(with_reducible refine C_alloc ?_ _)|(with_reducible refine C_drewN ?_ _)|(with_reducible refine C_drew ?_)|exact HR565.out)) hb)
    replace HB:=ak (below_step (h2 HB.out GE475.out GE516.out) hb)
    clear hb ho252
    refine hK.out _ _ trivial (fun hHeld=>?_)
    clear hK K
    refine norm_ (a':=?_) ?_ ?_
    rotate_left
    ·show Act.put _ (some 340) _ = _
     simp only [ap]
     rfl
    refine one_ (i:=4) (N:=some 344) (lb 11 511) rfl rfl (one_of HT_.out (by kernel_rfl)) (by decide) (fun K hK=>?_)
    refine R_append_rows_step k59 (w0:=w) w.heap.size (by rfl) (.tmp 340) (.tmp 343) 30 59 (.agg #[(.int .i64 0),(.int .i64 0)]) 16 rfl Try.underlying30 info59 rfl (by decide) (by omega) v553 y552 y555 _ _ _ (fun k_=>ob k_ (.slice Ao23 t472.length co23)) (fun _=>False) rfl rfl ?aO ?aR (fun _ _ h=>h) (fun _ h=>h.elim) ?aF ?aB ?aS ?aL ?_
    (case aR=>repeat (first|exact (by repeat (first|(with_reducible exact HR558.out)|(with_reducible refine C_alloc ?_ _)|(with_reducible refine C_drewN ?_ _)|(with_reducible refine C_drew ?_)|exact HR558.out))|(with_reducible refine C_alloc ?_ _)|(with_reducible refine C_drewN ?_ _)|(with_reducible refine C_drew ?_)))
    (case aB=>exact (h2 HB.out GE475.out GE516.out))
    (case aF=>exact (fun k_ hk=>Kd.fresh' (R_lt (rm HO_4.out)) k_ hk))
    (case aO=>exact (rm (R_mono HO554.out (fun _ hk=>hk.2))))
    (case aS=>exact (below_size (h2 HB.out GE475.out GE516.out)))
    (case aL=>have:=LMc226.out;omega)
    intro v560 w253 ho hb hg hat
    rw [← Ny559.out] at ho
    replace HO_17:=ak (R_over' (rm HO_17.out) (R_typed (rm HO554.out)) (by decide) hg)
    replace BK475:=ak (blk_grown (g:=gb475) (o:=.cells #[.int .i64 t470,.bool t471] 28 (0,0)) (bm BK475.out) hg (R_ne HO554.out BK475.out (by decide)))
    replace BK516:=ak (blk_grown (g:=gb516) (o:=.cells #[.int .i64 t511,.bool t512] 28 (0,0)) (bm BK516.out) hg (R_ne HO554.out BK516.out (by decide)))
    replace HB:=ak hb
    replace HR558:=ak ((show Kd.C k59 w253 Ao23 y555.length y555 from by rw [Ny555.out];exact C_take (m:=(x44_6 : Int).toNat) ((R_reads' (R_after (ok:=(fun _=>True)) (by (with_reducible repeat (first|apply R_alloc|apply R_drewN|apply R_drew));exact HO_4.out) hg hat)).2.2) KL249.out))
    replace HR565:=ak ((show Kd.C k59 w253 A250 y562.length y562 from by rw [Ny562.out,KA250.out];exact C_drop (m:=((ji227) : Int).toNat) (c:=co23) ((R_reads' (R_after (ok:=(fun _=>True)) (by (with_reducible repeat (first|apply R_alloc|apply R_drewN|apply R_drew));exact HO_4.out) hg hat)).2.2) KL250.out ((R_reads' (R_after (ok:=(fun _=>True)) (rm HO_4.out) hg hat)).2.1)))
    replace HO_4:=ak (R_after (ok:=(fun _=>True)) (rm HO_4.out) hg hat)
    have HO561:=ak ho
    clear HO554
    clear ho hb hg hat
    refine hK.out _ _ trivial (fun hHeld=>?_)
    clear hK K
    refine norm_ (a':=?_) ?_ ?_
    rotate_left
    ·show Act.put _ (some 344) _ = _
     simp only [ap]
     rfl
    refine one_ (i:=9) (N:=some 349) (lb 11 1023) rfl rfl (one_of HT_.out (by kernel_rfl)) (by decide) (fun K hK=>?_)
    refine R_append_rows_step k59 (w0:=w) w.heap.size (by rfl) (.tmp 344) (.tmp 348) 30 59 (.agg #[(.int .i64 0),(.int .i64 0)]) 16 rfl Try.underlying30 info59 rfl (by decide) (by omega) v560 y559 y562 _ _ _ (fun k_=>ob k_ (.slice Ao23 t472.length co23)) (fun _=>False) rfl rfl ?aO ?aR (fun _ _ h=>h) (fun _ h=>h.elim) ?aF ?aB ?aS ?aL ?_
    (case aR=>repeat (first|exact (by repeat (first|(with_reducible exact HR565.out)|(with_reducible refine C_alloc ?_ _)|(with_reducible refine C_drewN ?_ _)|(with_reducible refine C_drew ?_)|exact HR565.out))|(with_reducible refine C_alloc ?_ _)|(with_reducible refine C_drewN ?_ _)|(with_reducible refine C_drew ?_)))
    (case aB=>exact (h2 HB.out GE475.out GE516.out))
    (case aF=>exact (fun k_ hk=>Kd.fresh' (R_lt (rm HO_4.out)) k_ hk))
    (case aO=>exact (rm HO561.out))
    (case aS=>exact (below_size (h2 HB.out GE475.out GE516.out)))
    (case aL=>have:=LMc230.out;omega)
    intro v567 w254 ho hb hg hat
    rw [← Ny566.out] at ho
    replace HO_17:=ak (R_over' (rm HO_17.out) (R_typed (rm HO561.out)) (by decide) hg)
    replace BK475:=ak (blk_grown (g:=gb475) (o:=.cells #[.int .i64 t470,.bool t471] 28 (0,0)) (bm BK475.out) hg (R_ne HO561.out BK475.out (by decide)))
    replace BK516:=ak (blk_grown (g:=gb516) (o:=.cells #[.int .i64 t511,.bool t512] 28 (0,0)) (bm BK516.out) hg (R_ne HO561.out BK516.out (by decide)))
    replace HB:=ak hb
    replace HR558:=ak ((show Kd.C k59 w254 Ao23 y555.length y555 from by rw [Ny555.out];exact C_take (m:=(x44_6 : Int).toNat) ((R_reads' (R_after (ok:=(fun _=>True)) (by (with_reducible repeat (first|apply R_alloc|apply R_drewN|apply R_drew));exact HO_4.out) hg hat)).2.2) KL249.out))
    replace HR565:=ak ((show Kd.C k59 w254 A250 y562.length y562 from by rw [Ny562.out,KA250.out];exact C_drop (m:=((ji227) : Int).toNat) (c:=co23) ((R_reads' (R_after (ok:=(fun _=>True)) (by (with_reducible repeat (first|apply R_alloc|apply R_drewN|apply R_drew));exact HO_4.out) hg hat)).2.2) KL250.out ((R_reads' (R_after (ok:=(fun _=>True)) (rm HO_4.out) hg hat)).2.1)))
    replace HO_4:=ak (R_after (ok:=(fun _=>True)) (rm HO_4.out) hg hat)
    have HO568:=ak ho
    clear HO561
    clear ho hb hg hat
    refine hK.out _ _ trivial (fun hHeld=>?_)
    clear hK K
    refine norm_ (a':=?_) ?_ ?_
    rotate_left
    ·show Act.put _ (some 349) _ = _
     simp only [ap]
     rfl
    refine pu 10 (N:=some 45) (v:=?_) (a':=?_) (lb 11 2047) HT_ (by kernel_rfl) rfl rfl rfl (fun _ _ _ h=>h) ?_ ?_ ?_
    rotate_left
    ·intro w'
     go_simp
     with_reducible rfl
    rotate_left
    ·simp only [ap]
     rfl
    refine done_ (done_of HT_.out (by kernel_rfl)) ?_
    have hnb255:=NB475_516.out
    have hnc255:=NB516_475.out
    have hcz256_0 : w254.cell? ⟨gb475,0,none⟩ = some (.int .i64 t470):=(blk_cell BK475.out 0).trans rfl
    have hcz256_1 : w254.cell? ⟨gb475,1,none⟩ = some (.bool t471):=(blk_cell BK475.out 1).trans rfl
    have hfz256_0:=blk_frozen BK475.out 0
    have hfz256_1:=blk_frozen BK475.out 1
    obtain ⟨Ao257,co257,eo257⟩:=R_slice HO568.out
    subst eo257
    try go_wp2_with (first|((with_reducible refine gate_callee (f:=21) rfl ?_);refine goesL_ (some 353) rfl rfl Try.func21 (by kernel_rfl) rfl #[.agg #[.int .i64 t470,.bool t471],.slice Ao257 y566.length co257] rfl gl ?_;(with_reducible refine (impl_StrengthOf.calls k6 t470 t471 _ _ y566 t569 true _ ?side1 ?side2 A231.out).mono ?_);(case side1=>exact cm (R_reads' HO568.out).2.2);(case side2=>exact (R_reads' HO568.out).2.1);rintro e w258 ⟨rfl,hb⟩;refine ⟨_,rfl,?_⟩;replace HO_4:=rb HO_4 hb;replace HO_17:=rb HO_17 hb;replace HO568:=rb HO568 hb;replace BK475:=kb BK475 hb;replace BK516:=kb BK516 hb;replace HR558:=ak (C_below (by repeat (first|(with_reducible exact HR558.out)|(with_reducible refine C_alloc ?_ _)|(with_reducible refine C_drewN ?_ _)|(with_reducible refine C_drew ?_)|exact HR558.out)) hb);replace HR565:=ak (C_below (by repeat (first|(with_reducible exact HR565.out)|(with_reducible refine C_alloc ?_ _)|(with_reducible refine C_drewN ?_ _)|(with_reducible refine C_drew ?_)|exact HR565.out)) hb);replace HB:=ak (below_step (h2 HB.out GE475.out GE516.out) hb);(try clear hb);(try clear hk);(try clear hi);obtain ⟨Ao259,co259,eo259⟩:=R_slice HO_17.out;subst eo259)|(go_at_call 41;(with_reducible refine (laws_vHas.calls k6 _ _ t496 x44_6 t571 _ ?side1 ?side2 A233.out).mono ?_);(case side1=>exact cm (R_reads' HO_17.out).2.2);(case side2=>exact (R_reads' HO_17.out).2.1);rintro e w' ⟨rfl,⟨nd,rfl⟩⟩))
    go_ret
    exact ⟨by first|rfl|(simp [errW_none,errW_some] <;> rfl)|(simp only [← hji227];first|rfl|(simp [errW_none,errW_some] <;> rfl))|(simp [*,errW_none,errW_some] <;> rfl),h2 HB.out GE475.out GE516.out⟩
  rw [if_neg c247] at H
  have c247b0 : decide (t569 < (wrap64 (t492 - 1))) = false:=decide_eq_false c247
  clear c247
  as_aux_lemma =>
   have H':=Aside0.mk H
   clear H
   try go_wp2
   replace HO_4:=ak (R_drew HO_4.out)
   replace HO_17:=ak (R_drew HO_17.out)
   replace BK475:=ak (blk_drew BK475.out)
   replace BK516:=ak (blk_drew BK516.out)
   replace HB:=ak (below_drew1 HB.out)
   have q261 : (x44_6 : Int) ≤ ((t472.length : Int) : Int):=od
   obtain ⟨i0261,hi0261,_,hsz261,_⟩:=info_parts info59
   have hroom261 : t472.length ≤ co23:=(R_reads' HO_4.out).2.1
   have hC261 : Kd.C k59 _ Ao23 t472.length t472:=(R_reads' HO_4.out).2.2
   have hcut261:=cut_to (P:=Try.prog) 30 59 .i64 Try.underlying30 hi0261 Ao23 t472.length co23 x44_6 (od) q261 hroom261
   have hr261:=C_take (m:=(x44_6 : Int).toNat) hC261 (by omega)
   have hy261 : y555.length = (x44_6 : Int).toNat:=(by rw [Ny555.out,List.length_take];omega)
   rw [← Ny555.out] at hr261
   rw [← hy261] at hcut261
   have HR558:=Aside0.mk hr261
   have HC558:=Aside0.mk (show y555.length ≤ co23 from by omega)
   clear hr261 hC261 hroom261 hi0261 hsz261
   have KY261:=Aside0.mk hy261
   clear hy261
   have KL261:=Aside0.mk (show (x44_6 : Int).toNat ≤ t472.length from by omega)
   replace q261:=eq_true q261
   have q262 : ((ji227) : Int) ≤ ((t472.length : Int) : Int):=od
   obtain ⟨i0262,hi0262,_,hsz262,_⟩:=info_parts info59
   have hroom262 : t472.length ≤ co23:=(R_reads' HO_4.out).2.1
   have hC262 : Kd.C k59 _ Ao23 t472.length t472:=(R_reads' HO_4.out).2.2
   have q0262 : (0 : Int) ≤ ((ji227) : Int):=od
   have hcut262:=cut_from (P:=Try.prog) 30 59 .i64 Try.underlying30 hi0262 2 hsz262 Ao23 t472.length co23 (ji227) q0262 q262
   have hr262:=C_drop (m:=((ji227) : Int).toNat) (c:=co23) hC262 (by omega) hroom262
   obtain ⟨A262,hA262⟩ : ∃ A_,A_ = (if co23 = ((ji227) : Int).toNat then Ao23 else (Ao23 : Option Addr).map (·.add (((ji227) : Int).toNat * 2))):=⟨_,rfl⟩
   obtain ⟨c262,hc262⟩ : ∃ c1,c1 = co23 - ((ji227) : Int).toNat:=⟨_,rfl⟩
   have hy262 : y562.length = t472.length - ((ji227) : Int).toNat:=(by rw [Ny562.out,List.length_drop] <;> omega)
   rw [show (t472).drop ((ji227) : Int).toNat = y562 from Ny562.out.symm] at hr262
   replace hr262 : Kd.C k59 _ A262 y562.length y562:=(by rw [hA262];exact hr262)
   rw [← hy262,← hA262,← hc262] at hcut262
   have HR565:=Aside0.mk hr262
   have HC565:=Aside0.mk (show y562.length ≤ c262 from by rw [hy262,hc262];exact Nat.sub_le_sub_right hroom262 _)
   clear hr262 hC262 hroom262 hi0262 hsz262 hc262
   have KY262:=Aside0.mk hy262
   have KA262:=Aside0.mk hA262
   clear hy262 hA262
   have KL262:=Aside0.mk (show ((ji227) : Int).toNat ≤ t472.length from by omega)
   replace q262:=eq_true q262
   refine start_ (n:=11) (S:=fun w'=>True) (ds:=[]) (lb 11 0) (by kernel_rfl) rfl rfl trivial (fun hHeld=>?_);refine with_tabW laws_FnSensors.tab54 laws_FnSensors.bits54 (fun HT_ HW_=>?_)
   generalize wr.drew = w260 at HO_4 HO_17 BK475 BK516 HB HR558 HR565 hHeld ⊢
   refine pu 1 (N:=some 341) (v:=?_) (a':=?_) (lb 11 2) HT_ (by kernel_rfl) rfl rfl rfl (fun _ _ _ h=>h) ?_ ?_ ?_
   rotate_left
   ·intro w'
    go_simp
    with_reducible rfl
   rotate_left
   ·simp only [ap]
    rfl
   refine pu 2 (N:=some 342) (v:=?_) (a':=?_) (lb 11 6) HT_ (by kernel_rfl) rfl rfl rfl (fun _ _ _ h=>h) ?_ ?_ ?_
   rotate_left
   ·intro w'
    go_simp
    with_reducible rfl
   rotate_left
   ·simp only [ap]
    rfl
   refine pu 3 (N:=some 343) (v:=?_) (a':=?_) (lb 11 14) HT_ (by kernel_rfl) rfl rfl rfl (fun _ _ _ h=>h) ?_ ?_ ?_
   rotate_left
   ·intro w'
    go_simp
    with_reducible rfl
   rotate_left
   ·simp only [ap]
    rfl
   refine pu 5 (N:=some 345) (v:=?_) (a':=?_) (lb 11 46) HT_ (by kernel_rfl) rfl rfl rfl (fun _ _ _ h=>h) ?_ ?_ ?_
   rotate_left
   ·intro w'
    go_simp
    with_reducible rfl
   rotate_left
   ·simp only [ap]
    rfl
   refine pu 6 (N:=some 346) (v:=?_) (a':=?_) (lb 11 110) HT_ (by kernel_rfl) rfl rfl rfl (fun _ _ _ h=>h) ?_ ?_ ?_
   rotate_left
   ·intro w'
    go_simp
    with_reducible rfl
   rotate_left
   ·simp only [ap]
    rfl
   refine pu 7 (N:=some 347) (v:=?_) (a':=?_) (lb 11 238) HT_ (by kernel_rfl) rfl rfl rfl (fun _ _ _ h=>h) ?_ ?_ ?_
   rotate_left
   ·intro w'
    go_simp
    with_reducible rfl
   rotate_left
   ·simp only [ap]
    rfl
   refine pu 8 (N:=some 348) (v:=?_) (a':=?_) (lb 11 494) HT_ (by kernel_rfl) rfl rfl rfl (fun _ _ _ h=>h) ?_ ?_ ?_
   rotate_left
   ·intro w'
    go_simp
    with_reducible rfl
   rotate_left
   ·simp only [ap]
    rfl
   refine one_ (i:=0) (N:=some 340) (lb 11 495) rfl rfl (one_of HT_.out (by kernel_rfl)) (by decide) (fun K hK=>?_)
   refine R_lit_step k59 _ 59 ?hg (N:=340) ?hd (xs:=([] : List (S59))) (inner:=[]) (ok:=fun _=>True) (okp:=fun _=>True) ?hr ?hp (fun _ hk=>hk) trivial (Below.refl _ _) (Nat.le_refl _) (by simp) ?_;(case hd=>rfl);(case hg=>rfl);(case hr=>first|(go_simp;done)|(go_simp;rfl));(case hp=>exact (Reps.none _ _))
   intro v553 w263 ho264 hb hg_ hnew_
   clear hg_ hnew_
   (first|rw [← Ny552.out] at ho264|(simp only [Int.reduceToNat] at ho264;rw [← Ny552.out] at ho264))
   replace HO_17:=rb HO_17 hb
   have HO554:=ak (R_lower (R_new' ho264 (R_lt (rm HO_4.out))) (below_size (h2 HB.out GE475.out GE516.out)))
   replace HO_4:=ak (R_elder' (rm HO_4.out) (R_base ho264) hb)
   replace BK475:=kb BK475 hb
   replace BK516:=kb BK516 hb
   replace HR558:=ak (C_below (by repeat (first|(with_reducible exact HR558.out)|(with_reducible refine C_alloc ?_ _)|(with_reducible refine C_drewN ?_ _)|(with_reducible refine C_drew ?_)|exact HR558.out)) hb)
   replace HR565:=ak (C_below (by repeat (first|(with_reducible exact HR565.out)|(with_reducible refine C_alloc ?_ _)|(with_reducible refine C_drewN ?_ _)|(with_reducible refine C_drew ?_)|exact HR565.out)) hb)
   replace HB:=ak (below_step (h2 HB.out GE475.out GE516.out) hb)
   clear hb ho264
   refine hK.out _ _ trivial (fun hHeld=>?_)
   clear hK K
   refine norm_ (a':=?_) ?_ ?_
   rotate_left
   ·show Act.put _ (some 340) _ = _
    simp only [ap]
    rfl
   refine one_ (i:=4) (N:=some 344) (lb 11 511) rfl rfl (one_of HT_.out (by kernel_rfl)) (by decide) (fun K hK=>?_)
   refine R_append_rows_step k59 (w0:=w) w.heap.size (by rfl) (.tmp 340) (.tmp 343) 30 59 (.agg #[(.int .i64 0),(.int .i64 0)]) 16 rfl Try.underlying30 info59 rfl (by decide) (by omega) v553 y552 y555 _ _ _ (fun k_=>ob k_ (.slice Ao23 t472.length co23)) (fun _=>False) rfl rfl ?aO ?aR (fun _ _ h=>h) (fun _ h=>h.elim) ?aF ?aB ?aS ?aL ?_
   (case aR=>repeat (first|exact (by repeat (first|(with_reducible exact HR558.out)|(with_reducible refine C_alloc ?_ _)|(with_reducible refine C_drewN ?_ _)|(with_reducible refine C_drew ?_)|exact HR558.out))|(with_reducible refine C_alloc ?_ _)|(with_reducible refine C_drewN ?_ _)|(with_reducible refine C_drew ?_)))
   (case aB=>exact (h2 HB.out GE475.out GE516.out))
   (case aF=>exact (fun k_ hk=>Kd.fresh' (R_lt (rm HO_4.out)) k_ hk))
   (case aO=>exact (rm (R_mono HO554.out (fun _ hk=>hk.2))))
   (case aS=>exact (below_size (h2 HB.out GE475.out GE516.out)))
   (case aL=>have:=LMc226.out;omega)
   intro v560 w265 ho hb hg hat
   rw [← Ny559.out] at ho
   replace HO_17:=ak (R_over' (rm HO_17.out) (R_typed (rm HO554.out)) (by decide) hg)
   replace BK475:=ak (blk_grown (g:=gb475) (o:=.cells #[.int .i64 t470,.bool t471] 28 (0,0)) (bm BK475.out) hg (R_ne HO554.out BK475.out (by decide)))
   replace BK516:=ak (blk_grown (g:=gb516) (o:=.cells #[.int .i64 t511,.bool t512] 28 (0,0)) (bm BK516.out) hg (R_ne HO554.out BK516.out (by decide)))
   replace HB:=ak hb
   replace HR558:=ak ((show Kd.C k59 w265 Ao23 y555.length y555 from by rw [Ny555.out];exact C_take (m:=(x44_6 : Int).toNat) ((R_reads' (R_after (ok:=(fun _=>True)) (by (with_reducible repeat (first|apply R_alloc|apply R_drewN|apply R_drew));exact HO_4.out) hg hat)).2.2) KL261.out))
   replace HR565:=ak ((show Kd.C k59 w265 A262 y562.length y562 from by rw [Ny562.out,KA262.out];exact C_drop (m:=((ji227) : Int).toNat) (c:=co23) ((R_reads' (R_after (ok:=(fun _=>True)) (by (with_reducible repeat (first|apply R_alloc|apply R_drewN|apply R_drew));exact HO_4.out) hg hat)).2.2) KL262.out ((R_reads' (R_after (ok:=(fun _=>True)) (rm HO_4.out) hg hat)).2.1)))
   replace HO_4:=ak (R_after (ok:=(fun _=>True)) (rm HO_4.out) hg hat)
   have HO561:=ak ho
   clear HO554
   clear ho hb hg hat
   refine hK.out _ _ trivial (fun hHeld=>?_)
   clear hK K
   refine norm_ (a':=?_) ?_ ?_
   rotate_left
   ·show Act.put _ (some 344) _ = _
    simp only [ap]
    rfl
   refine one_ (i:=9) (N:=some 349) (lb 11 1023) rfl rfl (one_of HT_.out (by kernel_rfl)) (by decide) (fun K hK=>?_)
   refine R_append_rows_step k59 (w0:=w) w.heap.size (by rfl) (.tmp 344) (.tmp 348) 30 59 (.agg #[(.int .i64 0),(.int .i64 0)]) 16 rfl Try.underlying30 info59 rfl (by decide) (by omega) v560 y559 y562 _ _ _ (fun k_=>ob k_ (.slice Ao23 t472.length co23)) (fun _=>False) rfl rfl ?aO ?aR (fun _ _ h=>h) (fun _ h=>h.elim) ?aF ?aB ?aS ?aL ?_
   (case aR=>repeat (first|exact (by repeat (first|(with_reducible exact HR565.out)|(with_reducible refine C_alloc ?_ _)|(with_reducible refine C_drewN ?_ _)|(with_reducible refine C_drew ?_)|exact HR565.out))|(with_reducible refine C_alloc ?_ _)|(with_reducible refine C_drewN ?_ _)|(with_reducible refine C_drew ?_)))
   (case aB=>exact (h2 HB.out GE475.out GE516.out))
   (case aF=>exact (fun k_ hk=>Kd.fresh' (R_lt (rm HO_4.out)) k_ hk))
   (case aO=>exact (rm HO561.out))
   (case aS=>exact (below_size (h2 HB.out GE475.out GE516.out)))
   (case aL=>have:=LMc230.out;omega)
   intro v567 w266 ho hb hg hat
   rw [← Ny566.out] at ho
   replace HO_17:=ak (R_over' (rm HO_17.out) (R_typed (rm HO561.out)) (by decide) hg)
   replace BK475:=ak (blk_grown (g:=gb475) (o:=.cells #[.int .i64 t470,.bool t471] 28 (0,0)) (bm BK475.out) hg (R_ne HO561.out BK475.out (by decide)))
   replace BK516:=ak (blk_grown (g:=gb516) (o:=.cells #[.int .i64 t511,.bool t512] 28 (0,0)) (bm BK516.out) hg (R_ne HO561.out BK516.out (by decide)))
   replace HB:=ak hb
   replace HR558:=ak ((show Kd.C k59 w266 Ao23 y555.length y555 from by rw [Ny555.out];exact C_take (m:=(x44_6 : Int).toNat) ((R_reads' (R_after (ok:=(fun _=>True)) (by (with_reducible repeat (first|apply R_alloc|apply R_drewN|apply R_drew));exact HO_4.out) hg hat)).2.2) KL261.out))
   replace HR565:=ak ((show Kd.C k59 w266 A262 y562.length y562 from by rw [Ny562.out,KA262.out];exact C_drop (m:=((ji227) : Int).toNat) (c:=co23) ((R_reads' (R_after (ok:=(fun _=>True)) (by (with_reducible repeat (first|apply R_alloc|apply R_drewN|apply R_drew));exact HO_4.out) hg hat)).2.2) KL262.out ((R_reads' (R_after (ok:=(fun _=>True)) (rm HO_4.out) hg hat)).2.1)))
   replace HO_4:=ak (R_after (ok:=(fun _=>True)) (rm HO_4.out) hg hat)
   have HO568:=ak ho
   clear HO561
   clear ho hb hg hat
   refine hK.out _ _ trivial (fun hHeld=>?_)
   clear hK K
   refine norm_ (a':=?_) ?_ ?_
   rotate_left
   ·show Act.put _ (some 349) _ = _
    simp only [ap]
    rfl
   refine pu 10 (N:=some 45) (v:=?_) (a':=?_) (lb 11 2047) HT_ (by kernel_rfl) rfl rfl rfl (fun _ _ _ h=>h) ?_ ?_ ?_
   rotate_left
   ·intro w'
    go_simp
    with_reducible rfl
   rotate_left
   ·simp only [ap]
    rfl
   refine done_ (done_of HT_.out (by kernel_rfl)) ?_
   have hnb267:=NB475_516.out
   have hnc267:=NB516_475.out
   have hcz268_0 : w266.cell? ⟨gb475,0,none⟩ = some (.int .i64 t470):=(blk_cell BK475.out 0).trans rfl
   have hcz268_1 : w266.cell? ⟨gb475,1,none⟩ = some (.bool t471):=(blk_cell BK475.out 1).trans rfl
   have hfz268_0:=blk_frozen BK475.out 0
   have hfz268_1:=blk_frozen BK475.out 1
   obtain ⟨Ao269,co269,eo269⟩:=R_slice HO568.out
   subst eo269
   try go_wp2_with (first|((with_reducible refine gate_callee (f:=21) rfl ?_);refine goesL_ (some 353) rfl rfl Try.func21 (by kernel_rfl) rfl #[.agg #[.int .i64 t470,.bool t471],.slice Ao269 y566.length co269] rfl gl ?_;(with_reducible refine (impl_StrengthOf.calls k6 t470 t471 _ _ y566 t569 true _ ?side1 ?side2 A231.out).mono ?_);(case side1=>exact cm (R_reads' HO568.out).2.2);(case side2=>exact (R_reads' HO568.out).2.1);rintro e w270 ⟨rfl,hb⟩;refine ⟨_,rfl,?_⟩;replace HO_4:=rb HO_4 hb;replace HO_17:=rb HO_17 hb;replace HO568:=rb HO568 hb;replace BK475:=kb BK475 hb;replace BK516:=kb BK516 hb;replace HR558:=ak (C_below (by repeat (first|(with_reducible exact HR558.out)|(with_reducible refine C_alloc ?_ _)|(with_reducible refine C_drewN ?_ _)|(with_reducible refine C_drew ?_)|exact HR558.out)) hb);replace HR565:=ak (C_below (by repeat (first|(with_reducible exact HR565.out)|(with_reducible refine C_alloc ?_ _)|(with_reducible refine C_drewN ?_ _)|(with_reducible refine C_drew ?_)|exact HR565.out)) hb);replace HB:=ak (below_step (h2 HB.out GE475.out GE516.out) hb);(try clear hb);(try clear hk);(try clear hi);obtain ⟨Ao271,co271,eo271⟩:=R_slice HO_17.out;subst eo271)|(go_at_call 41;(with_reducible refine (laws_vHas.calls k6 _ _ t496 x44_6 t571 _ ?side1 ?side2 A233.out).mono ?_);(case side1=>exact cm (R_reads' HO_17.out).2.2);(case side2=>exact (R_reads' HO_17.out).2.1);rintro e w' ⟨rfl,⟨nd,rfl⟩⟩))
   go_roundg k6
   case measure=>have:=HJ18.out;have:=HJ138.out;have:=HK3.out;have:=HK4.out;have:=HJ217.out;have:=HK6.out;omega
   case rel=>exact ⟨(ji227),(by first|rfl|(simp;done)|(simp only [← hji227] <;> (first|rfl|simp))|(simp [*];done)),H',⟨by have:=HJ18.out;have:=HJ138.out;have:=HK3.out;have:=HK4.out;have:=HJ217.out;have:=HK6.out;omega⟩,⟨rm (R_mono HO_4.out (fun _ hk=>trivial))⟩,⟨rm HO_17.out⟩,⟨bm BK475.out⟩,⟨bm BK516.out⟩,⟨h2 HB.out GE475.out GE516.out⟩⟩

end
end Go.Proofs.Ytknfhoghimnieaa.QFnSensors
