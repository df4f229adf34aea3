/- Functions that the law FnSensors comes to, as Lean functions, with the proof that the Go code does what they say: written by a program of this session over the kit's print. No condition but those named. -/
import Derived.Test.YtknfhoghimnieaaQFnSensorsx0
import Derived.Test.YtknfhoghimnieaaQFnSensorsx4
import Derived.Test.YtknfhoghimnieaaQFnSensorsx5
import Derived.Test.YtknfhoghimnieaaQFnSensorsx6
import Derived.Test.YtknfhoghimnieaaQFnSensorsx7
import Derived.Test.YtknfhoghimnieaaQFnSensorsx8
import Derived.Test.YtknfhoghimnieaaQFnSensorsx9
import Derived.Test.YtknfhoghimnieaaQFnSensorsx10
import Derived.Test.YtknfhoghimnieaaQFnSensorsx12
import Derived.Test.YtknfhoghimnieaaQFnSensorsx13
import Derived.Test.YtknfhoghimnieaaQFnSensorsx14
import Derived.Test.YtknfhoghimnieaaQFnSensorsx15
namespace Go.Proofs.Ytknfhoghimnieaa.QFnSensors
open Go.RowKit Go.Proofs.YtknfhoghimnieaaW.PrintWords Go.Proofs.YtknfhoghimnieaaW.PrintLast Go.Proofs.YtknfhoghimnieaaW.PrintMore Go.Proofs.Ytknfhoghimnieaa.Short
attribute [local go_sem] max2_int min2_int max_two min_two max_three min_three max_four min_four   -- for this text's walks alone
set_option linter.unusedVariables false
set_option linter.unusedSimpArgs false

section
open Kd
set_option maxHeartbeats 8000000 in
set_option maxRecDepth 1000000 in
theorem laws_FnSensors.rest3 {k : Nat} {A0 : Option Addr} {c0 : Nat} {l0 : List Int} {r : Bool} {w : World} {t470 : Int} {t471 : Bool} {t472 : List S59} {t476 : List Int} {t483 : Bool} {t484 : List S54} {t487 t491 : Bool} {t492 : Int} {t493 : Bool} {t494 : Int} {t495 : Bool} {t496 : List Int} {t499 t503 t504 t505 t506 t507 : Bool} {t511 : Int} {t512 : Bool} {t513 : List S59} {t520 t524 : Bool} {gb475 : Nat} {Ao23 : Option Addr} {co23 : Nat} {v477 v481 v485 v489 v497 v501 : Value} {gb516 : Nat} {Ao49 : Option Addr} {co49 : Nat} {v518 v522 : Value} {kj18 : Nat} {wc : World} {u2 u31 u32 u33 u34 u35 u36 u37 u48 u49 u50 u51 u52 u53 u54 u55 u56 u57 u58 u59 u60 u61 u62 u63 u64 u65 u66 u67 u68 u69 u70 u71 u72 u73 u74 u75 u76 u77 u78 u79 u80 u81 u82 u83 u84 u85 u86 u87 u88 u89 u90 u91 u92 u93 u94 u95 u96 u97 u98 u99 u100 u101 u102 u103 u104 u105 u106 u107 u108 u109 u110 u111 u112 u113 u114 u115 u116 u117 u118 u119 u120 u121 u122 u123 u124 u125 u126 u127 u128 u129 u130 u131 u132 u133 u134 u135 u136 u137 u138 u139 u140 u141 u142 u143 u144 u145 u146 u147 u148 u149 u150 u151 u152 u153 u154 u155 u156 u157 u158 u159 u160 u161 u162 u163 u164 u165 u166 u167 u168 u169 u170 u171 u172 u173 u174 u175 u176 u177 u178 u179 u180 u181 u182 u183 u184 u185 u186 u187 u188 u189 u190 u191 u192 u193 u194 u195 u196 u197 u198 u199 u200 u201 u202 u203 u204 u205 u206 u207 u208 u209 u210 u211 u212 u213 u214 u215 u216 u217 u218 u219 u220 u221 u222 u223 u224 u225 u226 u227 u228 u229 u230 u231 u232 u233 u234 u235 u236 u237 u238 u239 u240 u241 u242 u243 u244 u245 u246 u247 u248 u249 u250 u251 u252 u253 u254 u255 u256 u257 u258 u259 u260 u261 u262 u263 u264 u265 u266 u267 u268 u269 u270 u271 u272 u273 u274 u275 u276 u277 u278 u279 u280 u281 u282 u283 u284 u285 u286 u287 u288 u289 u290 u291 u292 u293 u294 u295 u296 u297 u298 u299 u300 u301 u302 u303 u304 u305 u306 u307 u308 u309 u310 u311 u312 u313 u314 u315 u316 u317 u318 u319 u320 u321 u322 u323 u324 u325 u326 u327 u328 u329 u330 u331 u332 u333 u334 u335 u336 u337 u338 u339 u340 u341 u342 u343 u344 u345 u346 u347 u348 u349 u350 u351 u352 u353 u354 u355 u356 u357 u358 u359 u360 u361 u362 u363 u364 u365 u366 u367 u368 u369 u370 u371 : Value} {kj138 : Nat} {K : Act → World → Prop} (hK : ∀ a w_, Code.wp Try.prog (follow [true, true, true, true, true, true, true, true, true, true, true, true, true, true, true, true, true, true] (Try.f9.body.getD Code.skip)) (bodyPost Try.prog Try.f9 fun e w' => e = Ending.returned (Value.bool r) ∧ Below w.heap.size w w') a w_ → K a w_) (GE475 : Aside0 (w.heap.size ≤ gb475)) (GE516 : Aside0 (w.heap.size ≤ gb516)) (NB475_516 : Aside0 (gb475 ≠ gb516)) (NB516_475 : Aside0 (gb516 ≠ gb475)) (HJ18 : Aside0 (kj18 + 1 ≤ k)) (HO_4 : Aside0 (k59.R 59 wc w.heap.size (fun x => True) (Value.slice Ao23 t472.length co23) t472)) (HO_5 : Aside0 ((int IntKind.i64).R 3 wc w.heap.size (fun k_ => ob k_ v497) v477 t476)) (HO_9 : Aside0 (k54.R 54 wc w.heap.size (fun x => True) v485 t484)) (HO_17 : Aside0 ((int IntKind.i64).R 3 wc w.heap.size (fun k_ => ob k_ v477) v497 t496)) (BK475 : Aside0 (wc.heap[gb475]? = some (Obj.cells #[Value.int IntKind.i64 t470, Value.bool t471] 28))) (BK516 : Aside0 (wc.heap[gb516]? = some (Obj.cells #[Value.int IntKind.i64 t511, Value.bool t512] 28))) (HB : Aside0 (Below w.heap.size w wc)) (HJ138 : Aside0 (kj138 + 1 ≤ kj18)) (H : (if 0 < (↑t476.length : Int) then l1 kj138 t472 t476 t484 t492 t496 (rd t476 0) 0 0 0 t470 t471 else none) = some r) :
  K { tmps := #[Value.slice A0 l0.length c0, undef, u2, Value.pointer (some { block := gb475, off := 0 }), Value.slice Ao23 t472.length co23, v477, Value.bool true, v481, Value.bool t483, v485, Value.bool t487, v489, Value.bool t491, Value.int IntKind.i64 t492, Value.bool t493, Value.int IntKind.i64 t494, Value.bool t495, v497, Value.bool t499, v501, Value.bool t503, Value.bool t504, Value.bool t505, Value.bool t506, Value.bool t507, Value.pointer (some { block := gb516, off := 0 }), Value.slice Ao49 t513.length co49, v518, Value.bool t520, v522, Value.bool t524, u31, u32, u33, u34, u35, u36, u37, undef, undef, undef, undef, undef, undef, undef, undef, undef, undef, u48, u49, u50, u51, u52, u53, u54, u55, u56, u57, u58, u59, u60, u61, u62, u63, u64, u65, u66, u67, u68, u69, u70, u71, u72, u73, u74, u75, u76, u77, u78, u79, u80, u81, u82, u83, u84, u85, u86, u87, u88, u89, u90, u91, u92, u93, u94, u95, u96, u97, u98, u99, u100, u101, u102, u103, u104, u105, u106, u107, u108, u109, u110, u111, u112, u113, u114, u115, u116, u117, u118, u119, u120, u121, u122, u123, u124, u125, u126, u127, u128, u129, u130, u131, u132, u133, u134, u135, u136, u137, u138, u139, u140, u141, u142, u143, u144, u145, u146, u147, u148, u149, u150, u151, u152, u153, u154, u155, u156, u157, u158, u159, u160, u161, u162, u163, u164, u165, u166, u167, u168, u169, u170, u171, u172, u173, u174, u175, u176, u177, u178, u179, u180, u181, u182, u183, u184, u185, u186, u187, u188, u189, u190, u191, u192, u193, u194, u195, u196, u197, u198, u199, u200, u201, u202, u203, u204, u205, u206, u207, u208, u209, u210, u211, u212, u213, u214, u215, u216, u217, u218, u219, u220, u221, u222, u223, u224, u225, u226, u227, u228, u229, u230, u231, u232, u233, u234, u235, u236, u237, u238, u239, u240, u241, u242, u243, u244, u245, u246, u247, u248, u249, u250, u251, u252, u253, u254, u255, u256, u257, u258, u259, u260, u261, u262, u263, u264, u265, u266, u267, u268, u269, u270, u271, u272, u273, u274, u275, u276, u277, u278, u279, u280, u281, u282, u283, u284, u285, u286, u287, u288, u289, u290, u291, u292, u293, u294, u295, u296, u297, u298, u299, u300, u301, u302, u303, u304, u305, u306, u307, u308, u309, u310, u311, u312, u313, u314, u315, u316, u317, u318, u319, u320, u321, u322, u323, u324, u325, u326, u327, u328, u329, u330, u331, u332, u333, u334, u335, u336, u337, u338, u339, u340, u341, u342, u343, u344, u345, u346, u347, u348, u349, u350, u351, u352, u353, u354, u355, u356, u357, u358, u359, u360, u361, u362, u363, u364, u365, u366, u367, u368, u369, u370, u371], defers := [] } wc := by
 have hu28:=Try.underlying28
 conv at hK => enter [a, w_, 1, 2]; whnf
 by_cases c191 : 0 < (t476.length : Int)
 rotate_left
 ·rw [if_neg c191] at H
  exact absurd H (by simp)
 rw [if_pos c191] at H
 have c191b0 : decide (0 < (t476.length : Int)) = true:=decide_eq_true c191
 have c191b1 : decide (0 < t476.length) = true:=decide_eq_true (by omega)
 clear c191
 have H':=Aside0.mk H
 clear H
 obtain ⟨Ao192,co192,eo192⟩:=R_slice HO_5.out
 subst eo192
 have p544 : 0 ≤ (0 : Int):=(by omega)
 have q544 : 0 < (t476.length : Int):=od
 obtain ⟨ad544,e544,hx544_0⟩:=Kd.at_int (R_reads' HO_5.out).2.2 0 p544 q544
 cases e544
 have qi544 : (0 < t476.length) = True:=eq_true (by omega)
 (try rw [show ((0 : Int)).toNat = 0 from rfl] at hx544_0)
 (try rw [Addr.add_zero'] at hx544_0)
 replace p544:=eq_true p544
 replace q544:=eq_true q544
 go_wp2
 go_loopg [38,39,41] kj138 (fun kq v38 v39 v41 w'=>∃ (x38_3 : Int) (x39_3 : Int) (x41_3 : Int),v38 = .int .i64 x38_3 ∧ v39 = .int .i64 x39_3 ∧ v41 = .int .i64 x41_3 ∧ Aside0 (laws_FnSensors.l1 kq t472 t476 t484 t492 t496 x38_3 x39_3 0 x41_3 t470 t471 = some r) ∧ Aside0 (kq ≤ kj138) ∧ Aside0 (Kd.R k59 59 w' w.heap.size (fun _=>True) (.slice Ao23 t472.length co23) t472) ∧ Aside0 (Kd.R (Kd.int .i64) 3 w' w.heap.size (fun k_=>ob k_ v497) (.slice (some ad544) t476.length co192) t476) ∧ Aside0 (Kd.R k54 54 w' w.heap.size (fun _=>True) v485 t484) ∧ Aside0 (Kd.R (Kd.int .i64) 3 w' w.heap.size (fun k_=>some k_ ≠ ((.slice (some ad544) t476.length co192) : Value).ownBlock) v497 t496) ∧ Aside0 (w'.heap[gb475]? = some (.cells #[.int .i64 t470,.bool t471] 28 (0,0))) ∧ Aside0 (w'.heap[gb516]? = some (.cells #[.int .i64 t511,.bool t512] 28 (0,0))) ∧ Aside0 (Below w.heap.size w w'))
 case atStart=>exact ⟨(rd t476 0),(0),(0),fd,fd,fd,H',⟨Nat.le_refl _⟩,⟨rm HO_4.out⟩,⟨rm HO_5.out⟩,⟨rm HO_9.out⟩,⟨rm HO_17.out⟩,⟨bm BK475.out⟩,⟨bm BK516.out⟩,⟨h2 HB.out GE475.out GE516.out⟩⟩
 clear H'
 try clear c1
 try clear p2
 try clear p5
 try clear q5
 try clear hx5
 try clear qi5
 try clear c6
 try clear p6
 try clear c7
 try clear c8
 try clear c9
 try clear c13
 try clear c14
 try clear c15
 try clear c16
 try clear c17
 try clear c18
 try clear c19
 try clear p53
 try clear q53
 try clear hx53
 try clear p54
 try clear q54
 try clear hx54
 try clear qi54
 try clear c62
 try clear c62b0
 try clear c62b1
 try clear c62b2
 try clear p64
 try clear c67
 try clear c67b0
 try clear c67b1
 try clear c67b2
 try clear c73
 try clear c74
 try clear c74b0
 try clear c74b1
 try clear c74b2
 try clear c81
 try clear c81b0
 try clear c81b1
 try clear c81b2
 try clear c88
 try clear c88b0
 try clear c88b1
 try clear c88b2
 try clear c96
 try clear c97
 try clear c138
 try clear c140
 try clear c143
 try clear c150
 try clear c151
 try clear c152
 try clear c154
 try clear c155
 try clear c155b0
 try clear c156
 try clear c156b0
 try clear c158
 try clear c158b0
 try clear c159
 try clear c159b0
 try clear c160
 try clear c160b0
 try clear c160b1
 try clear c168
 try clear c169
 try clear c170
 try clear c172
 try clear c173
 try clear c177
 try clear c181
 try clear c184
 try clear c187
 try clear c190
 try clear c191
 try clear c191b0
 try clear c191b1
 try clear hcz144_0
 try clear hcz144_1
 try clear hcz146_0
 try clear hcz146_1
 try clear hcz153_0
 try clear hcz153_1
 try clear hcz174_0
 try clear hcz174_1
 try clear hcz178_0
 try clear hcz178_1
 try clear hcz182_0
 try clear hcz182_1
 try clear hcz185_0
 try clear hcz185_1
 try clear hcz188_0
 try clear hcz188_1
 try clear hcz22_0
 try clear hcz22_1
 try clear hcz25_0
 try clear hcz25_1
 try clear hcz27_0
 try clear hcz27_1
 try clear hcz29_0
 try clear hcz29_1
 try clear hcz31_0
 try clear hcz31_1
 try clear hcz33_0
 try clear hcz33_1
 try clear hcz35_0
 try clear hcz35_1
 try clear hcz37_0
 try clear hcz37_1
 try clear hcz39_0
 try clear hcz39_1
 try clear hcz41_0
 try clear hcz41_1
 try clear hcz48_0
 try clear hcz48_1
 try clear hcz51_0
 try clear hcz51_1
 try clear hfz144_0
 try clear hfz144_1
 try clear hfz146_0
 try clear hfz146_1
 try clear hfz153_0
 try clear hfz153_1
 try clear hfz174_0
 try clear hfz174_1
 try clear hfz178_0
 try clear hfz178_1
 try clear hfz182_0
 try clear hfz182_1
 try clear hfz185_0
 try clear hfz185_1
 try clear hfz188_0
 try clear hfz188_1
 try clear hfz22_0
 try clear hfz22_1
 try clear hfz25_0
 try clear hfz25_1
 try clear hfz27_0
 try clear hfz27_1
 try clear hfz29_0
 try clear hfz29_1
 try clear hfz31_0
 try clear hfz31_1
 try clear hfz33_0
 try clear hfz33_1
 try clear hfz35_0
 try clear hfz35_1
 try clear hfz37_0
 try clear hfz37_1
 try clear hfz39_0
 try clear hfz39_1
 try clear hfz41_0
 try clear hfz41_1
 try clear hfz48_0
 try clear hfz48_1
 try clear hfz51_0
 try clear hfz51_1
 try clear hx537_0
 try clear hx538_0
 try clear hx544_0
 try clear p2
 try clear p5
 try clear p53
 try clear p537
 try clear p538
 try clear p544
 try clear p6
 try clear p64
 try clear q5
 try clear q53
 try clear q537
 try clear q538
 try clear q544
 obtain ⟨x38_3,x39_3,x41_3,rfl,rfl,rfl,HA,HK3,HO_4,HO_5,HO_9,HO_17,BK475,BK516,HB⟩:=hrel
 cases gk with
 | zero=>exact absurd HA.out (by simp [laws_FnSensors.l1])
 | succ k3 =>
  have H:=HA.out
  clear HA
  simp only [laws_FnSensors.l1] at H
  by_cases c193 : x41_3 < t470
  ·rw [if_pos c193] at H
   have c193b0 : decide (x41_3 < t470) = true:=decide_eq_true c193
   clear c193
   by_cases c194 : 0 ≤ x41_3
   rotate_left
   ·rw [if_neg c194] at H
    exact absurd H (by simp)
   rw [if_pos c194] at H
   have c194b0 : decide (0 ≤ x41_3) = true:=decide_eq_true c194
   clear c194
   by_cases c195 : x41_3 < (t476.length : Int)
   rotate_left
   ·rw [if_neg c195] at H
    exact absurd H (by simp)
   rw [if_pos c195] at H
   have c195b0 : decide (x41_3 < (t476.length : Int)) = true:=decide_eq_true c195
   clear c195
   by_cases c196 : (rd t476 x41_3) < x38_3
   rotate_left
   ·rw [if_neg c196] at H
    have c196b0 : decide ((rd t476 x41_3) < x38_3) = false:=decide_eq_false c196
    clear c196
    by_cases c202 : (rd t476 x41_3) = 0
    rotate_left
    ·rw [if_neg c202] at H
     have c202b0 : ((rd t476 x41_3) == 0) = false:=beq_eq_false_iff_ne.mpr c202
     have c202b1 : ((rd t476 x41_3) != 0) = true:=bne_iff_ne.mpr c202
     as_aux_lemma =>
      have H':=Aside0.mk H
      clear H
      have hnb205:=NB475_516.out
      have hnc205:=NB516_475.out
      have hcz206_0 : wr.cell? ⟨gb475,0,none⟩ = some (.int .i64 t470):=(blk_cell BK475.out 0).trans rfl
      have hcz206_1 : wr.cell? ⟨gb475,1,none⟩ = some (.bool t471):=(blk_cell BK475.out 1).trans rfl
      have hfz206_0:=blk_frozen BK475.out 0
      have hfz206_1:=blk_frozen BK475.out 1
      have p545 : 0 ≤ (x41_3 : Int):=od
      have q545 : x41_3 < (t476.length : Int):=od
      obtain ⟨ad545,e545,hx545_0⟩:=Kd.at_int (R_reads' HO_5.out).2.2 x41_3 p545 q545
      obtain rfl : ad544 = ad545:=(by injection e545)
      replace p545:=eq_true p545
      replace q545:=eq_true q545
      have p548 : 0 ≤ (x41_3 : Int):=od
      have q548 : x41_3 < (t476.length : Int):=od
      obtain ⟨ad548,e548,hx548_0⟩:=Kd.at_int (R_reads' HO_5.out).2.2 x41_3 p548 q548
      obtain rfl : ad544 = ad548:=(by injection e548)
      replace p548:=eq_true p548
      replace q548:=eq_true q548
      go_wp2
      go_roundg k3
      case measure=>have:=HJ18.out;have:=HJ138.out;have:=HK3.out;omega
      case rel=>exact ⟨(x38_3),(x39_3),(wrap64 (x41_3 + 1)),fd,fd,fd,H',⟨by have:=HJ18.out;have:=HJ138.out;have:=HK3.out;omega⟩,⟨rm HO_4.out⟩,⟨rm HO_5.out⟩,⟨rm HO_9.out⟩,⟨rm HO_17.out⟩,⟨bm BK475.out⟩,⟨bm BK516.out⟩,⟨h2 HB.out GE475.out GE516.out⟩⟩
    rw [if_pos c202] at H
    have c202b0 : ((rd t476 x41_3) == 0) = true:=beq_iff_eq.mpr c202
    have c202b1 : ((rd t476 x41_3) != 0) = false:=bne_eq_false_iff_eq.mpr c202
    clear c202
    as_aux_lemma =>
     have H':=Aside0.mk H
     clear H
     have hnb203:=NB475_516.out
     have hnc203:=NB516_475.out
     have hcz204_0 : wr.cell? ⟨gb475,0,none⟩ = some (.int .i64 t470):=(blk_cell BK475.out 0).trans rfl
     have hcz204_1 : wr.cell? ⟨gb475,1,none⟩ = some (.bool t471):=(blk_cell BK475.out 1).trans rfl
     have hfz204_0:=blk_frozen BK475.out 0
     have hfz204_1:=blk_frozen BK475.out 1
     have p545 : 0 ≤ (x41_3 : Int):=od
     have q545 : x41_3 < (t476.length : Int):=od
     obtain ⟨ad545,e545,hx545_0⟩:=Kd.at_int (R_reads' HO_5.out).2.2 x41_3 p545 q545
     obtain rfl : ad544 = ad545:=(by injection e545)
     replace p545:=eq_true p545
     replace q545:=eq_true q545
     have p548 : 0 ≤ (x41_3 : Int):=od
     have q548 : x41_3 < (t476.length : Int):=od
     obtain ⟨ad548,e548,hx548_0⟩:=Kd.at_int (R_reads' HO_5.out).2.2 x41_3 p548 q548
     obtain rfl : ad544 = ad548:=(by injection e548)
     replace p548:=eq_true p548
     replace q548:=eq_true q548
     go_wp2
     go_roundg k3
     case measure=>have:=HJ18.out;have:=HJ138.out;have:=HK3.out;omega
     case rel=>exact ⟨(x38_3),(wrap64 (x39_3 + 1)),(wrap64 (x41_3 + 1)),fd,fd,fd,H',⟨by have:=HJ18.out;have:=HJ138.out;have:=HK3.out;omega⟩,⟨rm HO_4.out⟩,⟨rm HO_5.out⟩,⟨rm HO_9.out⟩,⟨rm HO_17.out⟩,⟨bm BK475.out⟩,⟨bm BK516.out⟩,⟨h2 HB.out GE475.out GE516.out⟩⟩
   rw [if_pos c196] at H
   have c196b0 : decide ((rd t476 x41_3) < x38_3) = true:=decide_eq_true c196
   clear c196
   by_cases c197 : (rd t476 x41_3) = 0
   rotate_left
   ·rw [if_neg c197] at H
    have c197b0 : ((rd t476 x41_3) == 0) = false:=beq_eq_false_iff_ne.mpr c197
    have c197b1 : ((rd t476 x41_3) != 0) = true:=bne_iff_ne.mpr c197
    as_aux_lemma =>
     have H':=Aside0.mk H
     clear H
     have hnb200:=NB475_516.out
     have hnc200:=NB516_475.out
     have hcz201_0 : wr.cell? ⟨gb475,0,none⟩ = some (.int .i64 t470):=(blk_cell BK475.out 0).trans rfl
     have hcz201_1 : wr.cell? ⟨gb475,1,none⟩ = some (.bool t471):=(blk_cell BK475.out 1).trans rfl
     have hfz201_0:=blk_frozen BK475.out 0
     have hfz201_1:=blk_frozen BK475.out 1
     have p545 : 0 ≤ (x41_3 : Int):=od
     have q545 : x41_3 < (t476.length : Int):=od
     obtain ⟨ad545,e545,hx545_0⟩:=Kd.at_int (R_reads' HO_5.out).2.2 x41_3 p545 q545
     obtain rfl : ad544 = ad545:=(by injection e545)
     replace p545:=eq_true p545
     replace q545:=eq_true q545
     have p546 : 0 ≤ (x41_3 : Int):=od
     have q546 : x41_3 < (t476.length : Int):=od
     obtain ⟨ad546,e546,hx546_0⟩:=Kd.at_int (R_reads' HO_5.out).2.2 x41_3 p546 q546
     obtain rfl : ad544 = ad546:=(by injection e546)
     replace p546:=eq_true p546
     replace q546:=eq_true q546
     have p547 : 0 ≤ (x41_3 : Int):=od
     have q547 : x41_3 < (t476.length : Int):=od
     obtain ⟨ad547,e547,hx547_0⟩:=Kd.at_int (R_reads' HO_5.out).2.2 x41_3 p547 q547
     obtain rfl : ad544 = ad547:=(by injection e547)
     replace p547:=eq_true p547
     replace q547:=eq_true q547
     go_wp2
     go_roundg k3
     case measure=>have:=HJ18.out;have:=HJ138.out;have:=HK3.out;omega
     case rel=>exact ⟨(rd t476 x41_3),(x39_3),(wrap64 (x41_3 + 1)),fd,fd,fd,H',⟨by have:=HJ18.out;have:=HJ138.out;have:=HK3.out;omega⟩,⟨rm HO_4.out⟩,⟨rm HO_5.out⟩,⟨rm HO_9.out⟩,⟨rm HO_17.out⟩,⟨bm BK475.out⟩,⟨bm BK516.out⟩,⟨h2 HB.out GE475.out GE516.out⟩⟩
   rw [if_pos c197] at H
   have c197b0 : ((rd t476 x41_3) == 0) = true:=beq_iff_eq.mpr c197
   have c197b1 : ((rd t476 x41_3) != 0) = false:=bne_eq_false_iff_eq.mpr c197
   clear c197
   as_aux_lemma =>
    have H':=Aside0.mk H
    clear H
    have hnb198:=NB475_516.out
    have hnc198:=NB516_475.out
    have hcz199_0 : wr.cell? ⟨gb475,0,none⟩ = some (.int .i64 t470):=(blk_cell BK475.out 0).trans rfl
    have hcz199_1 : wr.cell? ⟨gb475,1,none⟩ = some (.bool t471):=(blk_cell BK475.out 1).trans rfl
    have hfz199_0:=blk_frozen BK475.out 0
    have hfz199_1:=blk_frozen BK475.out 1
    have p545 : 0 ≤ (x41_3 : Int):=od
    have q545 : x41_3 < (t476.length : Int):=od
    obtain ⟨ad545,e545,hx545_0⟩:=Kd.at_int (R_reads' HO_5.out).2.2 x41_3 p545 q545
    obtain rfl : ad544 = ad545:=(by injection e545)
    replace p545:=eq_true p545
    replace q545:=eq_true q545
    have p546 : 0 ≤ (x41_3 : Int):=od
    have q546 : x41_3 < (t476.length : Int):=od
    obtain ⟨ad546,e546,hx546_0⟩:=Kd.at_int (R_reads' HO_5.out).2.2 x41_3 p546 q546
    obtain rfl : ad544 = ad546:=(by injection e546)
    replace p546:=eq_true p546
    replace q546:=eq_true q546
    have p547 : 0 ≤ (x41_3 : Int):=od
    have q547 : x41_3 < (t476.length : Int):=od
    obtain ⟨ad547,e547,hx547_0⟩:=Kd.at_int (R_reads' HO_5.out).2.2 x41_3 p547 q547
    obtain rfl : ad544 = ad547:=(by injection e547)
    replace p547:=eq_true p547
    replace q547:=eq_true q547
    go_wp2
    go_roundg k3
    case measure=>have:=HJ18.out;have:=HJ138.out;have:=HK3.out;omega
    case rel=>exact ⟨(rd t476 x41_3),(wrap64 (x39_3 + 1)),(wrap64 (x41_3 + 1)),fd,fd,fd,H',⟨by have:=HJ18.out;have:=HJ138.out;have:=HK3.out;omega⟩,⟨rm HO_4.out⟩,⟨rm HO_5.out⟩,⟨rm HO_9.out⟩,⟨rm HO_17.out⟩,⟨bm BK475.out⟩,⟨bm BK516.out⟩,⟨h2 HB.out GE475.out GE516.out⟩⟩
  rw [if_neg c193] at H
  have c193b0 : decide (x41_3 < t470) = false:=decide_eq_false c193
  clear c193
  have H':=Aside0.mk H
  clear H
  have hnb207:=NB475_516.out
  have hnc207:=NB516_475.out
  have hcz208_0 : wr.cell? ⟨gb475,0,none⟩ = some (.int .i64 t470):=(blk_cell BK475.out 0).trans rfl
  have hcz208_1 : wr.cell? ⟨gb475,1,none⟩ = some (.bool t471):=(blk_cell BK475.out 1).trans rfl
  have hfz208_0:=blk_frozen BK475.out 0
  have hfz208_1:=blk_frozen BK475.out 1
  go_wp2
  go_loopg [40,42] k3 (fun kq v40 v42 w'=>∃ (x40_4 : Int) (x42_4 : Int),v40 = .int .i64 x40_4 ∧ v42 = .int .i64 x42_4 ∧ Aside0 (laws_FnSensors.l2 kq t472 t476 t484 t492 t496 x38_3 x39_3 x40_4 x42_4 t470 t471 = some r) ∧ Aside0 (kq ≤ k3) ∧ Aside0 (Kd.R k59 59 w' w.heap.size (fun _=>True) (.slice Ao23 t472.length co23) t472) ∧ Aside0 (Kd.R (Kd.int .i64) 3 w' w.heap.size (fun k_=>ob k_ v497) (.slice (some ad544) t476.length co192) t476) ∧ Aside0 (Kd.R k54 54 w' w.heap.size (fun _=>True) v485 t484) ∧ Aside0 (Kd.R (Kd.int .i64) 3 w' w.heap.size (fun k_=>some k_ ≠ ((.slice (some ad544) t476.length co192) : Value).ownBlock) v497 t496) ∧ Aside0 (w'.heap[gb475]? = some (.cells #[.int .i64 t470,.bool t471] 28 (0,0))) ∧ Aside0 (w'.heap[gb516]? = some (.cells #[.int .i64 t511,.bool t512] 28 (0,0))) ∧ Aside0 (Below w.heap.size w w'))
  case atStart=>exact ⟨(0),(0),fd,fd,H',⟨Nat.le_refl _⟩,⟨rm HO_4.out⟩,⟨rm HO_5.out⟩,⟨rm HO_9.out⟩,⟨rm HO_17.out⟩,⟨bm BK475.out⟩,⟨bm BK516.out⟩,⟨h2 HB.out GE475.out GE516.out⟩⟩
  clear H'
  try clear c1
  try clear c2
  try clear p2
  try clear p5
  try clear q5
  try clear hx5
  try clear qi5
  try clear c6
  try clear p6
  try clear c7
  try clear c8
  try clear c9
  try clear c13
  try clear c14
  try clear c15
  try clear c16
  try clear c17
  try clear c18
  try clear c19
  try clear c20
  try clear p53
  try clear q53
  try clear hx53
  try clear p54
  try clear q54
  try clear hx54
  try clear qi54
  try clear c62
  try clear c62b0
  try clear c62b1
  try clear c62b2
  try clear p64
  try clear c67
  try clear c67b0
  try clear c67b1
  try clear c67b2
  try clear c73
  try clear c74
  try clear c74b0
  try clear c74b1
  try clear c74b2
  try clear c81
  try clear c81b0
  try clear c81b1
  try clear c81b2
  try clear c88
  try clear c88b0
  try clear c88b1
  try clear c88b2
  try clear c96
  try clear c97
  try clear c138
  try clear c140
  try clear c143
  try clear c150
  try clear c151
  try clear c152
  try clear c154
  try clear c155
  try clear c155b0
  try clear c156
  try clear c156b0
  try clear c158
  try clear c158b0
  try clear c159
  try clear c159b0
  try clear c160
  try clear c160b0
  try clear c160b1
  try clear c168
  try clear c169
  try clear c170
  try clear c172
  try clear c173
  try clear c177
  try clear c181
  try clear c184
  try clear c187
  try clear c190
  try clear c191
  try clear c191b0
  try clear c191b1
  try clear c193
  try clear c193b0
  try clear c194
  try clear c194b0
  try clear c195
  try clear c195b0
  try clear c196
  try clear c196b0
  try clear c197
  try clear c197b0
  try clear c197b1
  try clear c198
  try clear c200
  try clear c202
  try clear c202b0
  try clear c202b1
  try clear c203
  try clear c205
  try clear c207
  try clear hcz144_0
  try clear hcz144_1
  try clear hcz146_0
  try clear hcz146_1
  try clear hcz153_0
  try clear hcz153_1
  try clear hcz174_0
  try clear hcz174_1
  try clear hcz178_0
  try clear hcz178_1
  try clear hcz182_0
  try clear hcz182_1
  try clear hcz185_0
  try clear hcz185_1
  try clear hcz188_0
  try clear hcz188_1
  try clear hcz199_0
  try clear hcz199_1
  try clear hcz201_0
  try clear hcz201_1
  try clear hcz204_0
  try clear hcz204_1
  try clear hcz206_0
  try clear hcz206_1
  try clear hcz208_0
  try clear hcz208_1
  try clear hcz22_0
  try clear hcz22_1
  try clear hcz25_0
  try clear hcz25_1
  try clear hcz27_0
  try clear hcz27_1
  try clear hcz29_0
  try clear hcz29_1
  try clear hcz31_0
  try clear hcz31_1
  try clear hcz33_0
  try clear hcz33_1
  try clear hcz35_0
  try clear hcz35_1
  try clear hcz37_0
  try clear hcz37_1
  try clear hcz39_0
  try clear hcz39_1
  try clear hcz41_0
  try clear hcz41_1
  try clear hcz48_0
  try clear hcz48_1
  try clear hcz51_0
  try clear hcz51_1
  try clear hfz144_0
  try clear hfz144_1
  try clear hfz146_0
  try clear hfz146_1
  try clear hfz153_0
  try clear hfz153_1
  try clear hfz174_0
  try clear hfz174_1
  try clear hfz178_0
  try clear hfz178_1
  try clear hfz182_0
  try clear hfz182_1
  try clear hfz185_0
  try clear hfz185_1
  try clear hfz188_0
  try clear hfz188_1
  try clear hfz199_0
  try clear hfz199_1
  try clear hfz201_0
  try clear hfz201_1
  try clear hfz204_0
  try clear hfz204_1
  try clear hfz206_0
  try clear hfz206_1
  try clear hfz208_0
  try clear hfz208_1
  try clear hfz22_0
  try clear hfz22_1
  try clear hfz25_0
  try clear hfz25_1
  try clear hfz27_0
  try clear hfz27_1
  try clear hfz29_0
  try clear hfz29_1
  try clear hfz31_0
  try clear hfz31_1
  try clear hfz33_0
  try clear hfz33_1
  try clear hfz35_0
  try clear hfz35_1
  try clear hfz37_0
  try clear hfz37_1
  try clear hfz39_0
  try clear hfz39_1
  try clear hfz41_0
  try clear hfz41_1
  try clear hfz48_0
  try clear hfz48_1
  try clear hfz51_0
  try clear hfz51_1
  try clear hx537_0
  try clear hx538_0
  try clear hx544_0
  try clear hx545_0
  try clear hx546_0
  try clear hx547_0
  try clear hx548_0
  try clear p2
  try clear p5
  try clear p53
  try clear p537
  try clear p538
  try clear p54
  try clear p544
  try clear p545
  try clear p546
  try clear p547
  try clear p548
  try clear p6
  try clear p64
  try clear q5
  try clear q53
  try clear q537
  try clear q538
  try clear q54
  try clear q544
  try clear q545
  try clear q546
  try clear q547
  try clear q548
  obtain ⟨x40_4,x42_4,rfl,rfl,HA,HK4,HO_4,HO_5,HO_9,HO_17,BK475,BK516,HB⟩:=hrel
  cases gk with
  | zero=>exact absurd HA.out (by simp [laws_FnSensors.l2])
  | succ k4 =>
   have H:=HA.out
   clear HA
   simp only [laws_FnSensors.l2] at H
   by_cases c209 : x42_4 < (t484.length : Int)
   ·rw [if_pos c209] at H
    have c209b0 : decide (x42_4 < (t484.length : Int)) = true:=decide_eq_true c209
    clear c209
    by_cases c210 : 0 ≤ x42_4
    rotate_left
    ·rw [if_neg c210] at H
     exact absurd H (by simp)
    rw [if_pos c210] at H
    have c210b0 : decide (0 ≤ x42_4) = true:=decide_eq_true c210
    clear c210
    have H':=Aside0.mk H
    clear H
    obtain ⟨Ao211,co211,eo211⟩:=R_slice HO_9.out
    subst eo211
    have p549 : 0 ≤ (x42_4 : Int):=od
    have q549 : x42_4 < (t484.length : Int):=od
    obtain ⟨ad549,e549,hx549_0,hx549_1⟩:=at_T54 (R_reads' HO_9.out).2.2 x42_4 p549 q549
    cases e549
    replace p549:=eq_true p549
    replace q549:=eq_true q549
    go_wp2
    go_loopg [40,43] k4 (fun kq v40 v43 w'=>∃ (x40_5 : Int) (x43_5 : Int),v40 = .int .i64 x40_5 ∧ v43 = .int .i64 x43_5 ∧ Aside0 (laws_FnSensors.l3 kq t472 t476 t484 t492 t496 x38_3 x39_3 x40_5 x42_4 x43_5 t470 t471 = some r) ∧ Aside0 (kq ≤ k4) ∧ Aside0 (Kd.R k59 59 w' w.heap.size (fun _=>True) (.slice Ao23 t472.length co23) t472) ∧ Aside0 (Kd.R (Kd.int .i64) 3 w' w.heap.size (fun k_=>ob k_ v497) (.slice (some ad544) t476.length co192) t476) ∧ Aside0 (Kd.R k54 54 w' w.heap.size (fun _=>True) (.slice (some ad549) t484.length co211) t484) ∧ Aside0 (Kd.R (Kd.int .i64) 3 w' w.heap.size (fun k_=>some k_ ≠ ((.slice (some ad544) t476.length co192) : Value).ownBlock) v497 t496) ∧ Aside0 (w'.heap[gb475]? = some (.cells #[.int .i64 t470,.bool t471] 28 (0,0))) ∧ Aside0 (w'.heap[gb516]? = some (.cells #[.int .i64 t511,.bool t512] 28 (0,0))) ∧ Aside0 (Below w.heap.size w w'))
    case atStart=>exact ⟨(x40_4),((rd_T54 t484 x42_4).f0),fd,fd,H',⟨Nat.le_refl _⟩,⟨rm HO_4.out⟩,⟨rm HO_5.out⟩,⟨rm HO_9.out⟩,⟨rm HO_17.out⟩,⟨bm BK475.out⟩,⟨bm BK516.out⟩,⟨h2 HB.out GE475.out GE516.out⟩⟩
    clear H'
    try clear c1
    try clear c2
    try clear p2
    try clear p5
    try clear q5
    try clear hx5
    try clear qi5
    try clear c6
    try clear p6
    try clear c7
    try clear c8
    try clear c9
    try clear c13
    try clear c14
    try clear c15
    try clear c16
    try clear c17
    try clear c18
    try clear c19
    try clear c20
    try clear c21
    try clear p53
    try clear q53
    try clear hx53
    try clear p54
    try clear q54
    try clear hx54
    try clear qi54
    try clear c62
    try clear c62b0
    try clear c62b1
    try clear c62b2
    try clear p64
    try clear c67
    try clear c67b0
    try clear c67b1
    try clear c67b2
    try clear c73
    try clear c74
    try clear c74b0
    try clear c74b1
    try clear c74b2
    try clear c81
    try clear c81b0
    try clear c81b1
    try clear c81b2
    try clear c88
    try clear c88b0
    try clear c88b1
    try clear c88b2
    try clear c96
    try clear c97
    try clear c138
    try clear c140
    try clear c143
    try clear c150
    try clear c151
    try clear c152
    try clear c154
    try clear c155
    try clear c155b0
    try clear c156
    try clear c156b0
    try clear c158
    try clear c158b0
    try clear c159
    try clear c159b0
    try clear c160
    try clear c160b0
    try clear c160b1
    try clear c168
    try clear c169
    try clear c170
    try clear c172
    try clear c173
    try clear c177
    try clear c181
    try clear c184
    try clear c187
    try clear c190
    try clear c191
    try clear c191b0
    try clear c191b1
    try clear c193
    try clear c193b0
    try clear c194
    try clear c194b0
    try clear c195
    try clear c195b0
    try clear c196
    try clear c196b0
    try clear c197
    try clear c197b0
    try clear c197b1
    try clear c198
    try clear c200
    try clear c202
    try clear c202b0
    try clear c202b1
    try clear c203
    try clear c205
    try clear c207
    try clear c209
    try clear c209b0
    try clear c210
    try clear c210b0
    try clear hcz144_0
    try clear hcz144_1
    try clear hcz146_0
    try clear hcz146_1
    try clear hcz153_0
    try clear hcz153_1
    try clear hcz174_0
    try clear hcz174_1
    try clear hcz178_0
    try clear hcz178_1
    try clear hcz182_0
    try clear hcz182_1
    try clear hcz185_0
    try clear hcz185_1
    try clear hcz188_0
    try clear hcz188_1
    try clear hcz199_0
    try clear hcz199_1
    try clear hcz201_0
    try clear hcz201_1
    try clear hcz204_0
    try clear hcz204_1
    try clear hcz206_0
    try clear hcz206_1
    try clear hcz208_0
    try clear hcz208_1
    try clear hcz22_0
    try clear hcz22_1
    try clear hcz25_0
    try clear hcz25_1
    try clear hcz27_0
    try clear hcz27_1
    try clear hcz29_0
    try clear hcz29_1
    try clear hcz31_0
    try clear hcz31_1
    try clear hcz33_0
    try clear hcz33_1
    try clear hcz35_0
    try clear hcz35_1
    try clear hcz37_0
    try clear hcz37_1
    try clear hcz39_0
    try clear hcz39_1
    try clear hcz41_0
    try clear hcz41_1
    try clear hcz48_0
    try clear hcz48_1
    try clear hcz51_0
    try clear hcz51_1
    try clear hfz144_0
    try clear hfz144_1
    try clear hfz146_0
    try clear hfz146_1
    try clear hfz153_0
    try clear hfz153_1
    try clear hfz174_0
    try clear hfz174_1
    try clear hfz178_0
    try clear hfz178_1
    try clear hfz182_0
    try clear hfz182_1
    try clear hfz185_0
    try clear hfz185_1
    try clear hfz188_0
    try clear hfz188_1
    try clear hfz199_0
    try clear hfz199_1
    try clear hfz201_0
    try clear hfz201_1
    try clear hfz204_0
    try clear hfz204_1
    try clear hfz206_0
    try clear hfz206_1
    try clear hfz208_0
    try clear hfz208_1
    try clear hfz22_0
    try clear hfz22_1
    try clear hfz25_0
    try clear hfz25_1
    try clear hfz27_0
    try clear hfz27_1
    try clear hfz29_0
    try clear hfz29_1
    try clear hfz31_0
    try clear hfz31_1
    try clear hfz33_0
    try clear hfz33_1
    try clear hfz35_0
    try clear hfz35_1
    try clear hfz37_0
    try clear hfz37_1
    try clear hfz39_0
    try clear hfz39_1
    try clear hfz41_0
    try clear hfz41_1
    try clear hfz48_0
    try clear hfz48_1
    try clear hfz51_0
    try clear hfz51_1
    try clear hx537_0
    try clear hx538_0
    try clear hx544_0
    try clear hx545_0
    try clear hx546_0
    try clear hx547_0
    try clear hx548_0
    try clear hx549_0
    try clear hx549_1
    try clear p2
    try clear p5
    try clear p53
    try clear p537
    try clear p538
    try clear p54
    try clear p544
    try clear p545
    try clear p546
    try clear p547
    try clear p548
    try clear p549
    try clear p6
    try clear p64
    try clear q5
    try clear q53
    try clear q537
    try clear q538
    try clear q54
    try clear q544
    try clear q545
    try clear q546
    try clear q547
    try clear q548
    try clear q549
    obtain ⟨x40_5,x43_5,rfl,rfl,HA,HK5,HO_4,HO_5,HO_9,HO_17,BK475,BK516,HB⟩:=hrel
    cases gk with
    | zero=>exact absurd HA.out (by simp [laws_FnSensors.l3])
    | succ k5 =>
     have H:=HA.out
     clear HA
     simp only [laws_FnSensors.l3] at H
     by_cases c212 : 0 ≤ x42_4
     rotate_left
     ·rw [if_neg c212] at H
      exact absurd H (by simp)
     rw [if_pos c212] at H
     have c212b0 : decide (0 ≤ x42_4) = true:=decide_eq_true c212
     clear c212
     by_cases c213 : x42_4 < (t484.length : Int)
     rotate_left
     ·rw [if_neg c213] at H
      exact absurd H (by simp)
     rw [if_pos c213] at H
     have c213b0 : decide (x42_4 < (t484.length : Int)) = true:=decide_eq_true c213
     clear c213
     by_cases c214 : x43_5 ≤ ((rd_T54 t484 x42_4).f1)
     rotate_left
     ·rw [if_neg c214] at H
      have c214b0 : decide (x43_5 ≤ ((rd_T54 t484 x42_4).f1)) = false:=decide_eq_false c214
      clear c214
      as_aux_lemma =>
       have H':=Aside0.mk H
       clear H
       have p550 : 0 ≤ (x42_4 : Int):=od
       have q550 : x42_4 < (t484.length : Int):=od
       obtain ⟨ad550,e550,hx550_0,hx550_1⟩:=at_T54 (R_reads' HO_9.out).2.2 x42_4 p550 q550
       obtain rfl : ad549 = ad550:=(by injection e550)
       replace p550:=eq_true p550
       replace q550:=eq_true q550
       go_wp2
       go_roundg k5
       case measure=>have:=HJ18.out;have:=HJ138.out;have:=HK3.out;have:=HK4.out;have:=HK5.out;omega
       case rel=>exact ⟨(x40_5),(wrap64 (x42_4 + 1)),fd,fd,H',⟨by have:=HJ18.out;have:=HJ138.out;have:=HK3.out;have:=HK4.out;have:=HK5.out;omega⟩,⟨rm HO_4.out⟩,⟨rm HO_5.out⟩,⟨rm HO_9.out⟩,⟨rm HO_17.out⟩,⟨bm BK475.out⟩,⟨bm BK516.out⟩,⟨h2 HB.out GE475.out GE516.out⟩⟩
     rw [if_pos c214] at H
     have c214b0 : decide (x43_5 ≤ ((rd_T54 t484 x42_4).f1)) = true:=decide_eq_true c214
     clear c214
     by_cases c215 : 0 ≤ x43_5
     rotate_left
     ·rw [if_neg c215] at H
      exact absurd H (by simp)
     rw [if_pos c215] at H
     have c215b0 : decide (0 ≤ x43_5) = true:=decide_eq_true c215
     clear c215
     by_cases c216 : x43_5 < (t476.length : Int)
     rotate_left
     ·rw [if_neg c216] at H
      exact absurd H (by simp)
     rw [if_pos c216] at H
     have c216b0 : decide (x43_5 < (t476.length : Int)) = true:=decide_eq_true c216
     clear c216
     by_cases c217 : (rd t476 x43_5) = 0
     rotate_left
     ·rw [if_neg c217] at H
      have c217b0 : ((rd t476 x43_5) == 0) = false:=beq_eq_false_iff_ne.mpr c217
      have c217b1 : ((rd t476 x43_5) != 0) = true:=bne_iff_ne.mpr c217
      as_aux_lemma =>
       obtain rfl:=Option.some.inj H
       have p550 : 0 ≤ (x42_4 : Int):=od
       have q550 : x42_4 < (t484.length : Int):=od
       obtain ⟨ad550,e550,hx550_0,hx550_1⟩:=at_T54 (R_reads' HO_9.out).2.2 x42_4 p550 q550
       obtain rfl : ad549 = ad550:=(by injection e550)
       replace p550:=eq_true p550
       replace q550:=eq_true q550
       have p551 : 0 ≤ (x43_5 : Int):=od
       have q551 : x43_5 < (t476.length : Int):=od
       obtain ⟨ad551,e551,hx551_0⟩:=Kd.at_int (R_reads' HO_5.out).2.2 x43_5 p551 q551
       obtain rfl : ad544 = ad551:=(by injection e551)
       replace p551:=eq_true p551
       replace q551:=eq_true q551
       go_wp2
       go_ret
       exact ⟨fe,h2 HB.out GE475.out GE516.out⟩
     rw [if_pos c217] at H
     have c217b0 : ((rd t476 x43_5) == 0) = true:=beq_iff_eq.mpr c217
     have c217b1 : ((rd t476 x43_5) != 0) = false:=bne_eq_false_iff_eq.mpr c217
     clear c217
     as_aux_lemma =>
      have H':=Aside0.mk H
      clear H
      have p550 : 0 ≤ (x42_4 : Int):=od
      have q550 : x42_4 < (t484.length : Int):=od
      obtain ⟨ad550,e550,hx550_0,hx550_1⟩:=at_T54 (R_reads' HO_9.out).2.2 x42_4 p550 q550
      obtain rfl : ad549 = ad550:=(by injection e550)
      replace p550:=eq_true p550
      replace q550:=eq_true q550
      have p551 : 0 ≤ (x43_5 : Int):=od
      have q551 : x43_5 < (t476.length : Int):=od
      obtain ⟨ad551,e551,hx551_0⟩:=Kd.at_int (R_reads' HO_5.out).2.2 x43_5 p551 q551
      obtain rfl : ad544 = ad551:=(by injection e551)
      replace p551:=eq_true p551
      replace q551:=eq_true q551
      go_wp2
      go_roundg k5
      case measure=>have:=HJ18.out;have:=HJ138.out;have:=HK3.out;have:=HK4.out;have:=HK5.out;omega
      case rel=>exact ⟨(wrap64 (x40_5 + 1)),(wrap64 (x43_5 + 1)),fd,fd,H',⟨by have:=HJ18.out;have:=HJ138.out;have:=HK3.out;have:=HK4.out;have:=HK5.out;omega⟩,⟨rm HO_4.out⟩,⟨rm HO_5.out⟩,⟨rm HO_9.out⟩,⟨rm HO_17.out⟩,⟨bm BK475.out⟩,⟨bm BK516.out⟩,⟨h2 HB.out GE475.out GE516.out⟩⟩
   rw [if_neg c209] at H
   have c209b0 : decide (x42_4 < (t484.length : Int)) = false:=decide_eq_false c209
   clear c209
   have HC218:=Aside0.mk H
   clear H
   obtain ⟨Ao219,co219,eo219⟩:=R_slice HO_9.out
   subst eo219
   go_upto_region 49 with (fail)
   go_cut [333] (fun v333 wc=>∃ (kq : Nat) (x333_217 : Bool),v333 = .bool x333_217 ∧ Aside0 (laws_FnSensors.j7 kq t472 t492 t496 x333_217 t470 t471 = some r) ∧ Aside0 (kq ≤ k4) ∧ Aside0 (Kd.R k59 59 wc w.heap.size (fun _=>True) (.slice Ao23 t472.length co23) t472) ∧ Aside0 (Kd.R (Kd.int .i64) 3 wc w.heap.size (fun _=>True) v497 t496) ∧ Aside0 (wc.heap[gb475]? = some (.cells #[.int .i64 t470,.bool t471] 28 (0,0))) ∧ Aside0 (wc.heap[gb516]? = some (.cells #[.int .i64 t511,.bool t512] 28 (0,0))) ∧ Aside0 (Below w.heap.size w wc))
   case first =>
    have H:=HC218.out
    clear HC218
    by_cases c220 : x40_4 = x39_3
    rotate_left
    ·rw [if_neg c220] at H
     have c220b0 : (x40_4 == x39_3) = false:=beq_eq_false_iff_ne.mpr c220
     have c220b1 : (x40_4 != x39_3) = true:=bne_iff_ne.mpr c220
     (first|rw [c220b0]|(simp only [i64_w,i32_w];rw [c220b0])|skip)
     as_aux_lemma =>
      have H':=Aside0.mk H
      clear H
      go_wp2
      go_meet
      case rel=>exact ⟨_,(true),fd,H',⟨by have:=HJ18.out;have:=HJ138.out;have:=HK3.out;have:=HK4.out;first|omega|exact Nat.le_refl _⟩,⟨rm HO_4.out⟩,⟨rm (R_mono HO_17.out (fun _ hk=>trivial))⟩,⟨bm BK475.out⟩,⟨bm BK516.out⟩,⟨h2 HB.out GE475.out GE516.out⟩⟩
    rw [if_pos c220] at H
    have c220b0 : (x40_4 == x39_3) = true:=beq_iff_eq.mpr c220
    have c220b1 : (x40_4 != x39_3) = false:=bne_eq_false_iff_eq.mpr c220
    clear c220
    (first|rw [c220b0]|(simp only [i64_w,i32_w];rw [c220b0])|skip)
    by_cases c221 : t492 = x38_3
    rotate_left
    ·rw [if_neg c221] at H
     have c221b0 : (t492 == x38_3) = false:=beq_eq_false_iff_ne.mpr c221
     have c221b1 : (t492 != x38_3) = true:=bne_iff_ne.mpr c221
     as_aux_lemma =>
      have H':=Aside0.mk H
      clear H
      go_wp2
      go_meet
      case rel=>exact ⟨_,(true),fd,H',⟨by have:=HJ18.out;have:=HJ138.out;have:=HK3.out;have:=HK4.out;first|omega|exact Nat.le_refl _⟩,⟨rm HO_4.out⟩,⟨rm (R_mono HO_17.out (fun _ hk=>trivial))⟩,⟨bm BK475.out⟩,⟨bm BK516.out⟩,⟨h2 HB.out GE475.out GE516.out⟩⟩
    rw [if_pos c221] at H
    have c221b0 : (t492 == x38_3) = true:=beq_iff_eq.mpr c221
    have c221b1 : (t492 != x38_3) = false:=bne_eq_false_iff_eq.mpr c221
    clear c221
    as_aux_lemma =>
     have H':=Aside0.mk H
     clear H
     go_wp2
     go_meet
     case rel=>exact ⟨_,(((t492 == 0) != (decide ((t484.length : Int) > 0)))),(by first|rfl|(simp only [bne, gt_iff_lt, Int.natCast_pos]; done) | (simp;done)|(simp [*];done)),H',⟨by have:=HJ18.out;have:=HJ138.out;have:=HK3.out;have:=HK4.out;first|omega|exact Nat.le_refl _⟩,⟨rm HO_4.out⟩,⟨rm (R_mono HO_17.out (fun _ hk=>trivial))⟩,⟨bm BK475.out⟩,⟨bm BK516.out⟩,⟨h2 HB.out GE475.out GE516.out⟩⟩
   clear HC218
   try clear c1
   try clear c2
   try clear p2
   try clear p5
   try clear q5
   try clear hx5
   try clear qi5
   try clear c6
   try clear p6
   try clear c7
   try clear c8
   try clear c9
   try clear c13
   try clear c14
   try clear c15
   try clear c16
   try clear c17
   try clear c18
   try clear c19
   try clear c20
   try clear c21
   try clear c22
   try clear p53
   try clear q53
   try clear hx53
   try clear p54
   try clear q54
   try clear hx54
   try clear qi54
   try clear p55
   try clear q55
   try clear hx55
   try clear c62
   try clear c62b0
   try clear c62b1
   try clear c62b2
   try clear p64
   try clear c67
   try clear c67b0
   try clear c67b1
   try clear c67b2
   try clear c73
   try clear c74
   try clear c74b0
   try clear c74b1
   try clear c74b2
   try clear c81
   try clear c81b0
   try clear c81b1
   try clear c81b2
   try clear c88
   try clear c88b0
   try clear c88b1
   try clear c88b2
   try clear c96
   try clear c97
   try clear c138
   try clear c140
   try clear c143
   try clear c150
   try clear c151
   try clear c152
   try clear c154
   try clear c155
   try clear c155b0
   try clear c156
   try clear c156b0
   try clear c158
   try clear c158b0
   try clear c159
   try clear c159b0
   try clear c160
   try clear c160b0
   try clear c160b1
   try clear c168
   try clear c169
   try clear c170
   try clear c172
   try clear c173
   try clear c177
   try clear c181
   try clear c184
   try clear c187
   try clear c190
   try clear c191
   try clear c191b0
   try clear c191b1
   try clear c193
   try clear c193b0
   try clear c194
   try clear c194b0
   try clear c195
   try clear c195b0
   try clear c196
   try clear c196b0
   try clear c197
   try clear c197b0
   try clear c197b1
   try clear c198
   try clear c200
   try clear c202
   try clear c202b0
   try clear c202b1
   try clear c203
   try clear c205
   try clear c207
   try clear c209
   try clear c209b0
   try clear c210
   try clear c210b0
   try clear c212
   try clear c212b0
   try clear c213
   try clear c213b0
   try clear c214
   try clear c214b0
   try clear c215
   try clear c215b0
   try clear c216
   try clear c216b0
   try clear c217
   try clear c217b0
   try clear c217b1
   try clear c220
   try clear c220b0
   try clear c220b1
   try clear c221
   try clear c221b0
   try clear c221b1
   try clear hcz144_0
   try clear hcz144_1
   try clear hcz146_0
   try clear hcz146_1
   try clear hcz153_0
   try clear hcz153_1
   try clear hcz174_0
   try clear hcz174_1
   try clear hcz178_0
   try clear hcz178_1
   try clear hcz182_0
   try clear hcz182_1
   try clear hcz185_0
   try clear hcz185_1
   try clear hcz188_0
   try clear hcz188_1
   try clear hcz199_0
   try clear hcz199_1
   try clear hcz201_0
   try clear hcz201_1
   try clear hcz204_0
   try clear hcz204_1
   try clear hcz206_0
   try clear hcz206_1
   try clear hcz208_0
   try clear hcz208_1
   try clear hcz22_0
   try clear hcz22_1
   try clear hcz25_0
   try clear hcz25_1
   try clear hcz27_0
   try clear hcz27_1
   try clear hcz29_0
   try clear hcz29_1
   try clear hcz31_0
   try clear hcz31_1
   try clear hcz33_0
   try clear hcz33_1
   try clear hcz35_0
   try clear hcz35_1
   try clear hcz37_0
   try clear hcz37_1
   try clear hcz39_0
   try clear hcz39_1
   try clear hcz41_0
   try clear hcz41_1
   try clear hcz48_0
   try clear hcz48_1
   try clear hcz51_0
   try clear hcz51_1
   try clear hfz144_0
   try clear hfz144_1
   try clear hfz146_0
   try clear hfz146_1
   try clear hfz153_0
   try clear hfz153_1
   try clear hfz174_0
   try clear hfz174_1
   try clear hfz178_0
   try clear hfz178_1
   try clear hfz182_0
   try clear hfz182_1
   try clear hfz185_0
   try clear hfz185_1
   try clear hfz188_0
   try clear hfz188_1
   try clear hfz199_0
   try clear hfz199_1
   try clear hfz201_0
   try clear hfz201_1
   try clear hfz204_0
   try clear hfz204_1
   try clear hfz206_0
   try clear hfz206_1
   try clear hfz208_0
   try clear hfz208_1
   try clear hfz22_0
   try clear hfz22_1
   try clear hfz25_0
   try clear hfz25_1
   try clear hfz27_0
   try clear hfz27_1
   try clear hfz29_0
   try clear hfz29_1
   try clear hfz31_0
   try clear hfz31_1
   try clear hfz33_0
   try clear hfz33_1
   try clear hfz35_0
   try clear hfz35_1
   try clear hfz37_0
   try clear hfz37_1
   try clear hfz39_0
   try clear hfz39_1
   try clear hfz41_0
   try clear hfz41_1
   try clear hfz48_0
   try clear hfz48_1
   try clear hfz51_0
   try clear hfz51_1
   try clear hx537_0
   try clear hx538_0
   try clear hx544_0
   try clear hx545_0
   try clear hx546_0
   try clear hx547_0
   try clear hx548_0
   try clear hx549_0
   try clear hx549_1
   try clear hx550_0
   try clear hx550_1
   try clear hx551_0
   try clear p2
   try clear p5
   try clear p53
   try clear p537
   try clear p538
   try clear p54
   try clear p544
   try clear p545
   try clear p546
   try clear p547
   try clear p548
   try clear p549
   try clear p550
   try clear p551
   try clear p6
   try clear p64
   try clear q5
   try clear q53
   try clear q537
   try clear q538
   try clear q54
   try clear q544
   try clear q545
   try clear q546
   try clear q547
   try clear q548
   try clear q549
   try clear q550
   try clear q551
   obtain ⟨kq,x333_217,rfl,HA,HJ217,HO_4,HO_17,BK475,BK516,HB⟩:=hcut
   cases kq with
   | zero=>exact absurd HA.out (by simp [laws_FnSensors.j7])
   | succ kj217 =>
    have H:=HA.out
    clear HA
    simp only [laws_FnSensors.j7] at H
    by_cases c222 : x333_217 = true
    ·subst c222
     rw [if_pos rfl] at H
     as_aux_lemma =>
      obtain rfl:=Option.some.inj H
      go_wp2
      go_ret
      exact ⟨fe,h2 HB.out GE475.out GE516.out⟩
    replace c222:=Bool.eq_false_iff.mpr c222
    subst c222
    rw [if_neg (show ¬ (false = true) by decide)] at H
    exact laws_FnSensors.rest4 (by assumption) (by assumption) GE475 GE516 NB475_516 NB516_475 HJ18 HJ138 HK3 HK4 HO_4 HO_17 BK475 BK516 HB HJ217 H
end
end Go.Proofs.Ytknfhoghimnieaa.QFnSensors
