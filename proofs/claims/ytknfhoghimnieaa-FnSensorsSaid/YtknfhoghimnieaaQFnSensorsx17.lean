/- Functions that the law FnSensors comes to, as Lean functions, with the proof that the Go code does what they say: written by a program of this session over the kit's print. No condition but those named. -/
import Derived.Test.YtknfhoghimnieaaQFnSensorsx0
import Derived.Test.YtknfhoghimnieaaQFnSensorsx4
import Derived.Test.YtknfhoghimnieaaQFnSensorsx5
import Derived.Test.YtknfhoghimnieaaQFnSensorsx6
import Derived.Test.YtknfhoghimnieaaQFnSensorsx7
import Derived.Test.YtknfhoghimnieaaQFnSensorsx8
import Derived.Test.YtknfhoghimnieaaQFnSensorsx9
import Derived.Test.YtknfhoghimnieaaQFnSensorsx10
import Derived.Test.YtknfhoghimnieaaQFnSensorsx12
import Derived.Test.YtknfhoghimnieaaQFnSensorsx13
import Derived.Test.YtknfhoghimnieaaQFnSensorsx14
import Derived.Test.YtknfhoghimnieaaQFnSensorsx16
namespace Go.Proofs.Ytknfhoghimnieaa.QFnSensors
open Go.RowKit Go.Proofs.YtknfhoghimnieaaW.PrintWords Go.Proofs.YtknfhoghimnieaaW.PrintLast Go.Proofs.YtknfhoghimnieaaW.PrintMore Go.Proofs.Ytknfhoghimnieaa.Short
attribute [local go_sem] max2_int min2_int max_two min_two max_three min_three max_four min_four   -- for this text's walks alone
set_option linter.unusedVariables false
set_option linter.unusedSimpArgs false

section
open Kd
set_option maxHeartbeats 8000000 in
set_option maxRecDepth 1000000 in
theorem laws_FnSensors.rest1 {k : Nat} {A0 : Option Addr} {c0 : Nat} {l0 : List Int} {r : Bool} {w : World} {t470 : Int} {t471 : Bool} {t472 : List S59} {t476 : List Int} {t479 t483 : Bool} {t484 : List S54} {t487 t491 : Bool} {t492 : Int} {t493 : Bool} {t494 : Int} {t495 : Bool} {t496 : List Int} {t499 t503 t504 t505 t506 t507 : Bool} {t511 : Int} {t512 : Bool} {t513 t517 : List S59} {t520 t524 : Bool} {gb475 : Nat} {Ao23 : Option Addr} {co23 : Nat} {v477 v481 v485 v489 v497 v501 : Value} {gb516 : Nat} {Ao49 : Option Addr} {co49 : Nat} {v518 v522 : Value} {wc : World} {u48 u49 u50 u51 u52 u53 u54 u55 u56 u57 u58 u59 u60 u61 u62 u63 u64 u65 u66 u67 u68 u69 u70 u71 u72 u73 u74 u75 u76 u77 u78 u79 u80 u81 u82 u83 u84 u85 u86 u87 u88 u89 u90 u91 u92 u93 u94 u95 u96 u97 u98 u99 u100 u101 u102 u103 u104 u105 u106 u107 u108 u109 u110 u111 u112 u113 u114 u115 u116 u117 u118 u119 u120 u121 u122 u123 u124 u125 u126 u127 u128 u129 u130 u131 u132 u133 u134 u135 u136 u137 u138 u139 u140 u141 u142 u143 u144 u145 u146 u147 u148 u149 u150 u151 u152 u153 u154 u155 u156 u157 u158 u159 u160 u161 u162 u163 u164 u165 u166 u167 u168 u169 u170 u171 u172 u173 u174 u175 u176 u177 u178 u179 u180 u181 u182 u183 u184 u185 u186 u187 u188 u189 u190 u191 u192 u193 u194 u195 u196 u197 u198 u199 u200 u201 u203 u204 u205 u206 u207 u208 u209 u210 u211 u212 u213 u214 u215 u216 u217 u218 u219 u220 u221 u222 u223 u224 u225 u226 u227 u228 u229 u230 u231 u232 u233 u234 u235 u236 u237 u238 u239 u240 u241 u242 u243 u244 u245 u246 u247 u248 u249 u250 u251 u252 u253 u254 u255 u256 u257 u258 u259 u260 u261 u262 u263 u264 u265 u266 u267 u268 u269 u270 u271 u272 u273 u274 u275 u276 u277 u278 u279 u280 u281 u282 u283 u284 u285 u286 u287 u288 u289 u290 u291 u292 u293 u294 u295 u296 u297 u298 u299 u300 u301 u302 u303 u304 u305 u306 u307 u308 u309 u310 u311 u312 u313 u314 u315 u316 u317 u318 u319 u320 u321 u322 u323 u324 u325 u326 u327 u328 u329 u330 u331 u332 u333 u334 u335 u336 u337 u338 u339 u340 u341 u342 u343 u344 u345 u346 u347 u348 u349 u350 u351 u352 u353 u354 u355 u356 u357 u358 u359 u360 u361 u362 u363 u364 u365 u366 u367 u368 u369 u370 u371 : Value} {kj18 : Nat} {K1 K : Act → World → Prop} (hK1 : ∀ a w_, Code.wp Try.prog (follow [true, true, true, true, true, true, true, true, true, true, true, true, true, true, true, true, true] (Try.f9.body.getD Code.skip)) (bodyPost Try.prog Try.f9 fun e w' => e = Ending.returned (Value.bool r) ∧ Below w.heap.size w w') a w_ → K1 a w_) (hK : ∀ a w_, Code.wp Try.prog (follow [true, true, true, true, true, true, true, true, true, true, true, true, true, true, true, true, false, true] (Try.f9.body.getD Code.skip)) (Exit.then K1 (bodyPost Try.prog Try.f9 fun e w' => e = Ending.returned (Value.bool r) ∧ Below w.heap.size w w')) a w_ → K a w_) (GE475 : Aside0 (w.heap.size ≤ gb475)) (GE516 : Aside0 (w.heap.size ≤ gb516)) (NB475_516 : Aside0 (gb475 ≠ gb516)) (NB516_475 : Aside0 (gb516 ≠ gb475)) (HO_4 : Aside0 (k59.R 59 wc w.heap.size (fun k_ => ob k_ (.slice Ao49 t513.length co49) ∧ ob k_ v518) (Value.slice Ao23 t472.length co23) t472)) (HO_5 : Aside0 ((int IntKind.i64).R 3 wc w.heap.size (fun k_ => ob k_ v497) v477 t476)) (HO_9 : Aside0 (k54.R 54 wc w.heap.size (fun x => True) v485 t484)) (HO_17 : Aside0 ((int IntKind.i64).R 3 wc w.heap.size (fun k_ => ob k_ v477) v497 t496)) (HO_26 : Aside0 (k59.R 59 wc w.heap.size (fun k_ => ob k_ (.slice Ao23 t472.length co23) ∧ ob k_ v518) (Value.slice Ao49 t513.length co49) t513)) (HO_27 : Aside0 (k59.R 59 wc w.heap.size (fun k_ => ob k_ (.slice Ao23 t472.length co23) ∧ ob k_ (.slice Ao49 t513.length co49)) v518 t517)) (BK475 : Aside0 (wc.heap[gb475]? = some (Obj.cells #[Value.int IntKind.i64 t470, Value.bool t471] 28))) (BK516 : Aside0 (wc.heap[gb516]? = some (Obj.cells #[Value.int IntKind.i64 t511, Value.bool t512] 28))) (HB : Aside0 (Below w.heap.size w wc)) (HJ18 : Aside0 (kj18 + 1 ≤ k)) (H : (if t520 = true then (impl_SeenBy.f kj18 t511 t512 t513).bind fun bt529 => (impl_SeenBy.f kj18 t511 t512 t517).bind fun bt533 => laws_FnSensors.l0 kj18 t472 t476 t479 t484 t492 t496 t513 t517 bt529.fst bt529.snd bt533.fst bt533.snd 0 t470 t471 t511 t512 else j3 kj18 t472 t476 t479 t484 t492 t496 t470 t471) = some r) :
  K { tmps := #[Value.slice A0 l0.length c0, undef, Value.bool false, Value.pointer (some { block := gb475, off := 0 }), Value.slice Ao23 t472.length co23, v477, Value.bool t479, v481, Value.bool t483, v485, Value.bool t487, v489, Value.bool t491, Value.int IntKind.i64 t492, Value.bool t493, Value.int IntKind.i64 t494, Value.bool t495, v497, Value.bool t499, v501, Value.bool t503, Value.bool t504, Value.bool t505, Value.bool t506, Value.bool t507, Value.pointer (some { block := gb516, off := 0 }), Value.slice Ao49 t513.length co49, v518, Value.bool t520, v522, Value.bool t524, undef, undef, undef, undef, undef, undef, undef, undef, undef, undef, undef, undef, undef, undef, undef, undef, undef, u48, u49, u50, u51, u52, u53, u54, u55, u56, u57, u58, u59, u60, u61, u62, u63, u64, u65, u66, u67, u68, u69, u70, u71, u72, u73, u74, u75, u76, u77, u78, u79, u80, u81, u82, u83, u84, u85, u86, u87, u88, u89, u90, u91, u92, u93, u94, u95, u96, u97, u98, u99, u100, u101, u102, u103, u104, u105, u106, u107, u108, u109, u110, u111, u112, u113, u114, u115, u116, u117, u118, u119, u120, u121, u122, u123, u124, u125, u126, u127, u128, u129, u130, u131, u132, u133, u134, u135, u136, u137, u138, u139, u140, u141, u142, u143, u144, u145, u146, u147, u148, u149, u150, u151, u152, u153, u154, u155, u156, u157, u158, u159, u160, u161, u162, u163, u164, u165, u166, u167, u168, u169, u170, u171, u172, u173, u174, u175, u176, u177, u178, u179, u180, u181, u182, u183, u184, u185, u186, u187, u188, u189, u190, u191, u192, u193, u194, u195, u196, u197, u198, u199, u200, u201, Value.bool false, u203, u204, u205, u206, u207, u208, u209, u210, u211, u212, u213, u214, u215, u216, u217, u218, u219, u220, u221, u222, u223, u224, u225, u226, u227, u228, u229, u230, u231, u232, u233, u234, u235, u236, u237, u238, u239, u240, u241, u242, u243, u244, u245, u246, u247, u248, u249, u250, u251, u252, u253, u254, u255, u256, u257, u258, u259, u260, u261, u262, u263, u264, u265, u266, u267, u268, u269, u270, u271, u272, u273, u274, u275, u276, u277, u278, u279, u280, u281, u282, u283, u284, u285, u286, u287, u288, u289, u290, u291, u292, u293, u294, u295, u296, u297, u298, u299, u300, u301, u302, u303, u304, u305, u306, u307, u308, u309, u310, u311, u312, u313, u314, u315, u316, u317, u318, u319, u320, u321, u322, u323, u324, u325, u326, u327, u328, u329, u330, u331, u332, u333, u334, u335, u336, u337, u338, u339, u340, u341, u342, u343, u344, u345, u346, u347, u348, u349, u350, u351, u352, u353, u354, u355, u356, u357, u358, u359, u360, u361, u362, u363, u364, u365, u366, u367, u368, u369, u370, u371], defers := [] } wc := by
 have hu28:=Try.underlying28
 conv at hK1 => enter [a, w_, 1, 2]; whnf
 conv at hK => enter [a, w_, 1, 2]; whnf
 have HC139:=Aside0.mk H
 clear H
 go_upto_if 203 with (fail)
 go_cut [] (fun wc=>∃ (kq : Nat),Aside0 (laws_FnSensors.j3 kq t472 t476 t479 t484 t492 t496 t470 t471 = some r) ∧ Aside0 (kq ≤ kj18) ∧ Aside0 (Kd.R k59 59 wc w.heap.size (fun _=>True) (.slice Ao23 t472.length co23) t472) ∧ Aside0 (Kd.R (Kd.int .i64) 3 wc w.heap.size (fun k_=>ob k_ v497) v477 t476) ∧ Aside0 (Kd.R k54 54 wc w.heap.size (fun _=>True) v485 t484) ∧ Aside0 (Kd.R (Kd.int .i64) 3 wc w.heap.size (fun k_=>ob k_ v477) v497 t496) ∧ Aside0 (wc.heap[gb475]? = some (.cells #[.int .i64 t470,.bool t471] 28 (0,0))) ∧ Aside0 (wc.heap[gb516]? = some (.cells #[.int .i64 t511,.bool t512] 28 (0,0))) ∧ Aside0 (Below w.heap.size w wc))
 case first =>
  have H:=HC139.out
  clear HC139
  by_cases c140 : t520 = true
  rotate_left
  ·replace c140:=Bool.eq_false_iff.mpr c140
   subst c140
   rw [if_neg (show ¬ (false = true) by decide)] at H
   as_aux_lemma =>
    have H':=Aside0.mk H
    clear H
    go_wp2
    go_meet
    case rel=>exact ⟨_,H',⟨by have:=HJ18.out;first|omega|exact Nat.le_refl _⟩,⟨rm (R_mono HO_4.out (fun _ hk=>trivial))⟩,⟨rm HO_5.out⟩,⟨rm HO_9.out⟩,⟨rm HO_17.out⟩,⟨bm BK475.out⟩,⟨bm BK516.out⟩,⟨h2 HB.out GE475.out GE516.out⟩⟩
  subst c140
  rw [if_pos rfl] at H
  replace H:=Option.bind_eq_some_iff.mp H
  obtain ⟨⟨t529,t532⟩,A1410,H⟩:=H
  (try dsimp only at H)
  have A141:=Aside0.mk A1410
  clear A1410
  replace H:=Option.bind_eq_some_iff.mp H
  obtain ⟨⟨t533,t536⟩,A1420,H⟩:=H
  (try dsimp only at H)
  have A142:=Aside0.mk A1420
  clear A1420
  have H':=Aside0.mk H
  clear H
  have hnb143:=NB516_475.out
  have hnc143:=NB475_516.out
  have hcz144_0 : wc.cell? ⟨gb516,0,none⟩ = some (.int .i64 t511):=(blk_cell BK516.out 0).trans rfl
  have hcz144_1 : wc.cell? ⟨gb516,1,none⟩ = some (.bool t512):=(blk_cell BK516.out 1).trans rfl
  have hfz144_0:=blk_frozen BK516.out 0
  have hfz144_1:=blk_frozen BK516.out 1
  go_wp2_with (first|((with_reducible refine gate_callee (f:=23) rfl ?_);refine goesL_ (some 207) rfl rfl Try.func23 (by kernel_rfl) rfl #[.agg #[.int .i64 t511,.bool t512],.slice Ao49 t513.length co49] rfl gl ?_;(with_reducible refine (impl_SeenBy.calls kj18 t511 t512 _ _ t513 t529 t532 _ ?side1 ?side2 A141.out).mono ?_);(case side1=>exact cm (R_reads' HO_26.out).2.2);(case side2=>exact (R_reads' HO_26.out).2.1);rintro e w145 ⟨v530,rfl,ho0,hb⟩;refine ⟨_,rfl,?_⟩;replace HO_4:=rb HO_4 hb;replace HO_9:=rb HO_9 hb;replace HO_26:=rb HO_26 hb;replace HO_27:=rb HO_27 hb;have HO531:=ak (R_lower (R_new' (R_new' ho0 (R_lt (rm HO_5.out))) (R_lt (rm HO_17.out))) (below_size (h2 HB.out GE475.out GE516.out)));replace HO_5:=ak (R_elder' (rm HO_5.out) (R_base ho0) hb);replace HO_17:=ak (R_elder' (rm HO_17.out) (R_base ho0) hb);replace BK475:=kb BK475 hb;replace BK516:=kb BK516 hb;replace HB:=ak (below_step (h2 HB.out GE475.out GE516.out) hb);(try clear hb);(try clear hk);(try clear hi);(try clear ho0);have hcz146_0 : w145.cell? ⟨gb516,0,none⟩ = some (.int .i64 t511):=(blk_cell BK516.out 0).trans rfl;have hcz146_1 : w145.cell? ⟨gb516,1,none⟩ = some (.bool t512):=(blk_cell BK516.out 1).trans rfl;have hfz146_0:=blk_frozen BK516.out 0;have hfz146_1:=blk_frozen BK516.out 1;obtain ⟨Ao147,co147,eo147⟩:=R_slice HO_27.out;subst eo147)|((with_reducible refine gate_callee (f:=23) rfl ?_);refine goesL_ (some 213) rfl rfl Try.func23 (by kernel_rfl) rfl #[.agg #[.int .i64 t511,.bool t512],.slice Ao147 t517.length co147] rfl gl ?_;(with_reducible refine (impl_SeenBy.calls kj18 t511 t512 _ _ t517 t533 t536 _ ?side1 ?side2 A142.out).mono ?_);(case side1=>exact cm (R_reads' HO_27.out).2.2);(case side2=>exact (R_reads' HO_27.out).2.1);rintro e w148 ⟨v534,rfl,ho0,hb⟩;refine ⟨_,rfl,?_⟩;replace HO_4:=rb HO_4 hb;replace HO_9:=rb HO_9 hb;replace HO_26:=rb HO_26 hb;replace HO_27:=rb HO_27 hb;have HO535:=ak (R_lower (R_new' (R_new' (R_new' ho0 (R_lt (rm HO_5.out))) (R_lt (rm HO_17.out))) (R_lt (rm HO531.out))) (below_size (h2 HB.out GE475.out GE516.out)));replace HO_5:=ak (R_elder' (rm HO_5.out) (R_base ho0) hb);replace HO_17:=ak (R_elder' (rm HO_17.out) (R_base ho0) hb);replace HO531:=ak (R_elder' (rm HO531.out) (R_base ho0) hb);replace BK475:=kb BK475 hb;replace BK516:=kb BK516 hb;replace HB:=ak (below_step (h2 HB.out GE475.out GE516.out) hb);(try clear hb);(try clear hk);(try clear hi);(try clear ho0)))
  go_loopg [35] kj18 (fun kq v35 w'=>∃ (x35_2 : Int),v35 = .int .i64 x35_2 ∧ Aside0 (laws_FnSensors.l0 kq t472 t476 t479 t484 t492 t496 t513 t517 t529 t532 t533 t536 x35_2 t470 t471 t511 t512 = some r) ∧ Aside0 (kq ≤ kj18) ∧ Aside0 (Kd.R k59 59 w' w.heap.size (fun k_=>ob k_ (.slice Ao49 t513.length co49) ∧ ob k_ (.slice Ao147 t517.length co147)) (.slice Ao23 t472.length co23) t472) ∧ Aside0 (Kd.R (Kd.int .i64) 3 w' w.heap.size (fun k_=>ob k_ v497 ∧ ob k_ v530 ∧ ob k_ v534) v477 t476) ∧ Aside0 (Kd.R k54 54 w' w.heap.size (fun _=>True) v485 t484) ∧ Aside0 (Kd.R (Kd.int .i64) 3 w' w.heap.size (fun k_=>ob k_ v477 ∧ ob k_ v530 ∧ ob k_ v534) v497 t496) ∧ Aside0 (Kd.R k59 59 w' w.heap.size (fun k_=>ob k_ (.slice Ao23 t472.length co23) ∧ ob k_ (.slice Ao147 t517.length co147)) (.slice Ao49 t513.length co49) t513) ∧ Aside0 (Kd.R k59 59 w' w.heap.size (fun k_=>ob k_ (.slice Ao23 t472.length co23) ∧ ob k_ (.slice Ao49 t513.length co49)) (.slice Ao147 t517.length co147) t517) ∧ Aside0 (Kd.R (Kd.int .i64) 3 w' w.heap.size (fun k_=>ob k_ v477 ∧ ob k_ v497 ∧ ob k_ v534) v530 t529) ∧ Aside0 (Kd.R (Kd.int .i64) 3 w' w.heap.size (fun k_=>ob k_ v477 ∧ ob k_ v497 ∧ ob k_ v530) v534 t533) ∧ Aside0 (w'.heap[gb475]? = some (.cells #[.int .i64 t470,.bool t471] 28 (0,0))) ∧ Aside0 (w'.heap[gb516]? = some (.cells #[.int .i64 t511,.bool t512] 28 (0,0))) ∧ Aside0 (Below w.heap.size w w'))
  case atStart=>exact ⟨(0),fd,H',⟨Nat.le_refl _⟩,⟨rm HO_4.out⟩,⟨rm (R_mono HO_5.out (fun _ hk=>⟨hk.1.1,⟨hk.1.2,hk.2⟩⟩))⟩,⟨rm HO_9.out⟩,⟨rm (R_mono HO_17.out (fun _ hk=>⟨hk.1.1,⟨hk.1.2,hk.2⟩⟩))⟩,⟨rm HO_26.out⟩,⟨rm HO_27.out⟩,⟨rm (R_mono HO531.out (fun _ hk=>⟨hk.1.1.2,⟨hk.1.2,hk.2⟩⟩))⟩,⟨rm (R_mono HO535.out (fun _ hk=>⟨hk.1.1.2,⟨hk.1.2,hk.2⟩⟩))⟩,⟨bm BK475.out⟩,⟨bm BK516.out⟩,⟨h2 HB.out GE475.out GE516.out⟩⟩
  clear H'
  try clear c1
  try clear c2
  try clear p2
  try clear c3
  try clear c4
  try clear c5
  try clear c6
  try clear c7
  try clear c8
  try clear c9
  try clear c11
  try clear c13
  try clear c14
  try clear c16
  try clear c17
  try clear c20
  try clear c21
  try clear c22
  try clear c23
  try clear c27
  try clear c28
  try clear c32
  try clear c33
  try clear c34
  try clear c35
  try clear c36
  try clear c37
  try clear c47
  try clear c53
  try clear c53b0
  try clear c53b1
  try clear c53b2
  try clear c55
  try clear c56
  try clear c56b0
  try clear c56b1
  try clear c56b2
  try clear c60
  try clear c61
  try clear c61b0
  try clear c61b1
  try clear c62
  try clear c62b0
  try clear c62b1
  try clear c62b2
  try clear c67
  try clear c67b0
  try clear c67b1
  try clear c67b2
  try clear c73
  try clear c74
  try clear c74b0
  try clear c74b1
  try clear c74b2
  try clear c81
  try clear c81b0
  try clear c81b1
  try clear c81b2
  try clear c88
  try clear c88b0
  try clear c88b1
  try clear c88b2
  try clear c96
  try clear c97
  try clear c138
  try clear c140
  try clear c143
  try clear hcz144_0
  try clear hcz144_1
  try clear hcz146_0
  try clear hcz146_1
  try clear hcz22_0
  try clear hcz22_1
  try clear hcz25_0
  try clear hcz25_1
  try clear hcz27_0
  try clear hcz27_1
  try clear hcz29_0
  try clear hcz29_1
  try clear hcz31_0
  try clear hcz31_1
  try clear hcz33_0
  try clear hcz33_1
  try clear hcz35_0
  try clear hcz35_1
  try clear hcz37_0
  try clear hcz37_1
  try clear hcz39_0
  try clear hcz39_1
  try clear hcz41_0
  try clear hcz41_1
  try clear hcz48_0
  try clear hcz48_1
  try clear hcz51_0
  try clear hcz51_1
  try clear hfz144_0
  try clear hfz144_1
  try clear hfz146_0
  try clear hfz146_1
  try clear hfz22_0
  try clear hfz22_1
  try clear hfz25_0
  try clear hfz25_1
  try clear hfz27_0
  try clear hfz27_1
  try clear hfz29_0
  try clear hfz29_1
  try clear hfz31_0
  try clear hfz31_1
  try clear hfz33_0
  try clear hfz33_1
  try clear hfz35_0
  try clear hfz35_1
  try clear hfz37_0
  try clear hfz37_1
  try clear hfz39_0
  try clear hfz39_1
  try clear hfz41_0
  try clear hfz41_1
  try clear hfz48_0
  try clear hfz48_1
  try clear hfz51_0
  try clear hfz51_1
  try clear p2
  obtain ⟨x35_2,rfl,HA,HK2,HO_4,HO_5,HO_9,HO_17,HO_26,HO_27,HO_31,HO_33,BK475,BK516,HB⟩:=hrel
  cases gk with
  | zero=>exact absurd HA.out (by simp [laws_FnSensors.l0])
  | succ k2 =>
   have H:=HA.out
   clear HA
   simp only [laws_FnSensors.l0] at H
   have HC149:=Aside0.mk H
   clear H
   go_upto_region 23 with (fail)
   go_cut [225] (fun v225 wc=>∃ (kq : Nat) (x225_148 : Bool),v225 = .bool x225_148 ∧ Aside0 (laws_FnSensors.j2 kq t472 t476 t479 t484 t492 t496 t513 t517 t529 t532 t533 t536 x35_2 x225_148 t470 t471 t511 t512 = some r) ∧ Aside0 (kq ≤ k2) ∧ Aside0 (Kd.R k59 59 wc w.heap.size (fun k_=>ob k_ (.slice Ao49 t513.length co49) ∧ ob k_ (.slice Ao147 t517.length co147)) (.slice Ao23 t472.length co23) t472) ∧ Aside0 (Kd.R (Kd.int .i64) 3 wc w.heap.size (fun k_=>ob k_ v497 ∧ ob k_ v530 ∧ ob k_ v534) v477 t476) ∧ Aside0 (Kd.R k54 54 wc w.heap.size (fun _=>True) v485 t484) ∧ Aside0 (Kd.R (Kd.int .i64) 3 wc w.heap.size (fun k_=>ob k_ v477 ∧ ob k_ v530 ∧ ob k_ v534) v497 t496) ∧ Aside0 (Kd.R k59 59 wc w.heap.size (fun k_=>ob k_ (.slice Ao23 t472.length co23) ∧ ob k_ (.slice Ao147 t517.length co147)) (.slice Ao49 t513.length co49) t513) ∧ Aside0 (Kd.R k59 59 wc w.heap.size (fun k_=>ob k_ (.slice Ao23 t472.length co23) ∧ ob k_ (.slice Ao49 t513.length co49)) (.slice Ao147 t517.length co147) t517) ∧ Aside0 (Kd.R (Kd.int .i64) 3 wc w.heap.size (fun k_=>ob k_ v477 ∧ ob k_ v497 ∧ ob k_ v534) v530 t529) ∧ Aside0 (Kd.R (Kd.int .i64) 3 wc w.heap.size (fun k_=>ob k_ v477 ∧ ob k_ v497 ∧ ob k_ v530) v534 t533) ∧ Aside0 (wc.heap[gb475]? = some (.cells #[.int .i64 t470,.bool t471] 28 (0,0))) ∧ Aside0 (wc.heap[gb516]? = some (.cells #[.int .i64 t511,.bool t512] 28 (0,0))) ∧ Aside0 (Below w.heap.size w wc))
   case first =>
    have H:=HC149.out
    clear HC149
    by_cases c150 : t532 = true
    rotate_left
    ·replace c150:=Bool.eq_false_iff.mpr c150
     subst c150
     rw [if_neg (show ¬ (false = true) by decide)] at H
     as_aux_lemma =>
      have H':=Aside0.mk H
      clear H
      go_wp2
      go_meet
      case rel=>exact ⟨_,(false),fd,H',⟨by have:=HJ18.out;have:=HK2.out;first|omega|exact Nat.le_refl _⟩,⟨rm HO_4.out⟩,⟨rm HO_5.out⟩,⟨rm HO_9.out⟩,⟨rm HO_17.out⟩,⟨rm HO_26.out⟩,⟨rm HO_27.out⟩,⟨rm HO_31.out⟩,⟨rm HO_33.out⟩,⟨bm BK475.out⟩,⟨bm BK516.out⟩,⟨h2 HB.out GE475.out GE516.out⟩⟩
    subst c150
    rw [if_pos rfl] at H
    by_cases c151 : t536 = true
    rotate_left
    ·replace c151:=Bool.eq_false_iff.mpr c151
     subst c151
     rw [if_neg (show ¬ (false = true) by decide)] at H
     as_aux_lemma =>
      have H':=Aside0.mk H
      clear H
      go_wp2
      go_meet
      case rel=>exact ⟨_,(false),fd,H',⟨by have:=HJ18.out;have:=HK2.out;first|omega|exact Nat.le_refl _⟩,⟨rm HO_4.out⟩,⟨rm HO_5.out⟩,⟨rm HO_9.out⟩,⟨rm HO_17.out⟩,⟨rm HO_26.out⟩,⟨rm HO_27.out⟩,⟨rm HO_31.out⟩,⟨rm HO_33.out⟩,⟨bm BK475.out⟩,⟨bm BK516.out⟩,⟨h2 HB.out GE475.out GE516.out⟩⟩
    subst c151
    rw [if_pos rfl] at H
    as_aux_lemma =>
     have H':=Aside0.mk H
     clear H
     have hnb152:=NB516_475.out
     have hnc152:=NB475_516.out
     have hcz153_0 : wr.cell? ⟨gb516,0,none⟩ = some (.int .i64 t511):=(blk_cell BK516.out 0).trans rfl
     have hcz153_1 : wr.cell? ⟨gb516,1,none⟩ = some (.bool t512):=(blk_cell BK516.out 1).trans rfl
     have hfz153_0:=blk_frozen BK516.out 0
     have hfz153_1:=blk_frozen BK516.out 1
     go_wp2
     go_meet
     case rel=>exact ⟨_,(decide (x35_2 < t511)),fd,H',⟨by have:=HJ18.out;have:=HK2.out;first|omega|exact Nat.le_refl _⟩,⟨rm HO_4.out⟩,⟨rm HO_5.out⟩,⟨rm HO_9.out⟩,⟨rm HO_17.out⟩,⟨rm HO_26.out⟩,⟨rm HO_27.out⟩,⟨rm HO_31.out⟩,⟨rm HO_33.out⟩,⟨bm BK475.out⟩,⟨bm BK516.out⟩,⟨h2 HB.out GE475.out GE516.out⟩⟩
   clear HC149
   try clear c1
   try clear c2
   try clear p2
   try clear c3
   try clear c4
   try clear c5
   try clear c6
   try clear c7
   try clear c8
   try clear c9
   try clear c11
   try clear c13
   try clear c14
   try clear c15
   try clear c16
   try clear c17
   try clear c20
   try clear c21
   try clear c22
   try clear c23
   try clear c27
   try clear c28
   try clear c32
   try clear c33
   try clear c34
   try clear c35
   try clear c36
   try clear c37
   try clear c47
   try clear c53
   try clear c53b0
   try clear c53b1
   try clear c53b2
   try clear c55
   try clear c56
   try clear c56b0
   try clear c56b1
   try clear c56b2
   try clear c60
   try clear c61
   try clear c61b0
   try clear c61b1
   try clear c62
   try clear c62b0
   try clear c62b1
   try clear c62b2
   try clear c67
   try clear c67b0
   try clear c67b1
   try clear c67b2
   try clear c73
   try clear c74
   try clear c74b0
   try clear c74b1
   try clear c74b2
   try clear c81
   try clear c81b0
   try clear c81b1
   try clear c81b2
   try clear c88
   try clear c88b0
   try clear c88b1
   try clear c88b2
   try clear c96
   try clear c97
   try clear c138
   try clear c140
   try clear c143
   try clear c150
   try clear c151
   try clear c152
   try clear hcz144_0
   try clear hcz144_1
   try clear hcz146_0
   try clear hcz146_1
   try clear hcz153_0
   try clear hcz153_1
   try clear hcz22_0
   try clear hcz22_1
   try clear hcz25_0
   try clear hcz25_1
   try clear hcz27_0
   try clear hcz27_1
   try clear hcz29_0
   try clear hcz29_1
   try clear hcz31_0
   try clear hcz31_1
   try clear hcz33_0
   try clear hcz33_1
   try clear hcz35_0
   try clear hcz35_1
   try clear hcz37_0
   try clear hcz37_1
   try clear hcz39_0
   try clear hcz39_1
   try clear hcz41_0
   try clear hcz41_1
   try clear hcz48_0
   try clear hcz48_1
   try clear hcz51_0
   try clear hcz51_1
   try clear hfz144_0
   try clear hfz144_1
   try clear hfz146_0
   try clear hfz146_1
   try clear hfz153_0
   try clear hfz153_1
   try clear hfz22_0
   try clear hfz22_1
   try clear hfz25_0
   try clear hfz25_1
   try clear hfz27_0
   try clear hfz27_1
   try clear hfz29_0
   try clear hfz29_1
   try clear hfz31_0
   try clear hfz31_1
   try clear hfz33_0
   try clear hfz33_1
   try clear hfz35_0
   try clear hfz35_1
   try clear hfz37_0
   try clear hfz37_1
   try clear hfz39_0
   try clear hfz39_1
   try clear hfz41_0
   try clear hfz41_1
   try clear hfz48_0
   try clear hfz48_1
   try clear hfz51_0
   try clear hfz51_1
   try clear p2
   obtain ⟨kq,x225_148,rfl,HA,HJ148,HO_4,HO_5,HO_9,HO_17,HO_26,HO_27,HO_31,HO_33,BK475,BK516,HB⟩:=hcut
   cases kq with
   | zero=>exact absurd HA.out (by simp [laws_FnSensors.j2])
   | succ kj148 =>
    have H:=HA.out
    clear HA
    simp only [laws_FnSensors.j2] at H
    by_cases c154 : x225_148 = true
    ·subst c154
     rw [if_pos rfl] at H
     by_cases c155 : 0 ≤ x35_2
     rotate_left
     ·rw [if_neg c155] at H
      exact absurd H (by simp)
     rw [if_pos c155] at H
     have c155b0 : decide (0 ≤ x35_2) = true:=decide_eq_true c155
     clear c155
     by_cases c156 : x35_2 < (t529.length : Int)
     rotate_left
     ·rw [if_neg c156] at H
      exact absurd H (by simp)
     rw [if_pos c156] at H
     have c156b0 : decide (x35_2 < (t529.length : Int)) = true:=decide_eq_true c156
     clear c156
     obtain ⟨ji157,hji157⟩ : ∃ j_ : Int,(wrap64 ((wrap64 (t511 - 1)) - x35_2)) = j_:=⟨_,rfl⟩
     replace H : (if 0 ≤ (ji157) then (if (ji157) < (t533.length : Int) then (if (rd t529 x35_2) = (rd t533 (ji157)) then (laws_FnSensors.l0 kj148 t472 t476 t479 t484 t492 t496 t513 t517 t529 t532 t533 t536 (wrap64 (x35_2 + 1)) t470 t471 t511 t512) else (some false)) else (none)) else (none)) = some r:=by first|(rw [hji157] at H;exact H)|(simp only [hji157] at H ⊢;exact H)
     have hji157w : (IntKind.i64.wrap ((wrap64 (t511 - 1)) - x35_2)) = ji157:=(i64_w _).trans hji157
     by_cases c158 : 0 ≤ (ji157)
     rotate_left
     ·rw [if_neg c158] at H
      exact absurd H (by simp)
     rw [if_pos c158] at H
     have c158b0 : decide (0 ≤ (ji157)) = true:=decide_eq_true c158
     clear c158
     by_cases c159 : (ji157) < (t533.length : Int)
     rotate_left
     ·rw [if_neg c159] at H
      exact absurd H (by simp)
     rw [if_pos c159] at H
     have c159b0 : decide ((ji157) < (t533.length : Int)) = true:=decide_eq_true c159
     clear c159
     by_cases c160 : (rd t529 x35_2) = (rd t533 (ji157))
     rotate_left
     ·rw [if_neg c160] at H
      have c160b0 : ((rd t529 x35_2) == (rd t533 (ji157))) = false:=beq_eq_false_iff_ne.mpr c160
      have c160b1 : ((rd t529 x35_2) != (rd t533 (ji157))) = true:=bne_iff_ne.mpr c160
      as_aux_lemma =>
       obtain rfl:=Option.some.inj H
       try go_wp2
       replace HO_4:=ak (R_drew HO_4.out)
       replace HO_5:=ak (R_drew HO_5.out)
       replace HO_9:=ak (R_drew HO_9.out)
       replace HO_17:=ak (R_drew HO_17.out)
       replace HO_26:=ak (R_drew HO_26.out)
       replace HO_27:=ak (R_drew HO_27.out)
       replace HO_31:=ak (R_drew HO_31.out)
       replace HO_33:=ak (R_drew HO_33.out)
       replace BK475:=ak (blk_drew BK475.out)
       replace BK516:=ak (blk_drew BK516.out)
       replace HB:=ak (below_drew1 HB.out)
       obtain ⟨Ao165,co165,eo165⟩:=R_slice HO_31.out
       (first|subst eo165|(injection eo165 with f1_ f2_ f3_;have f4_:=f1_.symm;have f5_:=f3_.symm;clear f1_ f2_ f3_;subst f4_;subst f5_))
       have p537 : 0 ≤ (x35_2 : Int):=od
       have q537 : x35_2 < (t529.length : Int):=od
       obtain ⟨ad537,e537,hx537_0⟩:=Kd.at_int (R_reads' HO_31.out).2.2 x35_2 p537 q537
       cases e537
       replace p537:=eq_true p537
       replace q537:=eq_true q537
       obtain ⟨Ao166,co166,eo166⟩:=R_slice HO_33.out
       (first|subst eo166|(injection eo166 with f1_ f2_ f3_;have f4_:=f1_.symm;have f5_:=f3_.symm;clear f1_ f2_ f3_;subst f4_;subst f5_))
       have p538 : 0 ≤ ((ji157) : Int):=od
       have q538 : (ji157) < (t533.length : Int):=od
       obtain ⟨ad538,e538,hx538_0⟩:=Kd.at_int (R_reads' HO_33.out).2.2 (ji157) p538 q538
       cases e538
       replace p538:=eq_true p538
       replace q538:=eq_true q538
       refine start_ (n:=13) (S:=fun w'=>w'.cell? ⟨gb516,0,none⟩ = some (.int .i64 t511) ∧ w'.cell? ⟨gb516,1,none⟩ = some (.bool t512) ∧ w'.cell? (ad537.add (x35_2).toNat) = some (.int .i64 (rd t529 x35_2)) ∧ w'.cell? (ad538.add ((ji157)).toNat) = some (.int .i64 (rd t533 (ji157)))) (ds:=[]) (lb 13 0) (by kernel_rfl) rfl rfl ⟨(blk_cell BK516.out 0).trans rfl,(blk_cell BK516.out 1).trans rfl,hx537_0,hx538_0⟩ (fun hHeld=>?_);refine with_tabW laws_FnSensors.tab25 laws_FnSensors.bits25 (fun HT_ HW_=>?_)
       generalize wc.drew = w164 at HO_4 HO_5 HO_9 HO_17 HO_26 HO_27 HO_31 HO_33 BK475 BK516 HB hx537_0 hx538_0 hHeld ⊢
       refine pu 0 (N:=some 228) (v:=?_) (a':=?_) (lb 13 1) HT_ (by kernel_rfl) rfl rfl rfl (fun _ _ _ h=>h) ?_ ?_ ?_
       rotate_left
       ·intro w'
        go_simp
        with_reducible rfl
       rotate_left
       ·simp only [ap]
        rfl
       refine pu 1 (N:=some 229) (v:=?_) (a':=?_) (lb 13 3) HT_ (by kernel_rfl) rfl rfl rfl (fun _ _ _ h=>h) ?_ ?_ ?_
       rotate_left
       ·intro w'
        go_simp
        with_reducible rfl
       rotate_left
       ·simp only [ap]
        rfl
       refine pu 2 (N:=some 230) (v:=?_) (a':=?_) (lb 13 7) HT_ (by kernel_rfl) rfl rfl rfl (fun _ _ _ h=>h) ?_ ?_ ?_
       rotate_left
       ·intro w'
        go_simp
        with_reducible rfl
       rotate_left
       ·simp only [ap]
        rfl
       refine pu 4 (N:=some 232) (v:=?_) (a':=?_) (lb 13 23) HT_ (by kernel_rfl) rfl rfl rfl (fun _ _ _ h=>h) ?_ ?_ ?_
       rotate_left
       ·intro w'
        go_simp
        with_reducible rfl
       rotate_left
       ·simp only [ap]
        rfl
       refine pu 5 (N:=some 233) (v:=?_) (a':=?_) (lb 13 55) HT_ (by kernel_rfl) rfl rfl rfl (fun _ _ _ h=>h) ?_ ?_ ?_
       rotate_left
       ·intro w'
        go_simp
        with_reducible rfl
       rotate_left
       ·simp only [ap]
        rfl
       refine pu 8 (N:=some 236) (v:=?_) (a':=?_) (lb 13 311) HT_ (by kernel_rfl) rfl rfl rfl (fun _ _ _ h=>h) ?_ ?_ ?_
       rotate_left
       ·intro w'
        go_simp
        with_reducible rfl
       rotate_left
       ·simp only [ap]
        rfl
       refine take_ (i:=3) (N:=some 231) (v:=?_) (a':=?_) (lb 13 319) rfl rfl (take_ofW HT_.out HW_.out (by kernel_rfl)) (fun _ _ _ h=>h) (Or.inl ⟨by rfl,?_⟩) hHeld ?_ ?_
       rotate_left
       ·rintro w' ⟨s0,s1,s2,s3⟩
        go_simp
        with_reducible rfl
       rotate_left
       ·simp only [ap]
        rfl
       refine take_ (i:=6) (N:=some 234) (v:=?_) (a':=?_) (lb 13 383) rfl rfl (take_ofW HT_.out HW_.out (by kernel_rfl)) (fun _ _ _ h=>h) (Or.inl ⟨by rfl,?_⟩) hHeld ?_ ?_
       rotate_left
       ·rintro w' ⟨s0,s1,s2,s3⟩
        go_simp
        with_reducible rfl
       rotate_left
       ·simp only [ap]
        rfl
       refine pu 7 (N:=some 235) (v:=?_) (a':=?_) (lb 13 511) HT_ (by kernel_rfl) rfl rfl rfl (fun _ _ _ h=>h) ?_ ?_ ?_
       rotate_left
       ·intro w'
        go_simp
        with_reducible rfl
       rotate_left
       ·simp only [ap]
        rfl
       refine pu 9 (N:=some 237) (v:=?_) (a':=?_) (lb 13 1023) HT_ (by kernel_rfl) rfl rfl rfl (fun _ _ _ h=>h) ?_ ?_ ?_
       rotate_left
       ·intro w'
        go_simp
        with_reducible rfl
       rotate_left
       ·simp only [ap]
        rfl
       refine pu 10 (N:=some 238) (v:=?_) (a':=?_) (lb 13 2047) HT_ (by kernel_rfl) rfl rfl rfl (fun _ _ _ h=>h) ?_ ?_ ?_
       rotate_left
       ·intro w'
        go_simp
        with_reducible rfl
       rotate_left
       ·simp only [ap]
        rfl
       refine take_ (i:=11) (N:=some 239) (v:=?_) (a':=?_) (lb 13 4095) rfl rfl (take_ofW HT_.out HW_.out (by kernel_rfl)) (fun _ _ _ h=>h) (Or.inl ⟨by rfl,?_⟩) hHeld ?_ ?_
       rotate_left
       ·rintro w' ⟨s0,s1,s2,s3⟩
        go_simp
        with_reducible rfl
       rotate_left
       ·simp only [ap]
        rfl
       refine pu 12 (N:=some 240) (v:=?_) (a':=?_) (lb 13 8191) HT_ (by kernel_rfl) rfl rfl rfl (fun _ _ _ h=>h) ?_ ?_ ?_
       rotate_left
       ·intro w'
        go_simp
        with_reducible rfl
       rotate_left
       ·simp only [ap]
        rfl
       refine done_ (done_of HT_.out (by kernel_rfl)) ?_
       try go_wp2
       go_ret
       exact ⟨by first|rfl|(simp [errW_none,errW_some] <;> rfl)|(simp only [← hji157];first|rfl|(simp [errW_none,errW_some] <;> rfl))|(simp [*,errW_none,errW_some] <;> rfl),h2 HB.out GE475.out GE516.out⟩
     rw [if_pos c160] at H
     have c160b0 : ((rd t529 x35_2) == (rd t533 (ji157))) = true:=beq_iff_eq.mpr c160
     have c160b1 : ((rd t529 x35_2) != (rd t533 (ji157))) = false:=bne_eq_false_iff_eq.mpr c160
     clear c160
     as_aux_lemma =>
      have H':=Aside0.mk H
      clear H
      try go_wp2
      replace HO_4:=ak (R_drew HO_4.out)
      replace HO_5:=ak (R_drew HO_5.out)
      replace HO_9:=ak (R_drew HO_9.out)
      replace HO_17:=ak (R_drew HO_17.out)
      replace HO_26:=ak (R_drew HO_26.out)
      replace HO_27:=ak (R_drew HO_27.out)
      replace HO_31:=ak (R_drew HO_31.out)
      replace HO_33:=ak (R_drew HO_33.out)
      replace BK475:=ak (blk_drew BK475.out)
      replace BK516:=ak (blk_drew BK516.out)
      replace HB:=ak (below_drew1 HB.out)
      obtain ⟨Ao162,co162,eo162⟩:=R_slice HO_31.out
      (first|subst eo162|(injection eo162 with f1_ f2_ f3_;have f4_:=f1_.symm;have f5_:=f3_.symm;clear f1_ f2_ f3_;subst f4_;subst f5_))
      have p537 : 0 ≤ (x35_2 : Int):=od
      have q537 : x35_2 < (t529.length : Int):=od
      obtain ⟨ad537,e537,hx537_0⟩:=Kd.at_int (R_reads' HO_31.out).2.2 x35_2 p537 q537
      cases e537
      replace p537:=eq_true p537
      replace q537:=eq_true q537
      obtain ⟨Ao163,co163,eo163⟩:=R_slice HO_33.out
      (first|subst eo163|(injection eo163 with f1_ f2_ f3_;have f4_:=f1_.symm;have f5_:=f3_.symm;clear f1_ f2_ f3_;subst f4_;subst f5_))
      have p538 : 0 ≤ ((ji157) : Int):=od
      have q538 : (ji157) < (t533.length : Int):=od
      obtain ⟨ad538,e538,hx538_0⟩:=Kd.at_int (R_reads' HO_33.out).2.2 (ji157) p538 q538
      cases e538
      replace p538:=eq_true p538
      replace q538:=eq_true q538
      refine start_ (n:=13) (S:=fun w'=>w'.cell? ⟨gb516,0,none⟩ = some (.int .i64 t511) ∧ w'.cell? ⟨gb516,1,none⟩ = some (.bool t512) ∧ w'.cell? (ad537.add (x35_2).toNat) = some (.int .i64 (rd t529 x35_2)) ∧ w'.cell? (ad538.add ((ji157)).toNat) = some (.int .i64 (rd t533 (ji157)))) (ds:=[]) (lb 13 0) (by kernel_rfl) rfl rfl ⟨(blk_cell BK516.out 0).trans rfl,(blk_cell BK516.out 1).trans rfl,hx537_0,hx538_0⟩ (fun hHeld=>?_);refine with_tabW laws_FnSensors.tab25 laws_FnSensors.bits25 (fun HT_ HW_=>?_)
      generalize wc.drew = w161 at HO_4 HO_5 HO_9 HO_17 HO_26 HO_27 HO_31 HO_33 BK475 BK516 HB hx537_0 hx538_0 hHeld ⊢
      refine pu 0 (N:=some 228) (v:=?_) (a':=?_) (lb 13 1) HT_ (by kernel_rfl) rfl rfl rfl (fun _ _ _ h=>h) ?_ ?_ ?_
      rotate_left
      ·intro w'
       go_simp
       with_reducible rfl
      rotate_left
      ·simp only [ap]
       rfl
      refine pu 1 (N:=some 229) (v:=?_) (a':=?_) (lb 13 3) HT_ (by kernel_rfl) rfl rfl rfl (fun _ _ _ h=>h) ?_ ?_ ?_
      rotate_left
      ·intro w'
       go_simp
       with_reducible rfl
      rotate_left
      ·simp only [ap]
       rfl
      refine pu 2 (N:=some 230) (v:=?_) (a':=?_) (lb 13 7) HT_ (by kernel_rfl) rfl rfl rfl (fun _ _ _ h=>h) ?_ ?_ ?_
      rotate_left
      ·intro w'
       go_simp
       with_reducible rfl
      rotate_left
      ·simp only [ap]
       rfl
      refine pu 4 (N:=some 232) (v:=?_) (a':=?_) (lb 13 23) HT_ (by kernel_rfl) rfl rfl rfl (fun _ _ _ h=>h) ?_ ?_ ?_
      rotate_left
      ·intro w'
       go_simp
       with_reducible rfl
      rotate_left
      ·simp only [ap]
       rfl
      refine pu 5 (N:=some 233) (v:=?_) (a':=?_) (lb 13 55) HT_ (by kernel_rfl) rfl rfl rfl (fun _ _ _ h=>h) ?_ ?_ ?_
      rotate_left
      ·intro w'
       go_simp
       with_reducible rfl
      rotate_left
      ·simp only [ap]
       rfl
      refine pu 8 (N:=some 236) (v:=?_) (a':=?_) (lb 13 311) HT_ (by kernel_rfl) rfl rfl rfl (fun _ _ _ h=>h) ?_ ?_ ?_
      rotate_left
      ·intro w'
       go_simp
       with_reducible rfl
      rotate_left
      ·simp only [ap]
       rfl
      refine take_ (i:=3) (N:=some 231) (v:=?_) (a':=?_) (lb 13 319) rfl rfl (take_ofW HT_.out HW_.out (by kernel_rfl)) (fun _ _ _ h=>h) (Or.inl ⟨by rfl,?_⟩) hHeld ?_ ?_
      rotate_left
      ·rintro w' ⟨s0,s1,s2,s3⟩
       go_simp
       with_reducible rfl
      rotate_left
      ·simp only [ap]
       rfl
      refine take_ (i:=6) (N:=some 234) (v:=?_) (a':=?_) (lb 13 383) rfl rfl (take_ofW HT_.out HW_.out (by kernel_rfl)) (fun _ _ _ h=>h) (Or.inl ⟨by rfl,?_⟩) hHeld ?_ ?_
      rotate_left
      ·rintro w' ⟨s0,s1,s2,s3⟩
       go_simp
       with_reducible rfl
      rotate_left
      ·simp only [ap]
       rfl
      refine pu 7 (N:=some 235) (v:=?_) (a':=?_) (lb 13 511) HT_ (by kernel_rfl) rfl rfl rfl (fun _ _ _ h=>h) ?_ ?_ ?_
      rotate_left
      ·intro w'
       go_simp
       with_reducible rfl
      rotate_left
      ·simp only [ap]
       rfl
      refine pu 9 (N:=some 237) (v:=?_) (a':=?_) (lb 13 1023) HT_ (by kernel_rfl) rfl rfl rfl (fun _ _ _ h=>h) ?_ ?_ ?_
      rotate_left
      ·intro w'
       go_simp
       with_reducible rfl
      rotate_left
      ·simp only [ap]
       rfl
      refine pu 10 (N:=some 238) (v:=?_) (a':=?_) (lb 13 2047) HT_ (by kernel_rfl) rfl rfl rfl (fun _ _ _ h=>h) ?_ ?_ ?_
      rotate_left
      ·intro w'
       go_simp
       with_reducible rfl
      rotate_left
      ·simp only [ap]
       rfl
      refine take_ (i:=11) (N:=some 239) (v:=?_) (a':=?_) (lb 13 4095) rfl rfl (take_ofW HT_.out HW_.out (by kernel_rfl)) (fun _ _ _ h=>h) (Or.inl ⟨by rfl,?_⟩) hHeld ?_ ?_
      rotate_left
      ·rintro w' ⟨s0,s1,s2,s3⟩
       go_simp
       with_reducible rfl
      rotate_left
      ·simp only [ap]
       rfl
      refine pu 12 (N:=some 240) (v:=?_) (a':=?_) (lb 13 8191) HT_ (by kernel_rfl) rfl rfl rfl (fun _ _ _ h=>h) ?_ ?_ ?_
      rotate_left
      ·intro w'
       go_simp
       with_reducible rfl
      rotate_left
      ·simp only [ap]
       rfl
      refine done_ (done_of HT_.out (by kernel_rfl)) ?_
      try go_wp2
      go_roundg kj148
      case measure=>have:=HJ18.out;have:=HK2.out;have:=HJ148.out;omega
      case rel=>exact ⟨(wrap64 (x35_2 + 1)),fd,H',⟨by have:=HJ18.out;have:=HK2.out;have:=HJ148.out;omega⟩,⟨rm HO_4.out⟩,⟨rm HO_5.out⟩,⟨rm HO_9.out⟩,⟨rm HO_17.out⟩,⟨rm HO_26.out⟩,⟨rm HO_27.out⟩,⟨rm HO_31.out⟩,⟨rm HO_33.out⟩,⟨bm BK475.out⟩,⟨bm BK516.out⟩,⟨h2 HB.out GE475.out GE516.out⟩⟩
    replace c154:=Bool.eq_false_iff.mpr c154
    subst c154
    rw [if_neg (show ¬ (false = true) by decide)] at H
    replace H:=Option.bind_eq_some_iff.mp H
    obtain ⟨⟨t539,t542⟩,A1670,H⟩:=H
    (try dsimp only at H)
    have A167:=Aside0.mk A1670
    clear A1670
    by_cases c168 : t532 = true
    rotate_left
    ·replace c168:=Bool.eq_false_iff.mpr c168
     subst c168
     rw [if_neg (show ¬ (false = true) by decide)] at H
     as_aux_lemma =>
      obtain rfl:=Option.some.inj H
      have hnb187:=NB516_475.out
      have hnc187:=NB475_516.out
      have hcz188_0 : wc.cell? ⟨gb516,0,none⟩ = some (.int .i64 t511):=(blk_cell BK516.out 0).trans rfl
      have hcz188_1 : wc.cell? ⟨gb516,1,none⟩ = some (.bool t512):=(blk_cell BK516.out 1).trans rfl
      have hfz188_0:=blk_frozen BK516.out 0
      have hfz188_1:=blk_frozen BK516.out 1
      go_wp2_with (first|((with_reducible refine gate_callee (f:=17) rfl ?_);refine goesL_ (some 244) rfl rfl Try.func17 (by kernel_rfl) rfl #[.agg #[.int .i64 t511,.bool t512],.slice Ao147 t517.length co147] rfl gl ?_;(with_reducible refine (impl_MirrorSensors.calls kj148 t511 t512 _ _ t517 t539 t542 _ ?side1 ?side2 A167.out).mono ?_);(case side1=>exact cm (R_reads' HO_27.out).2.2);(case side2=>exact (R_reads' HO_27.out).2.1);rintro e w189 ⟨v540,rfl,ho0,hb⟩;refine ⟨_,rfl,?_⟩;replace HO_5:=rb HO_5 hb;replace HO_9:=rb HO_9 hb;replace HO_17:=rb HO_17 hb;replace HO_31:=rb HO_31 hb;replace HO_33:=rb HO_33 hb;have HO541:=ak (R_lower (R_new' (R_new' (R_new' ho0 (R_lt (rm HO_4.out))) (R_lt (rm HO_26.out))) (R_lt (rm HO_27.out))) (below_size (h2 HB.out GE475.out GE516.out)));replace HO_4:=ak (R_elder' (rm HO_4.out) (R_base ho0) hb);replace HO_26:=ak (R_elder' (rm HO_26.out) (R_base ho0) hb);replace HO_27:=ak (R_elder' (rm HO_27.out) (R_base ho0) hb);replace BK475:=kb BK475 hb;replace BK516:=kb BK516 hb;replace HB:=ak (below_step (h2 HB.out GE475.out GE516.out) hb);(try clear hb);(try clear hk);(try clear hi);(try clear ho0)))
      go_ret
      exact ⟨fe,h2 HB.out GE475.out GE516.out⟩
    subst c168
    rw [if_pos rfl] at H
    by_cases c169 : t536 = true
    rotate_left
    ·replace c169:=Bool.eq_false_iff.mpr c169
     subst c169
     rw [if_neg (show ¬ (false = true) by decide)] at H
     as_aux_lemma =>
      obtain rfl:=Option.some.inj H
      have hnb184:=NB516_475.out
      have hnc184:=NB475_516.out
      have hcz185_0 : wc.cell? ⟨gb516,0,none⟩ = some (.int .i64 t511):=(blk_cell BK516.out 0).trans rfl
      have hcz185_1 : wc.cell? ⟨gb516,1,none⟩ = some (.bool t512):=(blk_cell BK516.out 1).trans rfl
      have hfz185_0:=blk_frozen BK516.out 0
      have hfz185_1:=blk_frozen BK516.out 1
      go_wp2_with (first|((with_reducible refine gate_callee (f:=17) rfl ?_);refine goesL_ (some 244) rfl rfl Try.func17 (by kernel_rfl) rfl #[.agg #[.int .i64 t511,.bool t512],.slice Ao147 t517.length co147] rfl gl ?_;(with_reducible refine (impl_MirrorSensors.calls kj148 t511 t512 _ _ t517 t539 t542 _ ?side1 ?side2 A167.out).mono ?_);(case side1=>exact cm (R_reads' HO_27.out).2.2);(case side2=>exact (R_reads' HO_27.out).2.1);rintro e w186 ⟨v540,rfl,ho0,hb⟩;refine ⟨_,rfl,?_⟩;replace HO_5:=rb HO_5 hb;replace HO_9:=rb HO_9 hb;replace HO_17:=rb HO_17 hb;replace HO_31:=rb HO_31 hb;replace HO_33:=rb HO_33 hb;have HO541:=ak (R_lower (R_new' (R_new' (R_new' ho0 (R_lt (rm HO_4.out))) (R_lt (rm HO_26.out))) (R_lt (rm HO_27.out))) (below_size (h2 HB.out GE475.out GE516.out)));replace HO_4:=ak (R_elder' (rm HO_4.out) (R_base ho0) hb);replace HO_26:=ak (R_elder' (rm HO_26.out) (R_base ho0) hb);replace HO_27:=ak (R_elder' (rm HO_27.out) (R_base ho0) hb);replace BK475:=kb BK475 hb;replace BK516:=kb BK516 hb;replace HB:=ak (below_step (h2 HB.out GE475.out GE516.out) hb);(try clear hb);(try clear hk);(try clear hi);(try clear ho0)))
      go_ret
      exact ⟨fe,h2 HB.out GE475.out GE516.out⟩
    subst c169
    rw [if_pos rfl] at H
    by_cases c170 : t542 = true
    rotate_left
    ·replace c170:=Bool.eq_false_iff.mpr c170
     subst c170
     rw [if_neg (show ¬ (false = true) by decide)] at H
     as_aux_lemma =>
      obtain rfl:=Option.some.inj H
      have hnb181:=NB516_475.out
      have hnc181:=NB475_516.out
      have hcz182_0 : wc.cell? ⟨gb516,0,none⟩ = some (.int .i64 t511):=(blk_cell BK516.out 0).trans rfl
      have hcz182_1 : wc.cell? ⟨gb516,1,none⟩ = some (.bool t512):=(blk_cell BK516.out 1).trans rfl
      have hfz182_0:=blk_frozen BK516.out 0
      have hfz182_1:=blk_frozen BK516.out 1
      go_wp2_with (first|((with_reducible refine gate_callee (f:=17) rfl ?_);refine goesL_ (some 244) rfl rfl Try.func17 (by kernel_rfl) rfl #[.agg #[.int .i64 t511,.bool t512],.slice Ao147 t517.length co147] rfl gl ?_;(with_reducible refine (impl_MirrorSensors.calls kj148 t511 t512 _ _ t517 t539 false _ ?side1 ?side2 A167.out).mono ?_);(case side1=>exact cm (R_reads' HO_27.out).2.2);(case side2=>exact (R_reads' HO_27.out).2.1);rintro e w183 ⟨v540,rfl,ho0,hb⟩;refine ⟨_,rfl,?_⟩;replace HO_5:=rb HO_5 hb;replace HO_9:=rb HO_9 hb;replace HO_17:=rb HO_17 hb;replace HO_31:=rb HO_31 hb;replace HO_33:=rb HO_33 hb;have HO541:=ak (R_lower (R_new' (R_new' (R_new' ho0 (R_lt (rm HO_4.out))) (R_lt (rm HO_26.out))) (R_lt (rm HO_27.out))) (below_size (h2 HB.out GE475.out GE516.out)));replace HO_4:=ak (R_elder' (rm HO_4.out) (R_base ho0) hb);replace HO_26:=ak (R_elder' (rm HO_26.out) (R_base ho0) hb);replace HO_27:=ak (R_elder' (rm HO_27.out) (R_base ho0) hb);replace BK475:=kb BK475 hb;replace BK516:=kb BK516 hb;replace HB:=ak (below_step (h2 HB.out GE475.out GE516.out) hb);(try clear hb);(try clear hk);(try clear hi);(try clear ho0)))
      go_ret
      exact ⟨fe,h2 HB.out GE475.out GE516.out⟩
    subst c170
    rw [if_pos rfl] at H
    replace H:=Option.bind_eq_some_iff.mp H
    obtain ⟨t543,A1710,H⟩:=H
    (try dsimp only at H)
    have A171:=Aside0.mk A1710
    clear A1710
    by_cases c172 : t543 = true
    rotate_left
    ·replace c172:=Bool.eq_false_iff.mpr c172
     subst c172
     rw [if_neg (show ¬ (false = true) by decide)] at H
     as_aux_lemma =>
      obtain rfl:=Option.some.inj H
      have hnb177:=NB516_475.out
      have hnc177:=NB475_516.out
      have hcz178_0 : wc.cell? ⟨gb516,0,none⟩ = some (.int .i64 t511):=(blk_cell BK516.out 0).trans rfl
      have hcz178_1 : wc.cell? ⟨gb516,1,none⟩ = some (.bool t512):=(blk_cell BK516.out 1).trans rfl
      have hfz178_0:=blk_frozen BK516.out 0
      have hfz178_1:=blk_frozen BK516.out 1
      go_wp2_with (first|((with_reducible refine gate_callee (f:=17) rfl ?_);refine goesL_ (some 244) rfl rfl Try.func17 (by kernel_rfl) rfl #[.agg #[.int .i64 t511,.bool t512],.slice Ao147 t517.length co147] rfl gl ?_;(with_reducible refine (impl_MirrorSensors.calls kj148 t511 t512 _ _ t517 t539 true _ ?side1 ?side2 A167.out).mono ?_);(case side1=>exact cm (R_reads' HO_27.out).2.2);(case side2=>exact (R_reads' HO_27.out).2.1);rintro e w179 ⟨v540,rfl,ho0,hb⟩;refine ⟨_,rfl,?_⟩;replace HO_5:=rb HO_5 hb;replace HO_9:=rb HO_9 hb;replace HO_17:=rb HO_17 hb;replace HO_31:=rb HO_31 hb;replace HO_33:=rb HO_33 hb;have HO541:=ak (R_lower (R_new' (R_new' (R_new' ho0 (R_lt (rm HO_4.out))) (R_lt (rm HO_26.out))) (R_lt (rm HO_27.out))) (below_size (h2 HB.out GE475.out GE516.out)));replace HO_4:=ak (R_elder' (rm HO_4.out) (R_base ho0) hb);replace HO_26:=ak (R_elder' (rm HO_26.out) (R_base ho0) hb);replace HO_27:=ak (R_elder' (rm HO_27.out) (R_base ho0) hb);replace BK475:=kb BK475 hb;replace BK516:=kb BK516 hb;replace HB:=ak (below_step (h2 HB.out GE475.out GE516.out) hb);(try clear hb);(try clear hk);(try clear hi);(try clear ho0);obtain ⟨Ao180,co180,eo180⟩:=R_slice HO541.out;subst eo180)|(go_at_call 40;(with_reducible refine (laws_vSensors.calls kj148 _ _ t539 _ _ t513 false _ ?side1 ?side2 ?side3 ?side4 A171.out).mono ?_);(case side1=>exact cm (R_reads' HO541.out).2.2);(case side2=>exact (R_reads' HO541.out).2.1);(case side3=>exact cm (R_reads' HO_26.out).2.2);(case side4=>exact (R_reads' HO_26.out).2.1);rintro e w' ⟨rfl,⟨nd,rfl⟩⟩))
      go_ret
      exact ⟨fe,h2 HB.out GE475.out GE516.out⟩
    subst c172
    rw [if_pos rfl] at H
    as_aux_lemma =>
     have H':=Aside0.mk H
     clear H
     have hnb173:=NB516_475.out
     have hnc173:=NB475_516.out
     have hcz174_0 : wc.cell? ⟨gb516,0,none⟩ = some (.int .i64 t511):=(blk_cell BK516.out 0).trans rfl
     have hcz174_1 : wc.cell? ⟨gb516,1,none⟩ = some (.bool t512):=(blk_cell BK516.out 1).trans rfl
     have hfz174_0:=blk_frozen BK516.out 0
     have hfz174_1:=blk_frozen BK516.out 1
     go_wp2_with (first|((with_reducible refine gate_callee (f:=17) rfl ?_);refine goesL_ (some 244) rfl rfl Try.func17 (by kernel_rfl) rfl #[.agg #[.int .i64 t511,.bool t512],.slice Ao147 t517.length co147] rfl gl ?_;(with_reducible refine (impl_MirrorSensors.calls kj148 t511 t512 _ _ t517 t539 true _ ?side1 ?side2 A167.out).mono ?_);(case side1=>exact cm (R_reads' HO_27.out).2.2);(case side2=>exact (R_reads' HO_27.out).2.1);rintro e w175 ⟨v540,rfl,ho0,hb⟩;refine ⟨_,rfl,?_⟩;replace HO_5:=rb HO_5 hb;replace HO_9:=rb HO_9 hb;replace HO_17:=rb HO_17 hb;replace HO_31:=rb HO_31 hb;replace HO_33:=rb HO_33 hb;have HO541:=ak (R_lower (R_new' (R_new' (R_new' ho0 (R_lt (rm HO_4.out))) (R_lt (rm HO_26.out))) (R_lt (rm HO_27.out))) (below_size (h2 HB.out GE475.out GE516.out)));replace HO_4:=ak (R_elder' (rm HO_4.out) (R_base ho0) hb);replace HO_26:=ak (R_elder' (rm HO_26.out) (R_base ho0) hb);replace HO_27:=ak (R_elder' (rm HO_27.out) (R_base ho0) hb);replace BK475:=kb BK475 hb;replace BK516:=kb BK516 hb;replace HB:=ak (below_step (h2 HB.out GE475.out GE516.out) hb);(try clear hb);(try clear hk);(try clear hi);(try clear ho0);obtain ⟨Ao176,co176,eo176⟩:=R_slice HO541.out;subst eo176)|(go_at_call 40;(with_reducible refine (laws_vSensors.calls kj148 _ _ t539 _ _ t513 true _ ?side1 ?side2 ?side3 ?side4 A171.out).mono ?_);(case side1=>exact cm (R_reads' HO541.out).2.2);(case side2=>exact (R_reads' HO541.out).2.1);(case side3=>exact cm (R_reads' HO_26.out).2.2);(case side4=>exact (R_reads' HO_26.out).2.1);rintro e w' ⟨rfl,⟨nd,rfl⟩⟩))
     go_meet
     case rel=>exact ⟨_,H',⟨by have:=HJ18.out;have:=HK2.out;have:=HJ148.out;first|omega|exact Nat.le_refl _⟩,⟨rm (R_mono HO_4.out (fun _ hk=>trivial))⟩,⟨rm (R_mono HO_5.out (fun _ hk=>hk.1))⟩,⟨rm HO_9.out⟩,⟨rm (R_mono HO_17.out (fun _ hk=>hk.1))⟩,⟨bm BK475.out⟩,⟨bm BK516.out⟩,⟨h2 HB.out GE475.out GE516.out⟩⟩
 clear HC139
 try clear c1
 try clear p2
 try clear p5
 try clear q5
 try clear hx5
 try clear c6
 try clear p6
 try clear c7
 try clear c8
 try clear c9
 try clear c13
 try clear c14
 try clear c15
 try clear c16
 try clear c17
 try clear c18
 try clear p53
 try clear q53
 try clear hx53
 try clear c62
 try clear c62b0
 try clear c62b1
 try clear c62b2
 try clear p64
 try clear c67
 try clear c67b0
 try clear c67b1
 try clear c67b2
 try clear c73
 try clear c74
 try clear c74b0
 try clear c74b1
 try clear c74b2
 try clear c81
 try clear c81b0
 try clear c81b1
 try clear c81b2
 try clear c88
 try clear c88b0
 try clear c88b1
 try clear c88b2
 try clear c96
 try clear c97
 try clear c138
 try clear c140
 try clear c143
 try clear c150
 try clear c151
 try clear c152
 try clear c154
 try clear c155
 try clear c155b0
 try clear c156
 try clear c156b0
 try clear c158
 try clear c158b0
 try clear c159
 try clear c159b0
 try clear c160
 try clear c160b0
 try clear c160b1
 try clear c168
 try clear c169
 try clear c170
 try clear c172
 try clear c173
 try clear c177
 try clear c181
 try clear c184
 try clear c187
 try clear hcz144_0
 try clear hcz144_1
 try clear hcz146_0
 try clear hcz146_1
 try clear hcz153_0
 try clear hcz153_1
 try clear hcz174_0
 try clear hcz174_1
 try clear hcz178_0
 try clear hcz178_1
 try clear hcz182_0
 try clear hcz182_1
 try clear hcz185_0
 try clear hcz185_1
 try clear hcz188_0
 try clear hcz188_1
 try clear hcz22_0
 try clear hcz22_1
 try clear hcz25_0
 try clear hcz25_1
 try clear hcz27_0
 try clear hcz27_1
 try clear hcz29_0
 try clear hcz29_1
 try clear hcz31_0
 try clear hcz31_1
 try clear hcz33_0
 try clear hcz33_1
 try clear hcz35_0
 try clear hcz35_1
 try clear hcz37_0
 try clear hcz37_1
 try clear hcz39_0
 try clear hcz39_1
 try clear hcz41_0
 try clear hcz41_1
 try clear hcz48_0
 try clear hcz48_1
 try clear hcz51_0
 try clear hcz51_1
 try clear hfz144_0
 try clear hfz144_1
 try clear hfz146_0
 try clear hfz146_1
 try clear hfz153_0
 try clear hfz153_1
 try clear hfz174_0
 try clear hfz174_1
 try clear hfz178_0
 try clear hfz178_1
 try clear hfz182_0
 try clear hfz182_1
 try clear hfz185_0
 try clear hfz185_1
 try clear hfz188_0
 try clear hfz188_1
 try clear hfz22_0
 try clear hfz22_1
 try clear hfz25_0
 try clear hfz25_1
 try clear hfz27_0
 try clear hfz27_1
 try clear hfz29_0
 try clear hfz29_1
 try clear hfz31_0
 try clear hfz31_1
 try clear hfz33_0
 try clear hfz33_1
 try clear hfz35_0
 try clear hfz35_1
 try clear hfz37_0
 try clear hfz37_1
 try clear hfz39_0
 try clear hfz39_1
 try clear hfz41_0
 try clear hfz41_1
 try clear hfz48_0
 try clear hfz48_1
 try clear hfz51_0
 try clear hfz51_1
 try clear hx537_0
 try clear hx538_0
 try clear p2
 try clear p537
 try clear p538
 try clear q537
 try clear q538
 obtain ⟨kq,HA,HJ138,HO_4,HO_5,HO_9,HO_17,BK475,BK516,HB⟩:=hcut
 cases kq with
 | zero=>exact absurd HA.out (by simp [laws_FnSensors.j3])
 | succ kj138 =>
  have H:=HA.out
  clear HA
  simp only [laws_FnSensors.j3] at H
  by_cases c190 : t479 = true
  rotate_left
  ·replace c190:=Bool.eq_false_iff.mpr c190
   subst c190
   rw [if_neg (show ¬ (false = true) by decide)] at H
   as_aux_lemma =>
    obtain rfl:=Option.some.inj H
    go_wp2
    go_ret
    exact ⟨fe,h2 HB.out GE475.out GE516.out⟩
  subst c190
  rw [if_pos rfl] at H
  exact laws_FnSensors.rest3 (by assumption) GE475 GE516 NB475_516 NB516_475 HJ18 HO_4 HO_5 HO_9 HO_17 BK475 BK516 HB HJ138 H
end
end Go.Proofs.Ytknfhoghimnieaa.QFnSensors
