/- Functions that the law FnWires comes to, and their walks: no condition but those named. -/
import Derived.Test.YtciihopkgblpkaaQFnWiresx0
import Derived.Test.YtciihopkgblpkaaQFnWiresx1
import Derived.Test.YtciihopkgblpkaaQFnWiresx3
import Derived.Test.YtciihopkgblpkaaQFnWiresx4
import Derived.Test.YtciihopkgblpkaaQFnWiresx5
import Derived.Test.YtciihopkgblpkaaQFnWiresx6
import Derived.Test.YtciihopkgblpkaaQFnWiresx7
import Derived.Test.YtciihopkgblpkaaQFnWiresx9
import Derived.Test.YtciihopkgblpkaaQFnWiresx10
import Derived.Test.YtciihopkgblpkaaQFnWiresx11
import Derived.Test.YtciihopkgblpkaaQFnWiresx14
import Derived.Test.YtciihopkgblpkaaQFnWiresx15
import Derived.Test.YtciihopkgblpkaaQFnWiresx19
namespace Go.Proofs.Ytciihopkgblpkaa.QFnWires
open Go.RowKit Go.Proofs.YtciihopkgblpkaaW.PrintWords Go.Proofs.YtciihopkgblpkaaW.PrintLast Go.Proofs.YtciihopkgblpkaaW.PrintMore Go.Proofs.Ytciihopkgblpkaa.Short
attribute [local go_sem] max2_int min2_int max_two min_two max_three min_three max_four min_four
set_option linter.unusedVariables false
set_option linter.unusedSimpArgs false

section
open Kd
set_option maxHeartbeats 8000000 in
set_option maxRecDepth 1000000 in
theorem laws_FnWires.rest3 {k : Nat} {A0 : Option Addr} {c0 : Nat} {l0 : List Int} {r : Bool} {w : World} {t520 : Int} {t521 t524 t528 t531 : List Int} {t534 t541 : Bool} {gb527 : Nat} {Ao11 : Option Addr} {co11 : Nat} {Ao12 : Option Addr} {co12 : Nat} {v529 v532 v536 v539 : Value} {kj6 : Nat} {t545 : List Int} {t548 t552 : Bool} {v546 v550 : Value} {kj36 : Nat} {t554 : Int} {t555 : Bool} {t556 : Int} {t557 : Bool} {wc : World} {u47 u48 u49 u50 u51 u52 u53 u54 u55 u56 u57 u58 u59 u60 u61 u62 u63 u64 u65 u66 u67 u68 u69 u70 u71 u72 u73 u74 u75 u76 u77 u78 u79 u80 u81 u82 u83 u84 u85 u86 u87 u88 u89 u90 u91 u92 u93 u94 u95 u96 u97 u98 u99 u100 u101 u102 u103 u104 u105 u106 u107 u108 u109 u110 u111 u112 u113 u114 u115 u116 u117 u118 u119 u120 u121 u122 u123 u124 u125 u126 u127 u128 u129 u131 u132 u133 u134 u135 u136 u137 u138 u139 u140 u141 u142 u143 u144 u145 u146 u147 u148 u149 u150 u151 u152 u153 u154 u155 u156 u157 u158 u159 u160 u161 u162 u163 u164 u165 u166 u167 u168 u169 u170 u171 u172 u173 u174 u175 u176 u177 u178 u179 u180 u181 u182 u183 u184 u185 u186 u187 u188 u189 u190 u191 u192 u193 u194 u195 u196 u197 u198 u199 u200 u201 u202 u203 u204 u205 u206 u207 u208 u209 u210 u211 u212 u213 u214 u215 u216 u217 u218 u219 u220 u221 u222 u223 u224 u225 u226 u227 u228 u229 u230 u231 u232 u233 u234 u235 u236 u237 u238 u239 u240 u241 u242 u243 u244 u245 u246 u247 u248 u249 u250 u251 u252 u253 u254 u255 u256 u257 u258 u259 u260 u261 u262 u263 u264 u265 u266 u267 u268 u269 u270 u271 u272 u273 u274 u275 u276 u277 u278 u279 u280 u281 u282 u283 u284 u285 u286 u287 u288 u289 u290 u291 u292 u293 u294 u295 u296 u297 u298 u299 u300 u301 u302 u303 u304 u305 u306 u307 u308 u309 u310 u311 u312 u313 u314 u315 u316 u317 u318 u319 u320 u321 u322 u323 u324 u325 u326 u327 u328 u329 u330 u331 u332 u333 u334 u335 u336 u337 u338 u339 u340 u341 u342 u343 u344 u345 u346 u347 u348 u349 u350 u351 u352 u353 u354 u355 u356 u357 u358 u359 u360 u361 u362 u363 u364 u365 u366 u367 u368 u369 u370 u371 u372 u373 u374 u375 u376 u377 u378 u379 u380 u381 : Value} {kj49 : Nat} {K1 K : Act → World → Prop} (hK1 : ∀ a w_, Code.wp Try.prog (follow [true, true, true, true, true, true, true, true, true] (Try.f10.body.getD Code.skip)) (bodyPost Try.prog Try.f10 fun e w' => e = Ending.returned (Value.bool r) ∧ Below w.heap.size w w') a w_ → K1 a w_) (hK : ∀ a w_, Code.wp Try.prog (follow [true, true, true, true, true, true, true, true, false, true, true] (Try.f10.body.getD Code.skip)) (Exit.then K1 (bodyPost Try.prog Try.f10 fun e w' => e = Ending.returned (Value.bool r) ∧ Below w.heap.size w w')) a w_ → K a w_) (HR0 : Aside0 ((int IntKind.u8).C w A0 l0.length l0)) (HC0 : Aside0 (l0.length ≤ c0)) (GE527 : Aside0 (w.heap.size ≤ gb527)) (HJ6 : Aside0 (kj6 + 1 ≤ k)) (HJ36 : Aside0 (kj36 + 1 ≤ kj6)) (HO_4 : Aside0 ((int IntKind.i64).R 3 wc w.heap.size (fun k_ => ob k_ v532 ∧ ob k_ v546 ∧ ob k_ (.slice Ao11 t521.length co11) ∧ ob k_ (.slice Ao12 t524.length co12)) v529 t528)) (HO_5 : Aside0 ((int IntKind.i64).R 3 wc w.heap.size (fun k_ => ob k_ v529 ∧ ob k_ v546 ∧ ob k_ (.slice Ao11 t521.length co11) ∧ ob k_ (.slice Ao12 t524.length co12)) v532 t531)) (HO_10 : Aside0 ((int IntKind.i64).R 3 wc w.heap.size (fun k_ => ob k_ v529 ∧ ob k_ v532 ∧ ob k_ (.slice Ao11 t521.length co11) ∧ ob k_ (.slice Ao12 t524.length co12)) v546 t545)) (HO_528001 : Aside0 ((int IntKind.i64).R 3 wc w.heap.size (fun k_ => ob k_ v529 ∧ ob k_ v532 ∧ ob k_ v546 ∧ ob k_ (.slice Ao12 t524.length co12)) (Value.slice Ao11 t521.length co11) t521)) (HO_528002 : Aside0 ((int IntKind.i64).R 3 wc w.heap.size (fun k_ => ob k_ v529 ∧ ob k_ v532 ∧ ob k_ v546 ∧ ob k_ (.slice Ao11 t521.length co11)) (Value.slice Ao12 t524.length co12) t524)) (BK527 : Aside0 (wc.heap[gb527]? = some (Obj.cells #[Value.int IntKind.i64 t520, Value.slice Ao11 t521.length co11, Value.slice Ao12 t524.length co12] 27))) (HB : Aside0 (Below w.heap.size w wc)) (HJ49 : Aside0 (kj49 + 1 ≤ kj36)) (H : ((impl_CountMeets.f kj49 t520 t521 t524).bind fun bt558 => (spec_CountMeets.f kj49 t520 t521 t524).bind fun bt560 => if bt558.fst = bt560.fst then if (bt558.snd != bt560.snd) = true then j3 kj49 l0 t528 t531 t534 t545 t554 bt558.fst true t520 t521 t524 else j3 kj49 l0 t528 t531 t534 t545 t554 bt558.fst (bt558.snd != t534) t520 t521 t524 else j3 kj49 l0 t528 t531 t534 t545 t554 bt558.fst true t520 t521 t524) = some r) :
  K { tmps := #[Value.slice A0 l0.length c0, undef, Value.bool false, Value.pointer (some { block := gb527, off := 0 }), v529, v532, Value.bool t534, v536, v539, Value.bool t541, v546, Value.bool t548, v550, Value.bool t552, Value.int IntKind.i64 t554, Value.bool t555, Value.int IntKind.i64 t556, Value.bool t557, undef, undef, undef, undef, undef, undef, undef, undef, undef, undef, undef, undef, undef, undef, undef, undef, undef, undef, undef, undef, undef, undef, undef, undef, undef, undef, undef, undef, undef, u47, u48, u49, u50, u51, u52, u53, u54, u55, u56, u57, u58, u59, u60, u61, u62, u63, u64, u65, u66, u67, u68, u69, u70, u71, u72, u73, u74, u75, u76, u77, u78, u79, u80, u81, u82, u83, u84, u85, u86, u87, u88, u89, u90, u91, u92, u93, u94, u95, u96, u97, u98, u99, u100, u101, u102, u103, u104, u105, u106, u107, u108, u109, u110, u111, u112, u113, u114, u115, u116, u117, u118, u119, u120, u121, u122, u123, u124, u125, u126, u127, u128, u129, Value.bool false, u131, u132, u133, u134, u135, u136, u137, u138, u139, u140, u141, u142, u143, u144, u145, u146, u147, u148, u149, u150, u151, u152, u153, u154, u155, u156, u157, u158, u159, u160, u161, u162, u163, u164, u165, u166, u167, u168, u169, u170, u171, u172, u173, u174, u175, u176, u177, u178, u179, u180, u181, u182, u183, u184, u185, u186, u187, u188, u189, u190, u191, u192, u193, u194, u195, u196, u197, u198, u199, u200, u201, u202, u203, u204, u205, u206, u207, u208, u209, u210, u211, u212, u213, u214, u215, u216, u217, u218, u219, u220, u221, u222, u223, u224, u225, u226, u227, u228, u229, u230, u231, u232, u233, u234, u235, u236, u237, u238, u239, u240, u241, u242, u243, u244, u245, u246, u247, u248, u249, u250, u251, u252, u253, u254, u255, u256, u257, u258, u259, u260, u261, u262, u263, u264, u265, u266, u267, u268, u269, u270, u271, u272, u273, u274, u275, u276, u277, u278, u279, u280, u281, u282, u283, u284, u285, u286, u287, u288, u289, u290, u291, u292, u293, u294, u295, u296, u297, u298, u299, u300, u301, u302, u303, u304, u305, u306, u307, u308, u309, u310, u311, u312, u313, u314, u315, u316, u317, u318, u319, u320, u321, u322, u323, u324, u325, u326, u327, u328, u329, u330, u331, u332, u333, u334, u335, u336, u337, u338, u339, u340, u341, u342, u343, u344, u345, u346, u347, u348, u349, u350, u351, u352, u353, u354, u355, u356, u357, u358, u359, u360, u361, u362, u363, u364, u365, u366, u367, u368, u369, u370, u371, u372, u373, u374, u375, u376, u377, u378, u379, u380, u381], defers := [] } wc := by
 have hu27:=Try.underlying27
 conv at hK1 => enter [a, w_, 1, 2]; whnf
 conv at hK => enter [a, w_, 1, 2]; whnf
 obtain ⟨⟨t558,t559⟩,A58,H⟩:=bd H;(try dsimp only at H)
 obtain ⟨⟨t560,t561⟩,A59,H⟩:=bd H;(try dsimp only at H)
 have HC60:=Aside0.mk H
 clear H
 have hcz61_0:=bc BK527 0 rfl
 have hcz61_1:=bc BK527 1 rfl
 have hcz61_2:=bc BK527 2 rfl
 have hfz61_0:=bf BK527 0
 have hfz61_1:=bf BK527 1
 have hfz61_2:=bf BK527 2
 have go_:=trivial;repeat ((first|clear go_|go_quiet (fail));go_upto_region 18 with (first|(go_at_call 17;(with_reducible refine (impl_CountMeets.calls kj49 t520 _ _ t521 _ _ t524 t558 t559 _ ?side1 ?side2 ?side3 ?side4 A58.out).mono ?_);(case side1=>exact cm (R_reads' HO_528001.out).2.2);(case side2=>exact (R_reads' HO_528001.out).2.1);(case side3=>exact cm (R_reads' HO_528002.out).2.2);(case side4=>exact (R_reads' HO_528002.out).2.1);rintro e w62 ⟨rfl,hb⟩;replace HO_4:=rb HO_4 hb;replace HO_5:=rb HO_5 hb;replace HO_10:=rb HO_10 hb;replace HO_528001:=rb HO_528001 hb;replace HO_528002:=rb HO_528002 hb;replace BK527:=kb BK527 hb;replace HB:=ak (below_step (h1 HB.out GE527.out) hb);(try clear hb);(try clear hk);(try clear hi);have hcz63_0:=bc BK527 0 rfl;have hcz63_1:=bc BK527 1 rfl;have hcz63_2:=bc BK527 2 rfl;have hfz63_0:=bf BK527 0;have hfz63_1:=bf BK527 1;have hfz63_2:=bf BK527 2)|(go_at_call 16;(with_reducible refine (spec_CountMeets.calls kj49 t520 _ _ t521 _ _ t524 t560 t561 _ ?side1 ?side2 ?side3 ?side4 A59.out).mono ?_);(case side1=>exact cm (R_reads' HO_528001.out).2.2);(case side2=>exact (R_reads' HO_528001.out).2.1);(case side3=>exact cm (R_reads' HO_528002.out).2.2);(case side4=>exact (R_reads' HO_528002.out).2.1);rintro e w64 ⟨rfl,hb⟩;replace HO_4:=rb HO_4 hb;replace HO_5:=rb HO_5 hb;replace HO_10:=rb HO_10 hb;replace HO_528001:=rb HO_528001 hb;replace HO_528002:=rb HO_528002 hb;replace BK527:=kb BK527 hb;replace HB:=ak (below_step (h1 HB.out GE527.out) hb);(try clear hb);(try clear hk);(try clear hi))))
 (try simp only [ap])
 go_cut [153] (fun v153 wc=>∃ (kq : Nat) (x153_59 : Bool),v153 = .bool x153_59 ∧ Aside0 (laws_FnWires.j3 kq l0 t528 t531 t534 t545 t554 t558 x153_59 t520 t521 t524 = some r) ∧ Aside0 (kq ≤ kj49) ∧ Aside0 (Kd.R (Kd.int .i64) 3 wc w.heap.size (fun k_=>ob k_ v532 ∧ ob k_ v546 ∧ ob k_ (.slice Ao11 t521.length co11) ∧ ob k_ (.slice Ao12 t524.length co12)) v529 t528) ∧ Aside0 (Kd.R (Kd.int .i64) 3 wc w.heap.size (fun k_=>ob k_ v529 ∧ ob k_ v546 ∧ ob k_ (.slice Ao11 t521.length co11) ∧ ob k_ (.slice Ao12 t524.length co12)) v532 t531) ∧ Aside0 (Kd.R (Kd.int .i64) 3 wc w.heap.size (fun k_=>ob k_ v529 ∧ ob k_ v532 ∧ ob k_ (.slice Ao11 t521.length co11) ∧ ob k_ (.slice Ao12 t524.length co12)) v546 t545) ∧ Aside0 (Kd.R (Kd.int .i64) 3 wc w.heap.size (fun k_=>ob k_ v529 ∧ ob k_ v532 ∧ ob k_ v546 ∧ ob k_ (.slice Ao12 t524.length co12)) (.slice Ao11 t521.length co11) t521) ∧ Aside0 (Kd.R (Kd.int .i64) 3 wc w.heap.size (fun k_=>ob k_ v529 ∧ ob k_ v532 ∧ ob k_ v546 ∧ ob k_ (.slice Ao11 t521.length co11)) (.slice Ao12 t524.length co12) t524) ∧ Aside0 (wc.heap[gb527]? = some (.cells #[.int .i64 t520,(.slice Ao11 t521.length co11),(.slice Ao12 t524.length co12)] 27 (0,0))) ∧ Aside0 (Below w.heap.size w wc))
 case first =>
  have H:=HC60.out
  clear HC60
  by_cases c65 : t558 = t560
  rotate_left
  ·rw [if_neg c65] at H
   have c65b0 : (t558 == t560) = false:=beq_eq_false_iff_ne.mpr c65
   have c65b1 : (t558 != t560) = true:=bne_iff_ne.mpr c65
   (first|rw [c65b0]|(simp only [i64_w,i32_w];rw [c65b0])|skip)
   as_aux_lemma =>
    have H':=Aside0.mk H
    clear H
    go_wp2
    repeat (go_quiet (fail);try go_wp2)
    go_meet
    case rel=>exact ⟨_,(true),fd,H',⟨by first|exact Nat.le_refl _|(have:=HJ6.out;have:=HJ36.out;have:=HJ49.out;omega)⟩,⟨rm HO_4.out⟩,⟨rm HO_5.out⟩,⟨rm HO_10.out⟩,⟨rm HO_528001.out⟩,⟨rm HO_528002.out⟩,⟨bm BK527.out⟩,⟨h1 HB.out GE527.out⟩⟩
  rw [if_pos c65] at H
  have c65b0 : (t558 == t560) = true:=beq_iff_eq.mpr c65
  have c65b1 : (t558 != t560) = false:=bne_eq_false_iff_eq.mpr c65
  clear c65
  (first|rw [c65b0]|(simp only [i64_w,i32_w];rw [c65b0])|skip)
  by_cases c66 : (t559 != t561) = true
  rotate_left
  ·rw [if_neg c66] at H
   have c66b0 : (t559 != t561) = false:=by simpa using c66
   (try (have c66b1 : decide (t559 = t561) = true:=by simpa using c66))
   (try (have c66b2 : (t559 == t561) = true:=by simpa using c66))
   clear c66
   as_aux_lemma =>
    have H':=Aside0.mk H
    clear H
    go_wp2
    repeat (go_quiet (fail);try go_wp2)
    go_meet
    case rel=>exact ⟨_,((t559 != t534)),fd,H',⟨by first|exact Nat.le_refl _|(have:=HJ6.out;have:=HJ36.out;have:=HJ49.out;omega)⟩,⟨rm HO_4.out⟩,⟨rm HO_5.out⟩,⟨rm HO_10.out⟩,⟨rm HO_528001.out⟩,⟨rm HO_528002.out⟩,⟨bm BK527.out⟩,⟨h1 HB.out GE527.out⟩⟩
  rw [if_pos c66] at H
  have c66b0 : (t559 != t561) = true:=c66
  (try (have c66b1 : decide (t559 = t561) = false:=by simpa using c66))
  (try (have c66b2 : (t559 == t561) = false:=by simpa using c66))
  (try (have c66b3 : ¬ (t559 = t561):=by simpa using c66))
  clear c66
  as_aux_lemma =>
   have H':=Aside0.mk H
   clear H
   go_wp2
   repeat (go_quiet (fail);try go_wp2)
   go_meet
   case rel=>exact ⟨_,(true),fd,H',⟨by first|exact Nat.le_refl _|(have:=HJ6.out;have:=HJ36.out;have:=HJ49.out;omega)⟩,⟨rm HO_4.out⟩,⟨rm HO_5.out⟩,⟨rm HO_10.out⟩,⟨rm HO_528001.out⟩,⟨rm HO_528002.out⟩,⟨bm BK527.out⟩,⟨h1 HB.out GE527.out⟩⟩
 clear HC60
 try clear c1
 try clear c2
 try clear p2
 try clear c3
 try clear c4
 try clear c5
 try clear c6
 try clear c10
 try clear c16
 try clear c16b0
 try clear c16b1
 try clear c16b2
 try clear c18
 try clear c18b0
 try clear c18b1
 try clear c18b2
 try clear c22
 try clear c34
 try clear c42
 try clear c42b0
 try clear c42b1
 try clear c42b2
 try clear c43
 try clear c43b0
 try clear c43b1
 try clear c43b2
 try clear c47
 try clear c55
 try clear c55b0
 try clear c55b1
 try clear c56
 try clear c56b0
 try clear c56b1
 try clear c56b2
 try clear c57
 try clear c65
 try clear c65b0
 try clear c65b1
 try clear c66
 try clear c66b0
 try clear c66b1
 try clear c66b2
 try clear hcz10_0
 try clear hcz10_1
 try clear hcz10_2
 try clear hcz14_0
 try clear hcz14_1
 try clear hcz14_2
 try clear hcz19_0
 try clear hcz19_1
 try clear hcz19_2
 try clear hcz24_0
 try clear hcz24_1
 try clear hcz24_2
 try clear hcz30_0
 try clear hcz30_1
 try clear hcz30_2
 try clear hcz38_0
 try clear hcz38_1
 try clear hcz38_2
 try clear hcz40_0
 try clear hcz40_1
 try clear hcz40_2
 try clear hcz51_0
 try clear hcz51_1
 try clear hcz51_2
 try clear hcz53_0
 try clear hcz53_1
 try clear hcz53_2
 try clear hcz61_0
 try clear hcz61_1
 try clear hcz61_2
 try clear hcz63_0
 try clear hcz63_1
 try clear hcz63_2
 try clear hfz10_0
 try clear hfz10_1
 try clear hfz10_2
 try clear hfz14_0
 try clear hfz14_1
 try clear hfz14_2
 try clear hfz19_0
 try clear hfz19_1
 try clear hfz19_2
 try clear hfz24_0
 try clear hfz24_1
 try clear hfz24_2
 try clear hfz30_0
 try clear hfz30_1
 try clear hfz30_2
 try clear hfz38_0
 try clear hfz38_1
 try clear hfz38_2
 try clear hfz40_0
 try clear hfz40_1
 try clear hfz40_2
 try clear hfz51_0
 try clear hfz51_1
 try clear hfz51_2
 try clear hfz53_0
 try clear hfz53_1
 try clear hfz53_2
 try clear hfz61_0
 try clear hfz61_1
 try clear hfz61_2
 try clear hfz63_0
 try clear hfz63_1
 try clear hfz63_2
 try clear p2
 obtain ⟨kq,x153_59,rfl,HA,HJ59,HO_4,HO_5,HO_10,HO_528001,HO_528002,BK527,HB⟩:=hcut
 cases kq with
 | zero=>exact absurd HA.out (by simp [laws_FnWires.j3])
 | succ kj59 =>
  have H:=HA.out
  clear HA
  simp only [laws_FnWires.j3] at H
  by_cases c67 : x153_59 = true
  ·subst c67
   rw [if_pos rfl] at H
   as_aux_lemma =>
    obtain rfl:=Option.some.inj H
    go_wp2
    repeat (go_quiet (fail);try go_wp2)
    go_ret
    exact ⟨fe,h1 HB.out GE527.out⟩
  replace c67:=Bool.eq_false_iff.mpr c67
  subst c67
  rw [if_neg (show ¬ (false = true) by decide)] at H
  exact laws_FnWires.rest4 (by assumption) (by assumption) HR0 HC0 GE527 HJ6 HJ36 HJ49 HO_4 HO_5 HO_10 HO_528001 HO_528002 BK527 HB HJ59 H
end
end Go.Proofs.Ytciihopkgblpkaa.QFnWires
