/- Functions that the law FnWires comes to, and their walks: no condition but those named. -/
import Derived.Test.YtciihopkgblpkaaQFnWiresx0
import Derived.Test.YtciihopkgblpkaaQFnWiresx1
import Derived.Test.YtciihopkgblpkaaQFnWiresx3
import Derived.Test.YtciihopkgblpkaaQFnWiresx4
import Derived.Test.YtciihopkgblpkaaQFnWiresx5
import Derived.Test.YtciihopkgblpkaaQFnWiresx6
import Derived.Test.YtciihopkgblpkaaQFnWiresx7
import Derived.Test.YtciihopkgblpkaaQFnWiresx9
import Derived.Test.YtciihopkgblpkaaQFnWiresx10
import Derived.Test.YtciihopkgblpkaaQFnWiresx11
import Derived.Test.YtciihopkgblpkaaQFnWiresx14
import Derived.Test.YtciihopkgblpkaaQFnWiresx15
import Derived.Test.YtciihopkgblpkaaQFnWiresx21
namespace Go.Proofs.Ytciihopkgblpkaa.QFnWires
open Go.RowKit Go.Proofs.YtciihopkgblpkaaW.PrintWords Go.Proofs.YtciihopkgblpkaaW.PrintLast Go.Proofs.YtciihopkgblpkaaW.PrintMore Go.Proofs.Ytciihopkgblpkaa.Short
attribute [local go_sem] max2_int min2_int max_two min_two max_three min_three max_four min_four
set_option linter.unusedVariables false
set_option linter.unusedSimpArgs false

section
open Kd
set_option maxHeartbeats 8000000 in
set_option maxRecDepth 1000000 in
theorem laws_FnWires.rest1 {k : Nat} {A0 : Option Addr} {c0 : Nat} {l0 : List Int} {r : Bool} {w : World} {t520 : Int} {t521 t524 t528 t531 : List Int} {t534 t541 : Bool} {gb527 : Nat} {Ao11 : Option Addr} {co11 : Nat} {Ao12 : Option Addr} {co12 : Nat} {v529 v532 v536 v539 : Value} {wc : World} {u47 u48 u49 u50 u51 u52 u53 u54 u55 u56 u57 u58 u59 u60 u61 u62 u63 u64 u65 u66 u67 u68 u69 u70 u71 u72 u73 u74 u75 u76 u77 u78 u79 u80 u81 u82 u84 u85 u86 u87 u88 u89 u90 u91 u92 u93 u94 u95 u96 u97 u98 u99 u100 u101 u102 u103 u104 u105 u106 u107 u108 u109 u110 u111 u112 u113 u114 u115 u116 u117 u118 u119 u120 u121 u122 u123 u124 u125 u126 u127 u128 u129 u130 u131 u132 u133 u134 u135 u136 u137 u138 u139 u140 u141 u142 u143 u144 u145 u146 u147 u148 u149 u150 u151 u152 u153 u154 u155 u156 u157 u158 u159 u160 u161 u162 u163 u164 u165 u166 u167 u168 u169 u170 u171 u172 u173 u174 u175 u176 u177 u178 u179 u180 u181 u182 u183 u184 u185 u186 u187 u188 u189 u190 u191 u192 u193 u194 u195 u196 u197 u198 u199 u200 u201 u202 u203 u204 u205 u206 u207 u208 u209 u210 u211 u212 u213 u214 u215 u216 u217 u218 u219 u220 u221 u222 u223 u224 u225 u226 u227 u228 u229 u230 u231 u232 u233 u234 u235 u236 u237 u238 u239 u240 u241 u242 u243 u244 u245 u246 u247 u248 u249 u250 u251 u252 u253 u254 u255 u256 u257 u258 u259 u260 u261 u262 u263 u264 u265 u266 u267 u268 u269 u270 u271 u272 u273 u274 u275 u276 u277 u278 u279 u280 u281 u282 u283 u284 u285 u286 u287 u288 u289 u290 u291 u292 u293 u294 u295 u296 u297 u298 u299 u300 u301 u302 u303 u304 u305 u306 u307 u308 u309 u310 u311 u312 u313 u314 u315 u316 u317 u318 u319 u320 u321 u322 u323 u324 u325 u326 u327 u328 u329 u330 u331 u332 u333 u334 u335 u336 u337 u338 u339 u340 u341 u342 u343 u344 u345 u346 u347 u348 u349 u350 u351 u352 u353 u354 u355 u356 u357 u358 u359 u360 u361 u362 u363 u364 u365 u366 u367 u368 u369 u370 u371 u372 u373 u374 u375 u376 u377 u378 u379 u380 u381 : Value} {kj6 : Nat} {K1 K : Act → World → Prop} (hK1 : ∀ a w_, Code.wp Try.prog (follow [true, true, true, true, true] (Try.f10.body.getD Code.skip)) (bodyPost Try.prog Try.f10 fun e w' => e = Ending.returned (Value.bool r) ∧ Below w.heap.size w w') a w_ → K1 a w_) (hK : ∀ a w_, Code.wp Try.prog (follow [true, true, true, true, false, true, true] (Try.f10.body.getD Code.skip)) (Exit.then K1 (bodyPost Try.prog Try.f10 fun e w' => e = Ending.returned (Value.bool r) ∧ Below w.heap.size w w')) a w_ → K a w_) (HR0 : Aside0 ((int IntKind.u8).C w A0 l0.length l0)) (HC0 : Aside0 (l0.length ≤ c0)) (GE527 : Aside0 (w.heap.size ≤ gb527)) (HO_4 : Aside0 ((int IntKind.i64).R 3 wc w.heap.size (fun k_ => ob k_ v532 ∧ ob k_ (.slice Ao11 t521.length co11) ∧ ob k_ (.slice Ao12 t524.length co12)) v529 t528)) (HO_5 : Aside0 ((int IntKind.i64).R 3 wc w.heap.size (fun k_ => ob k_ v529 ∧ ob k_ (.slice Ao11 t521.length co11) ∧ ob k_ (.slice Ao12 t524.length co12)) v532 t531)) (HO_528001 : Aside0 ((int IntKind.i64).R 3 wc w.heap.size (fun k_ => ob k_ v529 ∧ ob k_ v532 ∧ ob k_ (.slice Ao12 t524.length co12)) (Value.slice Ao11 t521.length co11) t521)) (HO_528002 : Aside0 ((int IntKind.i64).R 3 wc w.heap.size (fun k_ => ob k_ v529 ∧ ob k_ v532 ∧ ob k_ (.slice Ao11 t521.length co11)) (Value.slice Ao12 t524.length co12) t524)) (BK527 : Aside0 (wc.heap[gb527]? = some (Obj.cells #[Value.int IntKind.i64 t520, Value.slice Ao11 t521.length co11, Value.slice Ao12 t524.length co12] 27))) (HB : Aside0 (Below w.heap.size w wc)) (HJ6 : Aside0 (kj6 + 1 ≤ k)) (H : ((impl_ShadeTimes.f kj6 t520 t521 t524).bind fun bt545 => (spec_ShadeTimes.f kj6 t520 t521 t524).bind fun bt549 => if (bt545.snd != bt549.snd) = true then j1 kj6 l0 t528 t531 t534 bt545.fst true t520 t521 t524 else if (bt545.snd != t534) = true then j1 kj6 l0 t528 t531 t534 bt545.fst true t520 t521 t524 else (laws_rInts.f kj6 bt545.fst bt549.fst).bind fun t553 => j1 kj6 l0 t528 t531 t534 bt545.fst (!t553) t520 t521 t524) = some r) :
  K { tmps := #[Value.slice A0 l0.length c0, undef, Value.bool false, Value.pointer (some { block := gb527, off := 0 }), v529, v532, Value.bool t534, v536, v539, Value.bool t541, undef, undef, undef, undef, undef, undef, undef, undef, undef, undef, undef, undef, undef, undef, undef, undef, undef, undef, undef, undef, undef, undef, undef, undef, undef, undef, undef, undef, undef, undef, undef, undef, undef, undef, undef, undef, undef, u47, u48, u49, u50, u51, u52, u53, u54, u55, u56, u57, u58, u59, u60, u61, u62, u63, u64, u65, u66, u67, u68, u69, u70, u71, u72, u73, u74, u75, u76, u77, u78, u79, u80, u81, u82, Value.bool false, u84, u85, u86, u87, u88, u89, u90, u91, u92, u93, u94, u95, u96, u97, u98, u99, u100, u101, u102, u103, u104, u105, u106, u107, u108, u109, u110, u111, u112, u113, u114, u115, u116, u117, u118, u119, u120, u121, u122, u123, u124, u125, u126, u127, u128, u129, u130, u131, u132, u133, u134, u135, u136, u137, u138, u139, u140, u141, u142, u143, u144, u145, u146, u147, u148, u149, u150, u151, u152, u153, u154, u155, u156, u157, u158, u159, u160, u161, u162, u163, u164, u165, u166, u167, u168, u169, u170, u171, u172, u173, u174, u175, u176, u177, u178, u179, u180, u181, u182, u183, u184, u185, u186, u187, u188, u189, u190, u191, u192, u193, u194, u195, u196, u197, u198, u199, u200, u201, u202, u203, u204, u205, u206, u207, u208, u209, u210, u211, u212, u213, u214, u215, u216, u217, u218, u219, u220, u221, u222, u223, u224, u225, u226, u227, u228, u229, u230, u231, u232, u233, u234, u235, u236, u237, u238, u239, u240, u241, u242, u243, u244, u245, u246, u247, u248, u249, u250, u251, u252, u253, u254, u255, u256, u257, u258, u259, u260, u261, u262, u263, u264, u265, u266, u267, u268, u269, u270, u271, u272, u273, u274, u275, u276, u277, u278, u279, u280, u281, u282, u283, u284, u285, u286, u287, u288, u289, u290, u291, u292, u293, u294, u295, u296, u297, u298, u299, u300, u301, u302, u303, u304, u305, u306, u307, u308, u309, u310, u311, u312, u313, u314, u315, u316, u317, u318, u319, u320, u321, u322, u323, u324, u325, u326, u327, u328, u329, u330, u331, u332, u333, u334, u335, u336, u337, u338, u339, u340, u341, u342, u343, u344, u345, u346, u347, u348, u349, u350, u351, u352, u353, u354, u355, u356, u357, u358, u359, u360, u361, u362, u363, u364, u365, u366, u367, u368, u369, u370, u371, u372, u373, u374, u375, u376, u377, u378, u379, u380, u381], defers := [] } wc := by
 have hu27:=Try.underlying27
 conv at hK1 => enter [a, w_, 1, 2]; whnf
 conv at hK => enter [a, w_, 1, 2]; whnf
 obtain ⟨⟨t545,t548⟩,A35,H⟩:=bd H;(try dsimp only at H)
 obtain ⟨⟨t549,t552⟩,A36,H⟩:=bd H;(try dsimp only at H)
 have HC37:=Aside0.mk H
 clear H
 have hcz38_0:=bc BK527 0 rfl
 have hcz38_1:=bc BK527 1 rfl
 have hcz38_2:=bc BK527 2 rfl
 have hfz38_0:=bf BK527 0
 have hfz38_1:=bf BK527 1
 have hfz38_2:=bf BK527 2
 have go_:=trivial;repeat ((first|clear go_|go_quiet (fail));go_upto_region 10 with (first|(go_at_call 21;(with_reducible refine (impl_ShadeTimes.calls kj6 t520 _ _ t521 _ _ t524 t545 t548 _ ?side1 ?side2 ?side3 ?side4 A35.out).mono ?_);(case side1=>exact cm (R_reads' HO_528001.out).2.2);(case side2=>exact (R_reads' HO_528001.out).2.1);(case side3=>exact cm (R_reads' HO_528002.out).2.2);(case side4=>exact (R_reads' HO_528002.out).2.1);rintro e w39 ⟨v546,rfl,ho0,hb⟩;have HO547:=ak (R_lower (R_new' (R_new' (R_new' (R_new' ho0 (R_lt (rm HO_4.out))) (R_lt (rm HO_5.out))) (R_lt (rm HO_528001.out))) (R_lt (rm HO_528002.out))) (below_size (h1 HB.out GE527.out)));replace HO_4:=ak (R_elder' (rm HO_4.out) (R_base ho0) hb);replace HO_5:=ak (R_elder' (rm HO_5.out) (R_base ho0) hb);replace HO_528001:=ak (R_elder' (rm HO_528001.out) (R_base ho0) hb);replace HO_528002:=ak (R_elder' (rm HO_528002.out) (R_base ho0) hb);replace BK527:=kb BK527 hb;replace HB:=ak (below_step (h1 HB.out GE527.out) hb);(try clear hb);(try clear hk);(try clear hi);(try clear ho0);have hcz40_0:=bc BK527 0 rfl;have hcz40_1:=bc BK527 1 rfl;have hcz40_2:=bc BK527 2 rfl;have hfz40_0:=bf BK527 0;have hfz40_1:=bf BK527 1;have hfz40_2:=bf BK527 2)|(go_at_call 20;(with_reducible refine (spec_ShadeTimes.calls kj6 t520 _ _ t521 _ _ t524 t549 t552 _ ?side1 ?side2 ?side3 ?side4 A36.out).mono ?_);(case side1=>exact cm (R_reads' HO_528001.out).2.2);(case side2=>exact (R_reads' HO_528001.out).2.1);(case side3=>exact cm (R_reads' HO_528002.out).2.2);(case side4=>exact (R_reads' HO_528002.out).2.1);rintro e w41 ⟨v550,rfl,ho0,hb⟩;have HO551:=ak (R_lower (R_new' (R_new' (R_new' (R_new' (R_new' ho0 (R_lt (rm HO_4.out))) (R_lt (rm HO_5.out))) (R_lt (rm HO_528001.out))) (R_lt (rm HO_528002.out))) (R_lt (rm HO547.out))) (below_size (h1 HB.out GE527.out)));replace HO_4:=ak (R_elder' (rm HO_4.out) (R_base ho0) hb);replace HO_5:=ak (R_elder' (rm HO_5.out) (R_base ho0) hb);replace HO_528001:=ak (R_elder' (rm HO_528001.out) (R_base ho0) hb);replace HO_528002:=ak (R_elder' (rm HO_528002.out) (R_base ho0) hb);replace HO547:=ak (R_elder' (rm HO547.out) (R_base ho0) hb);replace BK527:=kb BK527 hb;replace HB:=ak (below_step (h1 HB.out GE527.out) hb);(try clear hb);(try clear hk);(try clear hi);(try clear ho0))))
 (try simp only [ap])
 go_cut [107] (fun v107 wc=>∃ (kq : Nat) (x107_36 : Bool),v107 = .bool x107_36 ∧ Aside0 (laws_FnWires.j1 kq l0 t528 t531 t534 t545 x107_36 t520 t521 t524 = some r) ∧ Aside0 (kq ≤ kj6) ∧ Aside0 (Kd.R (Kd.int .i64) 3 wc w.heap.size (fun k_=>ob k_ v532 ∧ ob k_ v546 ∧ ob k_ (.slice Ao11 t521.length co11) ∧ ob k_ (.slice Ao12 t524.length co12)) v529 t528) ∧ Aside0 (Kd.R (Kd.int .i64) 3 wc w.heap.size (fun k_=>ob k_ v529 ∧ ob k_ v546 ∧ ob k_ (.slice Ao11 t521.length co11) ∧ ob k_ (.slice Ao12 t524.length co12)) v532 t531) ∧ Aside0 (Kd.R (Kd.int .i64) 3 wc w.heap.size (fun k_=>ob k_ v529 ∧ ob k_ v532 ∧ ob k_ (.slice Ao11 t521.length co11) ∧ ob k_ (.slice Ao12 t524.length co12)) v546 t545) ∧ Aside0 (Kd.R (Kd.int .i64) 3 wc w.heap.size (fun k_=>ob k_ v529 ∧ ob k_ v532 ∧ ob k_ v546 ∧ ob k_ (.slice Ao12 t524.length co12)) (.slice Ao11 t521.length co11) t521) ∧ Aside0 (Kd.R (Kd.int .i64) 3 wc w.heap.size (fun k_=>ob k_ v529 ∧ ob k_ v532 ∧ ob k_ v546 ∧ ob k_ (.slice Ao11 t521.length co11)) (.slice Ao12 t524.length co12) t524) ∧ Aside0 (wc.heap[gb527]? = some (.cells #[.int .i64 t520,(.slice Ao11 t521.length co11),(.slice Ao12 t524.length co12)] 27 (0,0))) ∧ Aside0 (Below w.heap.size w wc))
 case first =>
  have H:=HC37.out
  clear HC37
  by_cases c42 : (t548 != t552) = true
  ·rw [if_pos c42] at H
   have c42b0 : (t548 != t552) = true:=c42
   (try (have c42b1 : decide (t548 = t552) = false:=by simpa using c42))
   (try (have c42b2 : (t548 == t552) = false:=by simpa using c42))
   (try (have c42b3 : ¬ (t548 = t552):=by simpa using c42))
   clear c42
   (first|rw [c42b0]|(simp only [i64_w,i32_w];rw [c42b0])|skip)
   as_aux_lemma =>
    have H':=Aside0.mk H
    clear H
    go_wp2
    repeat (go_quiet (fail);try go_wp2)
    go_meet
    case rel=>exact ⟨_,(true),fd,H',⟨by first|exact Nat.le_refl _|(have:=HJ6.out;omega)⟩,rq HO_4,rq HO_5,rq HO547,rq HO_528001,rq HO_528002,⟨bm BK527.out⟩,⟨h1 HB.out GE527.out⟩⟩
  rw [if_neg c42] at H
  have c42b0 : (t548 != t552) = false:=by simpa using c42
  (try (have c42b1 : decide (t548 = t552) = true:=by simpa using c42))
  (try (have c42b2 : (t548 == t552) = true:=by simpa using c42))
  clear c42
  (first|rw [c42b0]|(simp only [i64_w,i32_w];rw [c42b0])|skip)
  by_cases c43 : (t548 != t534) = true
  ·rw [if_pos c43] at H
   have c43b0 : (t548 != t534) = true:=c43
   (try (have c43b1 : decide (t548 = t534) = false:=by simpa using c43))
   (try (have c43b2 : (t548 == t534) = false:=by simpa using c43))
   (try (have c43b3 : ¬ (t548 = t534):=by simpa using c43))
   clear c43
   as_aux_lemma =>
    have H':=Aside0.mk H
    clear H
    go_wp2
    repeat (go_quiet (fail);try go_wp2)
    go_meet
    case rel=>exact ⟨_,(true),fd,H',⟨by first|exact Nat.le_refl _|(have:=HJ6.out;omega)⟩,rq HO_4,rq HO_5,rq HO547,rq HO_528001,rq HO_528002,⟨bm BK527.out⟩,⟨h1 HB.out GE527.out⟩⟩
  rw [if_neg c43] at H
  have c43b0 : (t548 != t534) = false:=by simpa using c43
  (try (have c43b1 : decide (t548 = t534) = true:=by simpa using c43))
  (try (have c43b2 : (t548 == t534) = true:=by simpa using c43))
  clear c43
  obtain ⟨t553,A44,H⟩:=bd H;(try dsimp only at H)
  as_aux_lemma =>
   have H':=Aside0.mk H
   clear H
   obtain ⟨Ao45,co45,eo45⟩:=R_slice HO547.out
   subst eo45
   obtain ⟨Ao46,co46,eo46⟩:=R_slice HO551.out
   subst eo46
   have go_:=trivial;repeat ((first|clear go_|go_quiet (first|(go_at_call 35;(with_reducible refine (laws_rInts.calls kj6 _ _ t545 _ _ t549 t553 _ ?side1 ?side2 ?side3 ?side4 A44.out).mono ?_);(case side1=>exact cm (R_reads' HO547.out).2.2);(case side2=>exact (R_reads' HO547.out).2.1);(case side3=>exact cm (R_reads' HO551.out).2.2);(case side4=>exact (R_reads' HO551.out).2.1);rintro e w' ⟨rfl,⟨nd,rfl⟩⟩;(try first|exact ⟨rfl,_,World.drewN_drewN _ _ _⟩|exact ⟨rfl,_,Eq.trans (World.drewN_drewN _ _ _) (congrArg (World.drewN _) (Nat.add_assoc _ _ _))⟩))));try go_wp2_with (first|(go_at_call 35;(with_reducible refine (laws_rInts.calls kj6 _ _ t545 _ _ t549 t553 _ ?side1 ?side2 ?side3 ?side4 A44.out).mono ?_);(case side1=>exact cm (R_reads' HO547.out).2.2);(case side2=>exact (R_reads' HO547.out).2.1);(case side3=>exact cm (R_reads' HO551.out).2.2);(case side4=>exact (R_reads' HO551.out).2.1);rintro e w' ⟨rfl,⟨nd,rfl⟩⟩;(try first|exact ⟨rfl,_,World.drewN_drewN _ _ _⟩|exact ⟨rfl,_,Eq.trans (World.drewN_drewN _ _ _) (congrArg (World.drewN _) (Nat.add_assoc _ _ _))⟩))))
   go_meet
   case rel=>exact ⟨_,(!t553),fd,H',⟨by first|exact Nat.le_refl _|(have:=HJ6.out;omega)⟩,rq HO_4,rq HO_5,rq HO547,rq HO_528001,rq HO_528002,⟨bm BK527.out⟩,⟨h1 HB.out GE527.out⟩⟩
 clear HC37
 try clear c1
 try clear c2
 try clear p2
 try clear c3
 try clear c4
 try clear c10
 try clear c16
 try clear c16b0
 try clear c16b1
 try clear c16b2
 try clear c18
 try clear c18b0
 try clear c18b1
 try clear c18b2
 try clear c22
 try clear c34
 try clear c42
 try clear c42b0
 try clear c42b1
 try clear c42b2
 try clear c43
 try clear c43b0
 try clear c43b1
 try clear c43b2
 try clear hcz10_0
 try clear hcz10_1
 try clear hcz10_2
 try clear hcz14_0
 try clear hcz14_1
 try clear hcz14_2
 try clear hcz19_0
 try clear hcz19_1
 try clear hcz19_2
 try clear hcz24_0
 try clear hcz24_1
 try clear hcz24_2
 try clear hcz30_0
 try clear hcz30_1
 try clear hcz30_2
 try clear hcz38_0
 try clear hcz38_1
 try clear hcz38_2
 try clear hcz40_0
 try clear hcz40_1
 try clear hcz40_2
 try clear hfz10_0
 try clear hfz10_1
 try clear hfz10_2
 try clear hfz14_0
 try clear hfz14_1
 try clear hfz14_2
 try clear hfz19_0
 try clear hfz19_1
 try clear hfz19_2
 try clear hfz24_0
 try clear hfz24_1
 try clear hfz24_2
 try clear hfz30_0
 try clear hfz30_1
 try clear hfz30_2
 try clear hfz38_0
 try clear hfz38_1
 try clear hfz38_2
 try clear hfz40_0
 try clear hfz40_1
 try clear hfz40_2
 try clear p2
 obtain ⟨kq,x107_36,rfl,HA,HJ36,HO_4,HO_5,HO_10,HO_528001,HO_528002,BK527,HB⟩:=hcut
 cases kq with
 | zero=>exact absurd HA.out (by simp [laws_FnWires.j1])
 | succ kj36 =>
  have H:=HA.out
  clear HA
  simp only [laws_FnWires.j1] at H
  by_cases c47 : x107_36 = true
  ·subst c47
   rw [if_pos rfl] at H
   as_aux_lemma =>
    obtain rfl:=Option.some.inj H
    go_wp2
    repeat (go_quiet (fail);try go_wp2)
    go_ret
    exact ⟨fe,h1 HB.out GE527.out⟩
  replace c47:=Bool.eq_false_iff.mpr c47
  subst c47
  rw [if_neg (show ¬ (false = true) by decide)] at H
  exact laws_FnWires.rest2 (by assumption) (by assumption) HR0 HC0 GE527 HJ6 HO_4 HO_5 HO_10 HO_528001 HO_528002 BK527 HB HJ36 H
end
end Go.Proofs.Ytciihopkgblpkaa.QFnWires
