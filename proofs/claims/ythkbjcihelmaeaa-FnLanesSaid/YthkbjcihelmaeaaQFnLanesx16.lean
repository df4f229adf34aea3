/- Functions that the law FnLanes comes to, as Lean functions, with the proof that the Go code does what they say: written by a program of this session over the kit's print. No condition but those named. -/
import Derived.Test.YthkbjcihelmaeaaQFnLanesx0
import Derived.Test.YthkbjcihelmaeaaQFnLanesx1
import Derived.Test.YthkbjcihelmaeaaQFnLanesx2
import Derived.Test.YthkbjcihelmaeaaQFnLanesx3
import Derived.Test.YthkbjcihelmaeaaQFnLanesx4
import Derived.Test.YthkbjcihelmaeaaQFnLanesx5
import Derived.Test.YthkbjcihelmaeaaQFnLanesx6
import Derived.Test.YthkbjcihelmaeaaQFnLanesx7
import Derived.Test.YthkbjcihelmaeaaQFnLanesx8
import Derived.Test.YthkbjcihelmaeaaQFnLanesx9
import Derived.Test.YthkbjcihelmaeaaQFnLanesx15
namespace Go.Proofs.Ythkbjcihelmaeaa.QFnLanes
open Go.RowKit Go.Proofs.YthkbjcihelmaeaaW.PrintWords Go.Proofs.YthkbjcihelmaeaaW.PrintLast Go.Proofs.YthkbjcihelmaeaaW.PrintMore Go.Proofs.Ythkbjcihelmaeaa.Short
attribute [local go_sem] max2_int min2_int max_two min_two max_three min_three max_four min_four   -- for this text's walks alone
set_option linter.unusedVariables false
set_option linter.unusedSimpArgs false

section
open Kd
set_option maxHeartbeats 8000000 in
set_option maxRecDepth 1000000 in
theorem laws_FnLanes.rest2 {k : Nat} {A0 : Option Addr} {c0 : Nat} {l0 : List Int} {r : Bool} {w : World} {t401 t404 : List Int} {t405 : Int} {t406 : Bool} {t410 : Int} {t411 : Bool} {Ao9 : Option Addr} {co9 : Nat} {v407 v412 : Value} {kj6 : Nat} {t416 : Int} {t417 : Bool} {t418 : Int} {t419 : Bool} {wc : World} {u49 u50 u51 u52 u53 u54 u55 u56 u57 u58 u59 u60 u61 u62 u63 u64 u65 u66 u67 u68 u69 u70 u71 u72 u73 u74 u75 u76 u77 u78 u79 u80 u81 u82 u83 u84 u85 u86 u87 u88 u89 u90 u91 u92 u93 u94 u95 u96 u97 u98 u99 u100 u101 u102 u103 u104 u105 u106 u108 u109 u110 u111 u112 u113 u114 u115 u116 u117 u118 u119 u120 u121 u122 u123 u124 u125 u126 u127 u128 u129 u130 u131 u132 u133 u134 u135 u136 u137 u138 u139 u140 u141 u142 u143 u144 u145 u146 u147 u148 u149 u150 u151 u152 u153 u154 u155 u156 u157 u158 u159 u160 u161 u162 u163 u164 u165 u166 u167 u168 u169 u170 u171 u172 u173 u174 u175 u176 u177 u178 u179 u180 u181 u182 u183 u184 u185 u186 u187 u188 u189 u190 u191 u192 u193 u194 u195 u196 u197 u198 u199 u200 u201 u202 u203 u204 u205 u206 u207 u208 u209 u210 u211 u212 u213 u214 u215 u216 u217 u218 u219 u220 u221 u222 u223 u224 u225 u226 u227 u228 u229 u230 u231 u232 u233 u234 u235 u236 u237 u238 u239 u240 u241 u242 u243 u244 u245 u246 u247 u248 u249 u250 u251 u252 u253 u254 u255 u256 u257 u258 u259 u260 u261 u262 u263 u264 u265 u266 u267 u268 u269 u270 u271 u272 u273 u274 u275 u276 u277 u278 u279 u280 u281 u282 u283 u284 u285 u286 u287 u288 u289 u290 u291 u292 u293 u294 u295 u296 u297 u298 u299 u300 u301 u302 u303 u304 u305 u306 u307 u308 u309 u310 u311 u312 u313 u314 u315 u316 u317 u318 u319 u320 u321 u322 u323 u324 u325 u326 u327 u328 u329 u330 u331 u332 u333 u334 u335 u336 u337 u338 u339 u340 u341 u342 u343 u344 u345 u346 u347 u348 u349 u350 u351 u352 u353 u354 u355 u356 u357 u358 u359 u360 u361 u362 u363 u364 u365 u366 u367 u368 u369 u370 u371 u372 u373 u374 u375 u376 u377 u378 u379 u380 u381 u382 u383 u384 u385 : Value} {kj21 : Nat} {K1 K : Act → World → Prop} (hK1 : ∀ a w_, Code.wp Try.prog (follow [true, true, true, true, true, true, true] (Try.f12.body.getD Code.skip)) (bodyPost Try.prog Try.f12 fun e w' => e = Ending.returned (Value.bool r) ∧ Below w.heap.size w w') a w_ → K1 a w_) (hK : ∀ a w_, Code.wp Try.prog (follow [true, true, true, true, true, true, false, true, true] (Try.f12.body.getD Code.skip)) (Exit.then K1 (bodyPost Try.prog Try.f12 fun e w' => e = Ending.returned (Value.bool r) ∧ Below w.heap.size w w')) a w_ → K a w_) (HR0 : Aside0 ((int IntKind.u8).C w A0 l0.length l0)) (HC0 : Aside0 (l0.length ≤ c0)) (HJ6 : Aside0 (kj6 + 1 ≤ k)) (HO_3 : Aside0 ((int IntKind.i64).R 3 wc w.heap.size (fun k_ => some k_ ≠ v407.ownBlock) (Value.slice Ao9 t401.length co9) t401)) (HO_4 : Aside0 ((int IntKind.i64).R 3 wc w.heap.size (fun k_ => some k_ ≠ (Value.slice Ao9 t401.length co9).ownBlock) v407 t404)) (HB : Aside0 (Below w.heap.size w wc)) (HJ21 : Aside0 (kj21 + 1 ≤ kj6)) (H : ((impl_CalmTurn.f kj21 t401).bind fun bt420 => (spec_CalmTurn.f kj21 t401).bind fun bt422 => if bt420.fst = bt422.fst then if (bt420.snd != bt422.snd) = true then j2 kj21 l0 t401 t404 t405 t406 bt420.fst true else j2 kj21 l0 t401 t404 t405 t406 bt420.fst (bt420.snd != t406) else j2 kj21 l0 t401 t404 t405 t406 bt420.fst true) = some r) :
  K { tmps := #[Value.slice A0 l0.length c0, undef, Value.bool false, Value.slice Ao9 t401.length co9, v407, Value.int IntKind.i64 t405, Value.bool t406, v412, Value.int IntKind.i64 t410, Value.bool t411, Value.int IntKind.i64 t416, Value.bool t417, Value.int IntKind.i64 t418, Value.bool t419, undef, undef, undef, undef, undef, undef, undef, undef, undef, undef, undef, undef, undef, undef, undef, undef, undef, undef, undef, undef, undef, undef, undef, undef, undef, undef, undef, undef, undef, undef, undef, undef, undef, undef, undef, u49, u50, u51, u52, u53, u54, u55, u56, u57, u58, u59, u60, u61, u62, u63, u64, u65, u66, u67, u68, u69, u70, u71, u72, u73, u74, u75, u76, u77, u78, u79, u80, u81, u82, u83, u84, u85, u86, u87, u88, u89, u90, u91, u92, u93, u94, u95, u96, u97, u98, u99, u100, u101, u102, u103, u104, u105, u106, Value.bool false, u108, u109, u110, u111, u112, u113, u114, u115, u116, u117, u118, u119, u120, u121, u122, u123, u124, u125, u126, u127, u128, u129, u130, u131, u132, u133, u134, u135, u136, u137, u138, u139, u140, u141, u142, u143, u144, u145, u146, u147, u148, u149, u150, u151, u152, u153, u154, u155, u156, u157, u158, u159, u160, u161, u162, u163, u164, u165, u166, u167, u168, u169, u170, u171, u172, u173, u174, u175, u176, u177, u178, u179, u180, u181, u182, u183, u184, u185, u186, u187, u188, u189, u190, u191, u192, u193, u194, u195, u196, u197, u198, u199, u200, u201, u202, u203, u204, u205, u206, u207, u208, u209, u210, u211, u212, u213, u214, u215, u216, u217, u218, u219, u220, u221, u222, u223, u224, u225, u226, u227, u228, u229, u230, u231, u232, u233, u234, u235, u236, u237, u238, u239, u240, u241, u242, u243, u244, u245, u246, u247, u248, u249, u250, u251, u252, u253, u254, u255, u256, u257, u258, u259, u260, u261, u262, u263, u264, u265, u266, u267, u268, u269, u270, u271, u272, u273, u274, u275, u276, u277, u278, u279, u280, u281, u282, u283, u284, u285, u286, u287, u288, u289, u290, u291, u292, u293, u294, u295, u296, u297, u298, u299, u300, u301, u302, u303, u304, u305, u306, u307, u308, u309, u310, u311, u312, u313, u314, u315, u316, u317, u318, u319, u320, u321, u322, u323, u324, u325, u326, u327, u328, u329, u330, u331, u332, u333, u334, u335, u336, u337, u338, u339, u340, u341, u342, u343, u344, u345, u346, u347, u348, u349, u350, u351, u352, u353, u354, u355, u356, u357, u358, u359, u360, u361, u362, u363, u364, u365, u366, u367, u368, u369, u370, u371, u372, u373, u374, u375, u376, u377, u378, u379, u380, u381, u382, u383, u384, u385], defers := [] } wc := by
 conv at hK1 => enter [a, w_, 1, 2]; whnf
 conv at hK => enter [a, w_, 1, 2]; whnf
 replace H:=Option.bind_eq_some_iff.mp H
 obtain ⟨⟨t420,t421⟩,A270,H⟩:=H
 replace H : ((spec_CalmTurn.f kj21 t401).bind fun bt422=>(if t420 = bt422.1 then (if (t421 != bt422.2) = true then (laws_FnLanes.j2 kj21 l0 t401 t404 t405 t406 t420 true) else (laws_FnLanes.j2 kj21 l0 t401 t404 t405 t406 t420 (t421 != t406))) else (laws_FnLanes.j2 kj21 l0 t401 t404 t405 t406 t420 true))) = some r:=H
 have A27:=Aside0.mk A270
 clear A270
 replace H:=Option.bind_eq_some_iff.mp H
 obtain ⟨⟨t422,t423⟩,A280,H⟩:=H
 replace H : (if t420 = t422 then (if (t421 != t423) = true then (laws_FnLanes.j2 kj21 l0 t401 t404 t405 t406 t420 true) else (laws_FnLanes.j2 kj21 l0 t401 t404 t405 t406 t420 (t421 != t406))) else (laws_FnLanes.j2 kj21 l0 t401 t404 t405 t406 t420 true)) = some r:=H
 have A28:=Aside0.mk A280
 clear A280
 have HC29:=Aside0.mk H
 clear H
 go_upto_region 14 with (first|(go_at_call 32;(with_reducible refine (impl_CalmTurn.calls kj21 (fun k_=>some k_ = (.slice Ao9 t401.length co9 : Value).ownBlock) _ _ t401 t420 t421 _ ?side1 A27.out).mono ?_);(case side1=>exact R_V (R_tight rfl (HO_3.out)));rintro e w30 ⟨rfl,hb⟩;have n0_:=Aside0.mk (R_below (rm HO_3.out) hb);have n1_:=Aside0.mk (R_below (rm HO_4.out) hb);have n2_:=Aside0.mk (below_step (hm HB.out) hb);clear HO_3;clear HO_4;clear HB;have HO_3:=n0_;have HO_4:=n1_;have HB:=n2_;clear n0_ n1_ n2_;(try clear hb);(try clear hb2);(try clear hk);(try clear hi))|(go_at_call 31;(with_reducible refine (spec_CalmTurn.calls kj21 _ _ t401 t422 t423 _ ?side1 ?side2 A28.out).mono ?_);(case side1=>exact cm (R_reads' HO_3.out).2.2);(case side2=>exact (R_reads' HO_3.out).2.1);rintro e w31 ⟨rfl,hb⟩;have n0_:=Aside0.mk (R_below (rm HO_3.out) hb);have n1_:=Aside0.mk (R_below (rm HO_4.out) hb);have n2_:=Aside0.mk (below_step (hm HB.out) hb);clear HO_3;clear HO_4;clear HB;have HO_3:=n0_;have HO_4:=n1_;have HB:=n2_;clear n0_ n1_ n2_;(try clear hb);(try clear hb2);(try clear hk);(try clear hi)))
 repeat (go_quiet (fail);go_upto_region 14 with (first|(go_at_call 32;(with_reducible refine (impl_CalmTurn.calls kj21 (fun k_=>some k_ = (.slice Ao9 t401.length co9 : Value).ownBlock) _ _ t401 t420 t421 _ ?side1 A27.out).mono ?_);(case side1=>exact R_V (R_tight rfl (HO_3.out)));rintro e w30 ⟨rfl,hb⟩;have n0_:=Aside0.mk (R_below (rm HO_3.out) hb);have n1_:=Aside0.mk (R_below (rm HO_4.out) hb);have n2_:=Aside0.mk (below_step (hm HB.out) hb);clear HO_3;clear HO_4;clear HB;have HO_3:=n0_;have HO_4:=n1_;have HB:=n2_;clear n0_ n1_ n2_;(try clear hb);(try clear hb2);(try clear hk);(try clear hi))|(go_at_call 31;(with_reducible refine (spec_CalmTurn.calls kj21 _ _ t401 t422 t423 _ ?side1 ?side2 A28.out).mono ?_);(case side1=>exact cm (R_reads' HO_3.out).2.2);(case side2=>exact (R_reads' HO_3.out).2.1);rintro e w31 ⟨rfl,hb⟩;have n0_:=Aside0.mk (R_below (rm HO_3.out) hb);have n1_:=Aside0.mk (R_below (rm HO_4.out) hb);have n2_:=Aside0.mk (below_step (hm HB.out) hb);clear HO_3;clear HO_4;clear HB;have HO_3:=n0_;have HO_4:=n1_;have HB:=n2_;clear n0_ n1_ n2_;(try clear hb);(try clear hb2);(try clear hk);(try clear hi))))
 (try simp only [ap])
 go_cut [130] (fun v130 wc=>∃ (kq : Nat) (x130_28 : Bool),v130 = .bool x130_28 ∧ Aside0 (laws_FnLanes.j2 kq l0 t401 t404 t405 t406 t420 x130_28 = some r) ∧ Aside0 (kq ≤ kj21) ∧ Aside0 (Kd.R (Kd.int .i64) 3 wc w.heap.size (fun k_=>some k_ ≠ (v407 : Value).ownBlock) (.slice Ao9 t401.length co9) t401) ∧ Aside0 (Kd.R (Kd.int .i64) 3 wc w.heap.size (fun k_=>some k_ ≠ ((.slice Ao9 t401.length co9) : Value).ownBlock) v407 t404) ∧ Aside0 (Below w.heap.size w wc))
 case first =>
  have H:=HC29.out
  clear HC29
  by_cases c32 : t420 = t422
  rotate_left
  ·rw [if_neg c32] at H
   have c32b0 : (t420 == t422) = false:=beq_eq_false_iff_ne.mpr c32
   have c32b1 : (t420 != t422) = true:=bne_iff_ne.mpr c32
   (first|rw [c32b0]|(simp only [i64_w,i32_w];rw [c32b0])|skip)
   as_aux_lemma =>
    have H':=Aside0.mk H
    clear H
    go_wp2
    repeat (go_quiet (fail);try go_wp2)
    go_meet
    case rel=>exact ⟨_,(true),(by first|rfl|(simp;done)|(simp [*];done)),H',⟨by have:=HJ6.out;have:=HJ21.out;first|omega|exact Nat.le_refl _⟩,⟨rm HO_3.out⟩,⟨rm HO_4.out⟩,⟨hm HB.out⟩⟩
  rw [if_pos c32] at H
  have c32b0 : (t420 == t422) = true:=beq_iff_eq.mpr c32
  have c32b1 : (t420 != t422) = false:=bne_eq_false_iff_eq.mpr c32
  clear c32
  (first|rw [c32b0]|(simp only [i64_w,i32_w];rw [c32b0])|skip)
  by_cases c33 : (t421 != t423) = true
  rotate_left
  ·rw [if_neg c33] at H
   have c33b0 : (t421 != t423) = false:=by simpa using c33
   (try (have c33b1 : decide (t421 = t423) = true:=by simpa using c33))
   (try (have c33b2 : (t421 == t423) = true:=by simpa using c33))
   clear c33
   as_aux_lemma =>
    have H':=Aside0.mk H
    clear H
    go_wp2
    repeat (go_quiet (fail);try go_wp2)
    go_meet
    case rel=>exact ⟨_,((t421 != t406)),(by first|rfl|(simp;done)|(simp [*];done)),H',⟨by have:=HJ6.out;have:=HJ21.out;first|omega|exact Nat.le_refl _⟩,⟨rm HO_3.out⟩,⟨rm HO_4.out⟩,⟨hm HB.out⟩⟩
  rw [if_pos c33] at H
  have c33b0 : (t421 != t423) = true:=c33
  (try (have c33b1 : decide (t421 = t423) = false:=by simpa using c33))
  (try (have c33b2 : (t421 == t423) = false:=by simpa using c33))
  (try (have c33b3 : ¬ (t421 = t423):=by simpa using c33))
  clear c33
  as_aux_lemma =>
   have H':=Aside0.mk H
   clear H
   go_wp2
   repeat (go_quiet (fail);try go_wp2)
   go_meet
   case rel=>exact ⟨_,(true),(by first|rfl|(simp;done)|(simp [*];done)),H',⟨by have:=HJ6.out;have:=HJ21.out;first|omega|exact Nat.le_refl _⟩,⟨rm HO_3.out⟩,⟨rm HO_4.out⟩,⟨hm HB.out⟩⟩
 clear HC29
 try clear c1
 try clear c2
 try clear p2
 try clear c3
 try clear c12
 try clear c12b0
 try clear c12b1
 try clear c13
 try clear c13b0
 try clear c13b1
 try clear c13b2
 try clear c15
 try clear c15b0
 try clear c15b1
 try clear c15b2
 try clear c19
 try clear c24
 try clear c24b0
 try clear c24b1
 try clear c25
 try clear c25b0
 try clear c25b1
 try clear c25b2
 try clear c26
 try clear c32
 try clear c32b0
 try clear c32b1
 try clear c33
 try clear c33b0
 try clear c33b1
 try clear c33b2
 try clear p2
 obtain ⟨kq,x130_28,rfl,HA,HJ28,HO_3,HO_4,HB⟩:=hcut
 cases kq with
 | zero=>exact absurd HA.out (by simp [laws_FnLanes.j2])
 | succ kj28 =>
  have H:=HA.out
  clear HA
  simp only [laws_FnLanes.j2] at H
  by_cases c34 : x130_28 = true
  ·subst c34
   have H1 : (some false) = some r:=by rw [if_pos rfl] at H;exact H
   clear H
   have H:=H1
   clear H1
   as_aux_lemma =>
    obtain rfl:=Option.some.inj H
    go_wp2
    repeat (go_quiet (fail);try go_wp2)
    go_ret
    exact ⟨by first|rfl|(simp [errW_none,errW_some] <;> rfl)|(simp [*,errW_none,errW_some] <;> rfl),hm HB.out⟩
  replace c34:=Bool.eq_false_iff.mpr c34
  subst c34
  have H1 : ((impl_TurnAround.f kj28 t401).bind fun bt424=>((spec_TurnAround.f kj28 t401).bind fun bt428=>(if (bt424.2 != bt428.2) = true then (laws_FnLanes.j3 kj28 l0 t401 t404 t405 t406 t420 bt424.1 true) else (if (bt424.2 != t406) = true then (laws_FnLanes.j3 kj28 l0 t401 t404 t405 t406 t420 bt424.1 true) else ((laws_rInts.f kj28 bt424.1 bt428.1).bind fun t432=>(laws_FnLanes.j3 kj28 l0 t401 t404 t405 t406 t420 bt424.1 (!t432))))))) = some r:=by rw [if_neg (show ¬ (false = true) by decide)] at H;exact H
  clear H
  have H:=H1
  clear H1
  exact laws_FnLanes.rest3 (by assumption) (by assumption) HR0 HC0 HJ6 HJ21 HO_3 HO_4 HB HJ28 H
end
end Go.Proofs.Ythkbjcihelmaeaa.QFnLanes
