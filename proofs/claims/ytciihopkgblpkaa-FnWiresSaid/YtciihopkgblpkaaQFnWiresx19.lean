/- Functions that the law FnWires comes to, and their walks: no condition but those named. -/
import Derived.Test.YtciihopkgblpkaaQFnWiresx0
import Derived.Test.YtciihopkgblpkaaQFnWiresx1
import Derived.Test.YtciihopkgblpkaaQFnWiresx3
import Derived.Test.YtciihopkgblpkaaQFnWiresx4
import Derived.Test.YtciihopkgblpkaaQFnWiresx5
import Derived.Test.YtciihopkgblpkaaQFnWiresx6
import Derived.Test.YtciihopkgblpkaaQFnWiresx7
import Derived.Test.YtciihopkgblpkaaQFnWiresx9
import Derived.Test.YtciihopkgblpkaaQFnWiresx10
import Derived.Test.YtciihopkgblpkaaQFnWiresx11
import Derived.Test.YtciihopkgblpkaaQFnWiresx14
import Derived.Test.YtciihopkgblpkaaQFnWiresx15
import Derived.Test.YtciihopkgblpkaaQFnWiresx18
namespace Go.Proofs.Ytciihopkgblpkaa.QFnWires
open Go.RowKit Go.Proofs.YtciihopkgblpkaaW.PrintWords Go.Proofs.YtciihopkgblpkaaW.PrintLast Go.Proofs.YtciihopkgblpkaaW.PrintMore Go.Proofs.Ytciihopkgblpkaa.Short
attribute [local go_sem] max2_int min2_int max_two min_two max_three min_three max_four min_four
set_option linter.unusedVariables false
set_option linter.unusedSimpArgs false

section
open Kd
set_option maxHeartbeats 8000000 in
set_option maxRecDepth 1000000 in
theorem laws_FnWires.rest4 {k : Nat} {A0 : Option Addr} {c0 : Nat} {l0 : List Int} {r : Bool} {w : World} {t520 : Int} {t521 t524 t528 t531 : List Int} {t534 t541 : Bool} {gb527 : Nat} {Ao11 : Option Addr} {co11 : Nat} {Ao12 : Option Addr} {co12 : Nat} {v529 v532 v536 v539 : Value} {kj6 : Nat} {t545 : List Int} {t548 t552 : Bool} {v546 v550 : Value} {kj36 : Nat} {t554 : Int} {t555 : Bool} {t556 : Int} {t557 : Bool} {kj49 : Nat} {t558 : Int} {t559 : Bool} {t560 : Int} {t561 : Bool} {wc : World} {u47 u48 u49 u50 u51 u52 u53 u54 u55 u56 u57 u58 u59 u60 u61 u62 u63 u64 u65 u66 u67 u68 u69 u70 u71 u72 u73 u74 u75 u76 u77 u78 u79 u80 u81 u82 u83 u84 u85 u86 u87 u88 u89 u90 u91 u92 u93 u94 u95 u96 u97 u98 u99 u100 u101 u102 u103 u104 u105 u106 u107 u108 u109 u110 u111 u112 u113 u114 u115 u116 u117 u118 u119 u120 u121 u122 u123 u124 u125 u126 u127 u128 u129 u130 u131 u132 u133 u134 u135 u136 u137 u138 u139 u140 u141 u142 u143 u144 u145 u146 u147 u148 u149 u150 u151 u152 u154 u155 u156 u157 u158 u159 u160 u161 u162 u163 u164 u165 u166 u167 u168 u169 u170 u171 u172 u173 u174 u175 u176 u177 u178 u179 u180 u181 u182 u183 u184 u185 u186 u187 u188 u189 u190 u191 u192 u193 u194 u195 u196 u197 u198 u199 u200 u201 u202 u203 u204 u205 u206 u207 u208 u209 u210 u211 u212 u213 u214 u215 u216 u217 u218 u219 u220 u221 u222 u223 u224 u225 u226 u227 u228 u229 u230 u231 u232 u233 u234 u235 u236 u237 u238 u239 u240 u241 u242 u243 u244 u245 u246 u247 u248 u249 u250 u251 u252 u253 u254 u255 u256 u257 u258 u259 u260 u261 u262 u263 u264 u265 u266 u267 u268 u269 u270 u271 u272 u273 u274 u275 u276 u277 u278 u279 u280 u281 u282 u283 u284 u285 u286 u287 u288 u289 u290 u291 u292 u293 u294 u295 u296 u297 u298 u299 u300 u301 u302 u303 u304 u305 u306 u307 u308 u309 u310 u311 u312 u313 u314 u315 u316 u317 u318 u319 u320 u321 u322 u323 u324 u325 u326 u327 u328 u329 u330 u331 u332 u333 u334 u335 u336 u337 u338 u339 u340 u341 u342 u343 u344 u345 u346 u347 u348 u349 u350 u351 u352 u353 u354 u355 u356 u357 u358 u359 u360 u361 u362 u363 u364 u365 u366 u367 u368 u369 u370 u371 u372 u373 u374 u375 u376 u377 u378 u379 u380 u381 : Value} {kj59 : Nat} {K1 K : Act → World → Prop} (hK1 : ∀ a w_, Code.wp Try.prog (follow [true, true, true, true, true, true, true, true, true, true, true] (Try.f10.body.getD Code.skip)) (bodyPost Try.prog Try.f10 fun e w' => e = Ending.returned (Value.bool r) ∧ Below w.heap.size w w') a w_ → K1 a w_) (hK : ∀ a w_, Code.wp Try.prog (follow [true, true, true, true, true, true, true, true, true, true, false, true, true] (Try.f10.body.getD Code.skip)) (Exit.then K1 (bodyPost Try.prog Try.f10 fun e w' => e = Ending.returned (Value.bool r) ∧ Below w.heap.size w w')) a w_ → K a w_) (HR0 : Aside0 ((int IntKind.u8).C w A0 l0.length l0)) (HC0 : Aside0 (l0.length ≤ c0)) (GE527 : Aside0 (w.heap.size ≤ gb527)) (HJ6 : Aside0 (kj6 + 1 ≤ k)) (HJ36 : Aside0 (kj36 + 1 ≤ kj6)) (HJ49 : Aside0 (kj49 + 1 ≤ kj36)) (HO_4 : Aside0 ((int IntKind.i64).R 3 wc w.heap.size (fun k_ => ob k_ v532 ∧ ob k_ v546 ∧ ob k_ (.slice Ao11 t521.length co11) ∧ ob k_ (.slice Ao12 t524.length co12)) v529 t528)) (HO_5 : Aside0 ((int IntKind.i64).R 3 wc w.heap.size (fun k_ => ob k_ v529 ∧ ob k_ v546 ∧ ob k_ (.slice Ao11 t521.length co11) ∧ ob k_ (.slice Ao12 t524.length co12)) v532 t531)) (HO_10 : Aside0 ((int IntKind.i64).R 3 wc w.heap.size (fun k_ => ob k_ v529 ∧ ob k_ v532 ∧ ob k_ (.slice Ao11 t521.length co11) ∧ ob k_ (.slice Ao12 t524.length co12)) v546 t545)) (HO_528001 : Aside0 ((int IntKind.i64).R 3 wc w.heap.size (fun k_ => ob k_ v529 ∧ ob k_ v532 ∧ ob k_ v546 ∧ ob k_ (.slice Ao12 t524.length co12)) (Value.slice Ao11 t521.length co11) t521)) (HO_528002 : Aside0 ((int IntKind.i64).R 3 wc w.heap.size (fun k_ => ob k_ v529 ∧ ob k_ v532 ∧ ob k_ v546 ∧ ob k_ (.slice Ao11 t521.length co11)) (Value.slice Ao12 t524.length co12) t524)) (BK527 : Aside0 (wc.heap[gb527]? = some (Obj.cells #[Value.int IntKind.i64 t520, Value.slice Ao11 t521.length co11, Value.slice Ao12 t524.length co12] 27))) (HB : Aside0 (Below w.heap.size w wc)) (HJ59 : Aside0 (kj59 + 1 ≤ kj49)) (H : ((impl_MirrorWire.f kj59 t520 t521 t524).bind fun bt562 => (spec_MirrorWire.f kj59 t520 t521 t524).bind fun bt571 => if (bt562.snd.snd.snd != bt571.snd.snd.snd) = true then j4 kj59 l0 t528 t531 t534 t545 t554 t558 true t520 t521 t524 bt562.fst bt562.snd.fst bt562.snd.snd.fst else if (bt562.snd.snd.snd != t534) = true then j4 kj59 l0 t528 t531 t534 t545 t554 t558 true t520 t521 t524 bt562.fst bt562.snd.fst bt562.snd.snd.fst else (laws_rWire.f kj59 bt562.fst bt562.snd.fst bt562.snd.snd.fst bt571.fst bt571.snd.fst bt571.snd.snd.fst).bind fun t580 => j4 kj59 l0 t528 t531 t534 t545 t554 t558 (!t580) t520 t521 t524 bt562.fst bt562.snd.fst bt562.snd.snd.fst) = some r) :
  K { tmps := #[Value.slice A0 l0.length c0, undef, Value.bool false, Value.pointer (some { block := gb527, off := 0 }), v529, v532, Value.bool t534, v536, v539, Value.bool t541, v546, Value.bool t548, v550, Value.bool t552, Value.int IntKind.i64 t554, Value.bool t555, Value.int IntKind.i64 t556, Value.bool t557, Value.int IntKind.i64 t558, Value.bool t559, Value.int IntKind.i64 t560, Value.bool t561, undef, undef, undef, undef, undef, undef, undef, undef, undef, undef, undef, undef, undef, undef, undef, undef, undef, undef, undef, undef, undef, undef, undef, undef, undef, u47, u48, u49, u50, u51, u52, u53, u54, u55, u56, u57, u58, u59, u60, u61, u62, u63, u64, u65, u66, u67, u68, u69, u70, u71, u72, u73, u74, u75, u76, u77, u78, u79, u80, u81, u82, u83, u84, u85, u86, u87, u88, u89, u90, u91, u92, u93, u94, u95, u96, u97, u98, u99, u100, u101, u102, u103, u104, u105, u106, u107, u108, u109, u110, u111, u112, u113, u114, u115, u116, u117, u118, u119, u120, u121, u122, u123, u124, u125, u126, u127, u128, u129, u130, u131, u132, u133, u134, u135, u136, u137, u138, u139, u140, u141, u142, u143, u144, u145, u146, u147, u148, u149, u150, u151, u152, Value.bool false, u154, u155, u156, u157, u158, u159, u160, u161, u162, u163, u164, u165, u166, u167, u168, u169, u170, u171, u172, u173, u174, u175, u176, u177, u178, u179, u180, u181, u182, u183, u184, u185, u186, u187, u188, u189, u190, u191, u192, u193, u194, u195, u196, u197, u198, u199, u200, u201, u202, u203, u204, u205, u206, u207, u208, u209, u210, u211, u212, u213, u214, u215, u216, u217, u218, u219, u220, u221, u222, u223, u224, u225, u226, u227, u228, u229, u230, u231, u232, u233, u234, u235, u236, u237, u238, u239, u240, u241, u242, u243, u244, u245, u246, u247, u248, u249, u250, u251, u252, u253, u254, u255, u256, u257, u258, u259, u260, u261, u262, u263, u264, u265, u266, u267, u268, u269, u270, u271, u272, u273, u274, u275, u276, u277, u278, u279, u280, u281, u282, u283, u284, u285, u286, u287, u288, u289, u290, u291, u292, u293, u294, u295, u296, u297, u298, u299, u300, u301, u302, u303, u304, u305, u306, u307, u308, u309, u310, u311, u312, u313, u314, u315, u316, u317, u318, u319, u320, u321, u322, u323, u324, u325, u326, u327, u328, u329, u330, u331, u332, u333, u334, u335, u336, u337, u338, u339, u340, u341, u342, u343, u344, u345, u346, u347, u348, u349, u350, u351, u352, u353, u354, u355, u356, u357, u358, u359, u360, u361, u362, u363, u364, u365, u366, u367, u368, u369, u370, u371, u372, u373, u374, u375, u376, u377, u378, u379, u380, u381], defers := [] } wc := by
 have hu27:=Try.underlying27
 conv at hK1 => enter [a, w_, 1, 2]; whnf
 conv at hK => enter [a, w_, 1, 2]; whnf
 obtain ⟨⟨t562,t563,t566,t569⟩,A68,H⟩:=bd H;(try dsimp only at H)
 obtain ⟨⟨t571,t572,t575,t578⟩,A69,H⟩:=bd H;(try dsimp only at H)
 have HC70:=Aside0.mk H
 clear H
 have hcz71_0:=bc BK527 0 rfl
 have hcz71_1:=bc BK527 1 rfl
 have hcz71_2:=bc BK527 2 rfl
 have hfz71_0:=bf BK527 0
 have hfz71_1:=bf BK527 1
 have hfz71_2:=bf BK527 2
 have go_:=trivial;repeat ((first|clear go_|go_quiet (fail));go_upto_region 22 with (first|(go_at_call 27;(with_reducible refine (impl_MirrorWire.calls kj59 t520 _ _ t521 _ _ t524 t562 t563 t566 t569 _ ?side1 ?side2 ?side3 ?side4 A68.out).mono ?_);(case side1=>exact cm (R_reads' HO_528001.out).2.2);(case side2=>exact (R_reads' HO_528001.out).2.1);(case side3=>exact cm (R_reads' HO_528002.out).2.2);(case side4=>exact (R_reads' HO_528002.out).2.1);rintro e w72 ⟨v564,v567,rfl,ho0,ho1,hb⟩;have HO565:=ak (R_lower (R_new' (R_new' (R_new' (R_new' (R_new' ho0 (R_lt (rm HO_4.out))) (R_lt (rm HO_5.out))) (R_lt (rm HO_10.out))) (R_lt (rm HO_528001.out))) (R_lt (rm HO_528002.out))) (below_size (h1 HB.out GE527.out)));have HO568:=ak (R_lower (R_new' (R_new' (R_new' (R_new' (R_new' ho1 (R_lt (rm HO_4.out))) (R_lt (rm HO_5.out))) (R_lt (rm HO_10.out))) (R_lt (rm HO_528001.out))) (R_lt (rm HO_528002.out))) (below_size (h1 HB.out GE527.out)));replace HO_4:=ak (R_mono (R_told (R_told (R_old (rm HO_4.out) hb) (R_base ho0)) (R_base ho1)) (fun _ h_=>h_.1));replace HO_5:=ak (R_mono (R_told (R_told (R_old (rm HO_5.out) hb) (R_base ho0)) (R_base ho1)) (fun _ h_=>h_.1));replace HO_10:=ak (R_mono (R_told (R_told (R_old (rm HO_10.out) hb) (R_base ho0)) (R_base ho1)) (fun _ h_=>h_.1));replace HO_528001:=ak (R_mono (R_told (R_told (R_old (rm HO_528001.out) hb) (R_base ho0)) (R_base ho1)) (fun _ h_=>h_.1));replace HO_528002:=ak (R_mono (R_told (R_told (R_old (rm HO_528002.out) hb) (R_base ho0)) (R_base ho1)) (fun _ h_=>h_.1));replace BK527:=kb BK527 hb;replace HB:=ak (below_step (h1 HB.out GE527.out) hb);(try clear hb);(try clear hk);(try clear hi);(try clear ho0);(try clear ho1))|((with_reducible refine gate_dst (N:=22) rfl ?_);(try (refine gate_guard (by rfl) ?_;dsimp only));refine box_event ?hg (N:=22) ?hd (cs:=#[.int .i64 0,.slice none 0 0,.slice none 0 0]) (t:=27) ?hr ?_;(case hd=>rfl);(case hg=>rfl);(case hr=>first|(go_simp;done)|(go_simp;rfl));intro gb570 hg w73 hbox hb;replace HO_4:=rb HO_4 hb;replace HO_5:=rb HO_5 hb;replace HO_10:=rb HO_10 hb;replace HO_528001:=rb HO_528001 hb;replace HO_528002:=rb HO_528002 hb;replace HO565:=rb HO565 hb;replace HO568:=rb HO568 hb;have BK570:=ak hbox;have GW570:=ak ((by rw [hg];exact (below_size (h1 HB.out GE527.out)) : w.heap.size ≤ gb570));have GE570:=ak ((by rw [hg];exact (below_size (h1 HB.out GE527.out)) : w.heap.size ≤ gb570));replace HB:=ak (below_step (h1 HB.out GE527.out) hb);have NB527_570:=nl BK527 hg;have NB570_527:=ng BK527 hg;replace BK527:=kb BK527 hb;clear hb hbox hg;have hnb74:=NB570_527.out;have hnc74:=NB527_570.out;have hcz75_0:=bc BK570 0 rfl;have hcz75_1:=bc BK570 1 rfl;have hcz75_2:=bc BK570 2 rfl;have hfz75_0:=bf BK570 0;have hfz75_1:=bf BK570 1;have hfz75_2:=bf BK570 2;obtain ⟨Ao76,co76,eo76⟩:=R_slice HO565.out;subst eo76;obtain ⟨Ao77,co77,eo77⟩:=R_slice HO568.out;subst eo77;have hcz78_0:=bc BK527 0 rfl;have hcz78_1:=bc BK527 1 rfl;have hcz78_2:=bc BK527 2 rfl;have hfz78_0:=bf BK527 0;have hfz78_1:=bf BK527 1;have hfz78_2:=bf BK527 2)|(go_at_call 26;(with_reducible refine (spec_MirrorWire.calls kj59 t520 _ _ t521 _ _ t524 t571 t572 t575 t578 _ ?side1 ?side2 ?side3 ?side4 A69.out).mono ?_);(case side1=>refine (R_reads' (e:=3) (base:=w.heap.size) (ok:=fun k_=>(((ob k_ v529 ∧ (ob k_ v532 ∧ (ob k_ v546 ∧ ob k_ (.slice Ao12 t524.length co12)))) ∧ ob k_ (.slice Ao76 t563.length co76)) ∧ ob k_ (.slice Ao77 t566.length co77))) (n:=t521.length) (c:=co11) ?_).2.2;exact (by (with_reducible repeat (first|apply R_alloc|apply R_drewN|apply R_drew));exact (R_mono (R_far (p:=⟨gb570,2,none⟩) (R_far (p:=⟨gb570,1,none⟩) (R_far (p:=⟨gb570,0,none⟩) (R_types HO_528001.out BK570.out (by decide)) (fun _ hk=>hk.2) (.int .i64 t562)) (fun _ hk=>hk.2) (.slice Ao76 t563.length co76)) (fun _ hk=>hk.2) (.slice Ao77 t566.length co77)) (fun _ h_=>h_.1))));(case side2=>exact (R_reads' HO_528001.out).2.1);(case side3=>refine (R_reads' (e:=3) (base:=w.heap.size) (ok:=fun k_=>(((ob k_ v529 ∧ (ob k_ v532 ∧ (ob k_ v546 ∧ ob k_ (.slice Ao11 t521.length co11)))) ∧ ob k_ (.slice Ao76 t563.length co76)) ∧ ob k_ (.slice Ao77 t566.length co77))) (n:=t524.length) (c:=co12) ?_).2.2;exact (by (with_reducible repeat (first|apply R_alloc|apply R_drewN|apply R_drew));exact (R_mono (R_far (p:=⟨gb570,2,none⟩) (R_far (p:=⟨gb570,1,none⟩) (R_far (p:=⟨gb570,0,none⟩) (R_types HO_528002.out BK570.out (by decide)) (fun _ hk=>hk.2) (.int .i64 t562)) (fun _ hk=>hk.2) (.slice Ao76 t563.length co76)) (fun _ hk=>hk.2) (.slice Ao77 t566.length co77)) (fun _ h_=>h_.1))));(case side4=>exact (R_reads' HO_528002.out).2.1);rintro e w79 ⟨v573,v576,rfl,ho0,ho1,hb⟩;have HO574:=ak (R_lower (R_new' (R_new' (R_new' (R_new' (R_new' (R_new' (R_new' ho0 (R_lt (by (with_reducible repeat (first|apply R_alloc|apply R_drewN|apply R_drew));exact (R_mono (R_far (p:=⟨gb570,2,none⟩) (R_far (p:=⟨gb570,1,none⟩) (R_far (p:=⟨gb570,0,none⟩) (R_types HO_4.out BK570.out (by decide)) (fun _ hk=>hk.2) (.int .i64 t562)) (fun _ hk=>hk.2) (.slice Ao76 t563.length co76)) (fun _ hk=>hk.2) (.slice Ao77 t566.length co77)) (fun _ h_=>h_.1))))) (R_lt (by (with_reducible repeat (first|apply R_alloc|apply R_drewN|apply R_drew));exact (R_mono (R_far (p:=⟨gb570,2,none⟩) (R_far (p:=⟨gb570,1,none⟩) (R_far (p:=⟨gb570,0,none⟩) (R_types HO_5.out BK570.out (by decide)) (fun _ hk=>hk.2) (.int .i64 t562)) (fun _ hk=>hk.2) (.slice Ao76 t563.length co76)) (fun _ hk=>hk.2) (.slice Ao77 t566.length co77)) (fun _ h_=>h_.1))))) (R_lt (by (with_reducible repeat (first|apply R_alloc|apply R_drewN|apply R_drew));exact (R_mono (R_far (p:=⟨gb570,2,none⟩) (R_far (p:=⟨gb570,1,none⟩) (R_far (p:=⟨gb570,0,none⟩) (R_types HO_10.out BK570.out (by decide)) (fun _ hk=>hk.2) (.int .i64 t562)) (fun _ hk=>hk.2) (.slice Ao76 t563.length co76)) (fun _ hk=>hk.2) (.slice Ao77 t566.length co77)) (fun _ h_=>h_.1))))) (R_lt (by (with_reducible repeat (first|apply R_alloc|apply R_drewN|apply R_drew));exact (R_mono (R_far (p:=⟨gb570,2,none⟩) (R_far (p:=⟨gb570,1,none⟩) (R_far (p:=⟨gb570,0,none⟩) (R_types HO_528001.out BK570.out (by decide)) (fun _ hk=>hk.2) (.int .i64 t562)) (fun _ hk=>hk.2) (.slice Ao76 t563.length co76)) (fun _ hk=>hk.2) (.slice Ao77 t566.length co77)) (fun _ h_=>h_.1))))) (R_lt (by (with_reducible repeat (first|apply R_alloc|apply R_drewN|apply R_drew));exact (R_mono (R_far (p:=⟨gb570,2,none⟩) (R_far (p:=⟨gb570,1,none⟩) (R_far (p:=⟨gb570,0,none⟩) (R_types HO_528002.out BK570.out (by decide)) (fun _ hk=>hk.2) (.int .i64 t562)) (fun _ hk=>hk.2) (.slice Ao76 t563.length co76)) (fun _ hk=>hk.2) (.slice Ao77 t566.length co77)) (fun _ h_=>h_.1))))) (R_lt (by (with_reducible repeat (first|apply R_alloc|apply R_drewN|apply R_drew));exact (R_mono (R_far (p:=⟨gb570,2,none⟩) (R_far (p:=⟨gb570,1,none⟩) (R_far (p:=⟨gb570,0,none⟩) (R_types HO565.out BK570.out (by decide)) (fun _ hk=>hk.2) (.int .i64 t562)) (fun _ hk=>hk.2) (.slice Ao76 t563.length co76)) (fun _ hk=>hk.2) (.slice Ao77 t566.length co77)) (fun _ h_=>h_.1))))) (R_lt (by (with_reducible repeat (first|apply R_alloc|apply R_drewN|apply R_drew));exact (R_mono (R_far (p:=⟨gb570,2,none⟩) (R_far (p:=⟨gb570,1,none⟩) (R_far (p:=⟨gb570,0,none⟩) (R_types HO568.out BK570.out (by decide)) (fun _ hk=>hk.2) (.int .i64 t562)) (fun _ hk=>hk.2) (.slice Ao76 t563.length co76)) (fun _ hk=>hk.2) (.slice Ao77 t566.length co77)) (fun _ h_=>h_.1))))) (below_size (h2 HB.out GE527.out GE570.out)));have HO577:=ak (R_lower (R_new' (R_new' (R_new' (R_new' (R_new' (R_new' (R_new' ho1 (R_lt (by (with_reducible repeat (first|apply R_alloc|apply R_drewN|apply R_drew));exact (R_mono (R_far (p:=⟨gb570,2,none⟩) (R_far (p:=⟨gb570,1,none⟩) (R_far (p:=⟨gb570,0,none⟩) (R_types HO_4.out BK570.out (by decide)) (fun _ hk=>hk.2) (.int .i64 t562)) (fun _ hk=>hk.2) (.slice Ao76 t563.length co76)) (fun _ hk=>hk.2) (.slice Ao77 t566.length co77)) (fun _ h_=>h_.1))))) (R_lt (by (with_reducible repeat (first|apply R_alloc|apply R_drewN|apply R_drew));exact (R_mono (R_far (p:=⟨gb570,2,none⟩) (R_far (p:=⟨gb570,1,none⟩) (R_far (p:=⟨gb570,0,none⟩) (R_types HO_5.out BK570.out (by decide)) (fun _ hk=>hk.2) (.int .i64 t562)) (fun _ hk=>hk.2) (.slice Ao76 t563.length co76)) (fun _ hk=>hk.2) (.slice Ao77 t566.length co77)) (fun _ h_=>h_.1))))) (R_lt (by (with_reducible repeat (first|apply R_alloc|apply R_drewN|apply R_drew));exact (R_mono (R_far (p:=⟨gb570,2,none⟩) (R_far (p:=⟨gb570,1,none⟩) (R_far (p:=⟨gb570,0,none⟩) (R_types HO_10.out BK570.out (by decide)) (fun _ hk=>hk.2) (.int .i64 t562)) (fun _ hk=>hk.2) (.slice Ao76 t563.length co76)) (fun _ hk=>hk.2) (.slice Ao77 t566.length co77)) (fun _ h_=>h_.1))))) (R_lt (by (with_reducible repeat (first|apply R_alloc|apply R_drewN|apply R_drew));exact (R_mono (R_far (p:=⟨gb570,2,none⟩) (R_far (p:=⟨gb570,1,none⟩) (R_far (p:=⟨gb570,0,none⟩) (R_types HO_528001.out BK570.out (by decide)) (fun _ hk=>hk.2) (.int .i64 t562)) (fun _ hk=>hk.2) (.slice Ao76 t563.length co76)) (fun _ hk=>hk.2) (.slice Ao77 t566.length co77)) (fun _ h_=>h_.1))))) (R_lt (by (with_reducible repeat (first|apply R_alloc|apply R_drewN|apply R_drew));exact (R_mono (R_far (p:=⟨gb570,2,none⟩) (R_far (p:=⟨gb570,1,none⟩) (R_far (p:=⟨gb570,0,none⟩) (R_types HO_528002.out BK570.out (by decide)) (fun _ hk=>hk.2) (.int .i64 t562)) (fun _ hk=>hk.2) (.slice Ao76 t563.length co76)) (fun _ hk=>hk.2) (.slice Ao77 t566.length co77)) (fun _ h_=>h_.1))))) (R_lt (by (with_reducible repeat (first|apply R_alloc|apply R_drewN|apply R_drew));exact (R_mono (R_far (p:=⟨gb570,2,none⟩) (R_far (p:=⟨gb570,1,none⟩) (R_far (p:=⟨gb570,0,none⟩) (R_types HO565.out BK570.out (by decide)) (fun _ hk=>hk.2) (.int .i64 t562)) (fun _ hk=>hk.2) (.slice Ao76 t563.length co76)) (fun _ hk=>hk.2) (.slice Ao77 t566.length co77)) (fun _ h_=>h_.1))))) (R_lt (by (with_reducible repeat (first|apply R_alloc|apply R_drewN|apply R_drew));exact (R_mono (R_far (p:=⟨gb570,2,none⟩) (R_far (p:=⟨gb570,1,none⟩) (R_far (p:=⟨gb570,0,none⟩) (R_types HO568.out BK570.out (by decide)) (fun _ hk=>hk.2) (.int .i64 t562)) (fun _ hk=>hk.2) (.slice Ao76 t563.length co76)) (fun _ hk=>hk.2) (.slice Ao77 t566.length co77)) (fun _ h_=>h_.1))))) (below_size (h2 HB.out GE527.out GE570.out)));replace HO_4:=ak (R_mono (R_told (R_told (R_old (by (with_reducible repeat (first|apply R_alloc|apply R_drewN|apply R_drew));exact (R_mono (R_far (p:=⟨gb570,2,none⟩) (R_far (p:=⟨gb570,1,none⟩) (R_far (p:=⟨gb570,0,none⟩) (R_types HO_4.out BK570.out (by decide)) (fun _ hk=>hk.2) (.int .i64 t562)) (fun _ hk=>hk.2) (.slice Ao76 t563.length co76)) (fun _ hk=>hk.2) (.slice Ao77 t566.length co77)) (fun _ h_=>h_.1))) hb) (R_base ho0)) (R_base ho1)) (fun _ h_=>h_.1));replace HO_5:=ak (R_mono (R_told (R_told (R_old (by (with_reducible repeat (first|apply R_alloc|apply R_drewN|apply R_drew));exact (R_mono (R_far (p:=⟨gb570,2,none⟩) (R_far (p:=⟨gb570,1,none⟩) (R_far (p:=⟨gb570,0,none⟩) (R_types HO_5.out BK570.out (by decide)) (fun _ hk=>hk.2) (.int .i64 t562)) (fun _ hk=>hk.2) (.slice Ao76 t563.length co76)) (fun _ hk=>hk.2) (.slice Ao77 t566.length co77)) (fun _ h_=>h_.1))) hb) (R_base ho0)) (R_base ho1)) (fun _ h_=>h_.1));replace HO_10:=ak (R_mono (R_told (R_told (R_old (by (with_reducible repeat (first|apply R_alloc|apply R_drewN|apply R_drew));exact (R_mono (R_far (p:=⟨gb570,2,none⟩) (R_far (p:=⟨gb570,1,none⟩) (R_far (p:=⟨gb570,0,none⟩) (R_types HO_10.out BK570.out (by decide)) (fun _ hk=>hk.2) (.int .i64 t562)) (fun _ hk=>hk.2) (.slice Ao76 t563.length co76)) (fun _ hk=>hk.2) (.slice Ao77 t566.length co77)) (fun _ h_=>h_.1))) hb) (R_base ho0)) (R_base ho1)) (fun _ h_=>h_.1));replace HO_528001:=ak (R_mono (R_told (R_told (R_old (by (with_reducible repeat (first|apply R_alloc|apply R_drewN|apply R_drew));exact (R_mono (R_far (p:=⟨gb570,2,none⟩) (R_far (p:=⟨gb570,1,none⟩) (R_far (p:=⟨gb570,0,none⟩) (R_types HO_528001.out BK570.out (by decide)) (fun _ hk=>hk.2) (.int .i64 t562)) (fun _ hk=>hk.2) (.slice Ao76 t563.length co76)) (fun _ hk=>hk.2) (.slice Ao77 t566.length co77)) (fun _ h_=>h_.1))) hb) (R_base ho0)) (R_base ho1)) (fun _ h_=>h_.1));replace HO_528002:=ak (R_mono (R_told (R_told (R_old (by (with_reducible repeat (first|apply R_alloc|apply R_drewN|apply R_drew));exact (R_mono (R_far (p:=⟨gb570,2,none⟩) (R_far (p:=⟨gb570,1,none⟩) (R_far (p:=⟨gb570,0,none⟩) (R_types HO_528002.out BK570.out (by decide)) (fun _ hk=>hk.2) (.int .i64 t562)) (fun _ hk=>hk.2) (.slice Ao76 t563.length co76)) (fun _ hk=>hk.2) (.slice Ao77 t566.length co77)) (fun _ h_=>h_.1))) hb) (R_base ho0)) (R_base ho1)) (fun _ h_=>h_.1));replace HO565:=ak (R_mono (R_told (R_told (R_old (by (with_reducible repeat (first|apply R_alloc|apply R_drewN|apply R_drew));exact (R_mono (R_far (p:=⟨gb570,2,none⟩) (R_far (p:=⟨gb570,1,none⟩) (R_far (p:=⟨gb570,0,none⟩) (R_types HO565.out BK570.out (by decide)) (fun _ hk=>hk.2) (.int .i64 t562)) (fun _ hk=>hk.2) (.slice Ao76 t563.length co76)) (fun _ hk=>hk.2) (.slice Ao77 t566.length co77)) (fun _ h_=>h_.1))) hb) (R_base ho0)) (R_base ho1)) (fun _ h_=>h_.1));replace HO568:=ak (R_mono (R_told (R_told (R_old (by (with_reducible repeat (first|apply R_alloc|apply R_drewN|apply R_drew));exact (R_mono (R_far (p:=⟨gb570,2,none⟩) (R_far (p:=⟨gb570,1,none⟩) (R_far (p:=⟨gb570,0,none⟩) (R_types HO568.out BK570.out (by decide)) (fun _ hk=>hk.2) (.int .i64 t562)) (fun _ hk=>hk.2) (.slice Ao76 t563.length co76)) (fun _ hk=>hk.2) (.slice Ao77 t566.length co77)) (fun _ h_=>h_.1))) hb) (R_base ho0)) (R_base ho1)) (fun _ h_=>h_.1));replace BK527:=ak (blk_below (g:=gb527) (o:=.cells #[.int .i64 t520,.slice Ao11 t521.length co11,.slice Ao12 t524.length co12] 27 (0,0)) (by (with_reducible repeat (first|apply blk_drewN|apply blk_drew|apply blk_alloc));refine blk_far ?_ NB527_570.out _;(with_reducible repeat (first|apply blk_drewN|apply blk_drew|apply blk_alloc));refine blk_far ?_ NB527_570.out _;(with_reducible repeat (first|apply blk_drewN|apply blk_drew|apply blk_alloc));refine blk_far ?_ NB527_570.out _;exact bm BK527.out) hb);replace BK570:=ak (blk_below (g:=gb570) (o:=.cells #[.int .i64 t562,.slice Ao76 t563.length co76,.slice Ao77 t566.length co77] 27 (0,0)) (by (with_reducible repeat (first|apply blk_drewN|apply blk_drew|apply blk_alloc));refine blk_put (cs:=#[.int .i64 t562,.slice Ao76 t563.length co76,.slice none 0 0]) ?_ 2 _ rfl;(with_reducible repeat (first|apply blk_drewN|apply blk_drew|apply blk_alloc));refine blk_put (cs:=#[.int .i64 t562,.slice none 0 0,.slice none 0 0]) ?_ 1 _ rfl;(with_reducible repeat (first|apply blk_drewN|apply blk_drew|apply blk_alloc));refine blk_put (cs:=#[.int .i64 0,.slice none 0 0,.slice none 0 0]) ?_ 0 _ rfl;exact bm BK570.out) hb);replace HB:=ak (below_step (h2 HB.out GE527.out GE570.out) hb);(try clear hb);(try clear hk);(try clear hi);(try clear ho0);(try clear ho1))|((with_reducible refine gate_dst (N:=24) rfl ?_);(try (refine gate_guard (by rfl) ?_;dsimp only));refine box_event ?hg (N:=24) ?hd (cs:=#[.int .i64 0,.slice none 0 0,.slice none 0 0]) (t:=27) ?hr ?_;(case hd=>rfl);(case hg=>rfl);(case hr=>first|(go_simp;done)|(go_simp;rfl));intro gb579 hg w80 hbox hb;replace HO_4:=rb HO_4 hb;replace HO_5:=rb HO_5 hb;replace HO_10:=rb HO_10 hb;replace HO_528001:=rb HO_528001 hb;replace HO_528002:=rb HO_528002 hb;replace HO565:=rb HO565 hb;replace HO568:=rb HO568 hb;replace HO574:=rb HO574 hb;replace HO577:=rb HO577 hb;have BK579:=ak hbox;have GW579:=ak ((by rw [hg];exact (below_size (h2 HB.out GE527.out GE570.out)) : w.heap.size ≤ gb579));have GE579:=ak ((by rw [hg];exact (below_size (h2 HB.out GE527.out GE570.out)) : w.heap.size ≤ gb579));replace HB:=ak (below_step (h2 HB.out GE527.out GE570.out) hb);have NB527_579:=nl BK527 hg;have NB579_527:=ng BK527 hg;replace BK527:=kb BK527 hb;have NB570_579:=nl BK570 hg;have NB579_570:=ng BK570 hg;replace BK570:=kb BK570 hb;clear hb hbox hg;have hnb81:=NB579_527.out;have hnc81:=NB527_579.out;have hnb82:=NB579_570.out;have hnc82:=NB570_579.out;have hcz83_0:=bc BK579 0 rfl;have hcz83_1:=bc BK579 1 rfl;have hcz83_2:=bc BK579 2 rfl;have hfz83_0:=bf BK579 0;have hfz83_1:=bf BK579 1;have hfz83_2:=bf BK579 2;obtain ⟨Ao84,co84,eo84⟩:=R_slice HO574.out;subst eo84;obtain ⟨Ao85,co85,eo85⟩:=R_slice HO577.out;subst eo85)))
 (try simp only [ap])
 go_cut [177] (fun v177 wc=>∃ (kq : Nat) (x177_69 : Bool),v177 = .bool x177_69 ∧ Aside0 (laws_FnWires.j4 kq l0 t528 t531 t534 t545 t554 t558 x177_69 t520 t521 t524 t562 t563 t566 = some r) ∧ Aside0 (kq ≤ kj59) ∧ Aside0 (Kd.R (Kd.int .i64) 3 wc w.heap.size (fun k_=>ob k_ v532 ∧ ob k_ v546 ∧ ob k_ (.slice Ao11 t521.length co11) ∧ ob k_ (.slice Ao12 t524.length co12) ∧ ob k_ (.slice Ao76 t563.length co76) ∧ ob k_ (.slice Ao77 t566.length co77) ∧ ob k_ (.slice Ao84 t572.length co84) ∧ ob k_ (.slice Ao85 t575.length co85)) v529 t528) ∧ Aside0 (Kd.R (Kd.int .i64) 3 wc w.heap.size (fun k_=>ob k_ v529 ∧ ob k_ v546 ∧ ob k_ (.slice Ao11 t521.length co11) ∧ ob k_ (.slice Ao12 t524.length co12) ∧ ob k_ (.slice Ao76 t563.length co76) ∧ ob k_ (.slice Ao77 t566.length co77) ∧ ob k_ (.slice Ao84 t572.length co84) ∧ ob k_ (.slice Ao85 t575.length co85)) v532 t531) ∧ Aside0 (Kd.R (Kd.int .i64) 3 wc w.heap.size (fun k_=>ob k_ v529 ∧ ob k_ v532 ∧ ob k_ (.slice Ao11 t521.length co11) ∧ ob k_ (.slice Ao12 t524.length co12) ∧ ob k_ (.slice Ao76 t563.length co76) ∧ ob k_ (.slice Ao77 t566.length co77) ∧ ob k_ (.slice Ao84 t572.length co84) ∧ ob k_ (.slice Ao85 t575.length co85)) v546 t545) ∧ Aside0 (Kd.R (Kd.int .i64) 3 wc w.heap.size (fun k_=>ob k_ v529 ∧ ob k_ v532 ∧ ob k_ v546 ∧ ob k_ (.slice Ao12 t524.length co12) ∧ ob k_ (.slice Ao76 t563.length co76) ∧ ob k_ (.slice Ao77 t566.length co77) ∧ ob k_ (.slice Ao84 t572.length co84) ∧ ob k_ (.slice Ao85 t575.length co85)) (.slice Ao11 t521.length co11) t521) ∧ Aside0 (Kd.R (Kd.int .i64) 3 wc w.heap.size (fun k_=>ob k_ v529 ∧ ob k_ v532 ∧ ob k_ v546 ∧ ob k_ (.slice Ao11 t521.length co11) ∧ ob k_ (.slice Ao76 t563.length co76) ∧ ob k_ (.slice Ao77 t566.length co77) ∧ ob k_ (.slice Ao84 t572.length co84) ∧ ob k_ (.slice Ao85 t575.length co85)) (.slice Ao12 t524.length co12) t524) ∧ Aside0 (Kd.R (Kd.int .i64) 3 wc w.heap.size (fun k_=>ob k_ v529 ∧ ob k_ v532 ∧ ob k_ v546 ∧ ob k_ (.slice Ao11 t521.length co11) ∧ ob k_ (.slice Ao12 t524.length co12) ∧ ob k_ (.slice Ao77 t566.length co77) ∧ ob k_ (.slice Ao84 t572.length co84) ∧ ob k_ (.slice Ao85 t575.length co85)) (.slice Ao76 t563.length co76) t563) ∧ Aside0 (Kd.R (Kd.int .i64) 3 wc w.heap.size (fun k_=>ob k_ v529 ∧ ob k_ v532 ∧ ob k_ v546 ∧ ob k_ (.slice Ao11 t521.length co11) ∧ ob k_ (.slice Ao12 t524.length co12) ∧ ob k_ (.slice Ao76 t563.length co76) ∧ ob k_ (.slice Ao84 t572.length co84) ∧ ob k_ (.slice Ao85 t575.length co85)) (.slice Ao77 t566.length co77) t566) ∧ Aside0 (Kd.R (Kd.int .i64) 3 wc w.heap.size (fun k_=>ob k_ v529 ∧ ob k_ v532 ∧ ob k_ v546 ∧ ob k_ (.slice Ao11 t521.length co11) ∧ ob k_ (.slice Ao12 t524.length co12) ∧ ob k_ (.slice Ao76 t563.length co76) ∧ ob k_ (.slice Ao77 t566.length co77) ∧ ob k_ (.slice Ao85 t575.length co85)) (.slice Ao84 t572.length co84) t572) ∧ Aside0 (Kd.R (Kd.int .i64) 3 wc w.heap.size (fun k_=>ob k_ v529 ∧ ob k_ v532 ∧ ob k_ v546 ∧ ob k_ (.slice Ao11 t521.length co11) ∧ ob k_ (.slice Ao12 t524.length co12) ∧ ob k_ (.slice Ao76 t563.length co76) ∧ ob k_ (.slice Ao77 t566.length co77) ∧ ob k_ (.slice Ao84 t572.length co84)) (.slice Ao85 t575.length co85) t575) ∧ Aside0 (wc.heap[gb527]? = some (.cells #[.int .i64 t520,(.slice Ao11 t521.length co11),(.slice Ao12 t524.length co12)] 27 (0,0))) ∧ Aside0 (wc.heap[gb570]? = some (.cells #[.int .i64 t562,(.slice Ao76 t563.length co76),(.slice Ao77 t566.length co77)] 27 (0,0))) ∧ Aside0 (wc.heap[gb579]? = some (.cells #[.int .i64 t571,(.slice Ao84 t572.length co84),(.slice Ao85 t575.length co85)] 27 (0,0))) ∧ Aside0 (Below w.heap.size w wc))
 case first =>
  have H:=HC70.out
  clear HC70
  by_cases c86 : (t569 != t578) = true
  ·rw [if_pos c86] at H
   have c86b0 : (t569 != t578) = true:=c86
   (try (have c86b1 : decide (t569 = t578) = false:=by simpa using c86))
   (try (have c86b2 : (t569 == t578) = false:=by simpa using c86))
   (try (have c86b3 : ¬ (t569 = t578):=by simpa using c86))
   clear c86
   (first|rw [c86b0]|(simp only [i64_w,i32_w];rw [c86b0])|skip)
   as_aux_lemma =>
    have H':=Aside0.mk H
    clear H
    go_wp2
    repeat (go_quiet (fail);try go_wp2)
    go_meet
    case rel=>exact ⟨_,(true),fd,H',⟨by first|exact Nat.le_refl _|(have:=HJ6.out;have:=HJ36.out;have:=HJ49.out;have:=HJ59.out;omega)⟩,⟨by (with_reducible repeat (first|apply R_alloc|apply R_drewN|apply R_drew));exact R_mono (R_far (p:=⟨gb579,2,none⟩) (R_far (p:=⟨gb579,1,none⟩) (R_far (p:=⟨gb579,0,none⟩) (R_types HO_4.out BK579.out (by decide)) (fun _ hk=>hk.2) (.int .i64 t571)) (fun _ hk=>hk.2) (.slice Ao84 t572.length co84)) (fun _ hk=>hk.2) (.slice Ao85 t575.length co85)) (fun _ hk=>⟨hk.1.1.1.1.1.1,⟨hk.1.1.1.1.1.2.1,⟨hk.1.1.1.1.1.2.2.1,⟨hk.1.1.1.1.1.2.2.2,⟨hk.1.1.1.1.2,⟨hk.1.1.1.2,⟨hk.1.1.2,hk.1.2⟩⟩⟩⟩⟩⟩⟩)⟩,⟨by (with_reducible repeat (first|apply R_alloc|apply R_drewN|apply R_drew));exact R_mono (R_far (p:=⟨gb579,2,none⟩) (R_far (p:=⟨gb579,1,none⟩) (R_far (p:=⟨gb579,0,none⟩) (R_types HO_5.out BK579.out (by decide)) (fun _ hk=>hk.2) (.int .i64 t571)) (fun _ hk=>hk.2) (.slice Ao84 t572.length co84)) (fun _ hk=>hk.2) (.slice Ao85 t575.length co85)) (fun _ hk=>⟨hk.1.1.1.1.1.1,⟨hk.1.1.1.1.1.2.1,⟨hk.1.1.1.1.1.2.2.1,⟨hk.1.1.1.1.1.2.2.2,⟨hk.1.1.1.1.2,⟨hk.1.1.1.2,⟨hk.1.1.2,hk.1.2⟩⟩⟩⟩⟩⟩⟩)⟩,⟨by (with_reducible repeat (first|apply R_alloc|apply R_drewN|apply R_drew));exact R_mono (R_far (p:=⟨gb579,2,none⟩) (R_far (p:=⟨gb579,1,none⟩) (R_far (p:=⟨gb579,0,none⟩) (R_types HO_10.out BK579.out (by decide)) (fun _ hk=>hk.2) (.int .i64 t571)) (fun _ hk=>hk.2) (.slice Ao84 t572.length co84)) (fun _ hk=>hk.2) (.slice Ao85 t575.length co85)) (fun _ hk=>⟨hk.1.1.1.1.1.1,⟨hk.1.1.1.1.1.2.1,⟨hk.1.1.1.1.1.2.2.1,⟨hk.1.1.1.1.1.2.2.2,⟨hk.1.1.1.1.2,⟨hk.1.1.1.2,⟨hk.1.1.2,hk.1.2⟩⟩⟩⟩⟩⟩⟩)⟩,⟨by (with_reducible repeat (first|apply R_alloc|apply R_drewN|apply R_drew));exact R_mono (R_far (p:=⟨gb579,2,none⟩) (R_far (p:=⟨gb579,1,none⟩) (R_far (p:=⟨gb579,0,none⟩) (R_types HO_528001.out BK579.out (by decide)) (fun _ hk=>hk.2) (.int .i64 t571)) (fun _ hk=>hk.2) (.slice Ao84 t572.length co84)) (fun _ hk=>hk.2) (.slice Ao85 t575.length co85)) (fun _ hk=>⟨hk.1.1.1.1.1.1,⟨hk.1.1.1.1.1.2.1,⟨hk.1.1.1.1.1.2.2.1,⟨hk.1.1.1.1.1.2.2.2,⟨hk.1.1.1.1.2,⟨hk.1.1.1.2,⟨hk.1.1.2,hk.1.2⟩⟩⟩⟩⟩⟩⟩)⟩,⟨by (with_reducible repeat (first|apply R_alloc|apply R_drewN|apply R_drew));exact R_mono (R_far (p:=⟨gb579,2,none⟩) (R_far (p:=⟨gb579,1,none⟩) (R_far (p:=⟨gb579,0,none⟩) (R_types HO_528002.out BK579.out (by decide)) (fun _ hk=>hk.2) (.int .i64 t571)) (fun _ hk=>hk.2) (.slice Ao84 t572.length co84)) (fun _ hk=>hk.2) (.slice Ao85 t575.length co85)) (fun _ hk=>⟨hk.1.1.1.1.1.1,⟨hk.1.1.1.1.1.2.1,⟨hk.1.1.1.1.1.2.2.1,⟨hk.1.1.1.1.1.2.2.2,⟨hk.1.1.1.1.2,⟨hk.1.1.1.2,⟨hk.1.1.2,hk.1.2⟩⟩⟩⟩⟩⟩⟩)⟩,⟨by (with_reducible repeat (first|apply R_alloc|apply R_drewN|apply R_drew));exact R_mono (R_far (p:=⟨gb579,2,none⟩) (R_far (p:=⟨gb579,1,none⟩) (R_far (p:=⟨gb579,0,none⟩) (R_types HO565.out BK579.out (by decide)) (fun _ hk=>hk.2) (.int .i64 t571)) (fun _ hk=>hk.2) (.slice Ao84 t572.length co84)) (fun _ hk=>hk.2) (.slice Ao85 t575.length co85)) (fun _ hk=>⟨hk.1.1.1.1.1.1.1.2,⟨hk.1.1.1.1.1.1.2,⟨hk.1.1.1.1.1.2,⟨hk.1.1.1.1.2,⟨hk.1.1.1.2,⟨hk.1.1.1.1.1.1.1.1,⟨hk.1.1.2,hk.1.2⟩⟩⟩⟩⟩⟩⟩)⟩,⟨by (with_reducible repeat (first|apply R_alloc|apply R_drewN|apply R_drew));exact R_mono (R_far (p:=⟨gb579,2,none⟩) (R_far (p:=⟨gb579,1,none⟩) (R_far (p:=⟨gb579,0,none⟩) (R_types HO568.out BK579.out (by decide)) (fun _ hk=>hk.2) (.int .i64 t571)) (fun _ hk=>hk.2) (.slice Ao84 t572.length co84)) (fun _ hk=>hk.2) (.slice Ao85 t575.length co85)) (fun _ hk=>⟨hk.1.1.1.1.1.1.1.2,⟨hk.1.1.1.1.1.1.2,⟨hk.1.1.1.1.1.2,⟨hk.1.1.1.1.2,⟨hk.1.1.1.2,⟨hk.1.1.1.1.1.1.1.1,⟨hk.1.1.2,hk.1.2⟩⟩⟩⟩⟩⟩⟩)⟩,⟨by (with_reducible repeat (first|apply R_alloc|apply R_drewN|apply R_drew));exact R_mono (R_far (p:=⟨gb579,2,none⟩) (R_far (p:=⟨gb579,1,none⟩) (R_far (p:=⟨gb579,0,none⟩) (R_types HO574.out BK579.out (by decide)) (fun _ hk=>hk.2) (.int .i64 t571)) (fun _ hk=>hk.2) (.slice Ao84 t572.length co84)) (fun _ hk=>hk.2) (.slice Ao85 t575.length co85)) (fun _ hk=>⟨hk.1.1.1.1.1.1.1.2,⟨hk.1.1.1.1.1.1.2,⟨hk.1.1.1.1.1.2,⟨hk.1.1.1.1.2,⟨hk.1.1.1.2,⟨hk.1.1.2,⟨hk.1.2,hk.1.1.1.1.1.1.1.1⟩⟩⟩⟩⟩⟩⟩)⟩,⟨by (with_reducible repeat (first|apply R_alloc|apply R_drewN|apply R_drew));exact R_mono (R_far (p:=⟨gb579,2,none⟩) (R_far (p:=⟨gb579,1,none⟩) (R_far (p:=⟨gb579,0,none⟩) (R_types HO577.out BK579.out (by decide)) (fun _ hk=>hk.2) (.int .i64 t571)) (fun _ hk=>hk.2) (.slice Ao84 t572.length co84)) (fun _ hk=>hk.2) (.slice Ao85 t575.length co85)) (fun _ hk=>⟨hk.1.1.1.1.1.1.1.2,⟨hk.1.1.1.1.1.1.2,⟨hk.1.1.1.1.1.2,⟨hk.1.1.1.1.2,⟨hk.1.1.1.2,⟨hk.1.1.2,⟨hk.1.2,hk.1.1.1.1.1.1.1.1⟩⟩⟩⟩⟩⟩⟩)⟩,⟨by (with_reducible repeat (first|apply blk_drewN|apply blk_drew|apply blk_alloc));refine blk_far ?_ NB527_579.out _;(with_reducible repeat (first|apply blk_drewN|apply blk_drew|apply blk_alloc));refine blk_far ?_ NB527_579.out _;(with_reducible repeat (first|apply blk_drewN|apply blk_drew|apply blk_alloc));refine blk_far ?_ NB527_579.out _;exact bm BK527.out⟩,⟨by (with_reducible repeat (first|apply blk_drewN|apply blk_drew|apply blk_alloc));refine blk_far ?_ NB570_579.out _;(with_reducible repeat (first|apply blk_drewN|apply blk_drew|apply blk_alloc));refine blk_far ?_ NB570_579.out _;(with_reducible repeat (first|apply blk_drewN|apply blk_drew|apply blk_alloc));refine blk_far ?_ NB570_579.out _;exact bm BK570.out⟩,⟨by (with_reducible repeat (first|apply blk_drewN|apply blk_drew|apply blk_alloc));refine blk_put (cs:=#[.int .i64 t571,.slice Ao84 t572.length co84,.slice none 0 0]) ?_ 2 _ rfl;(with_reducible repeat (first|apply blk_drewN|apply blk_drew|apply blk_alloc));refine blk_put (cs:=#[.int .i64 t571,.slice none 0 0,.slice none 0 0]) ?_ 1 _ rfl;(with_reducible repeat (first|apply blk_drewN|apply blk_drew|apply blk_alloc));refine blk_put (cs:=#[.int .i64 0,.slice none 0 0,.slice none 0 0]) ?_ 0 _ rfl;exact bm BK579.out⟩,⟨h3 HB.out GE527.out GE570.out GE579.out⟩⟩
  rw [if_neg c86] at H
  have c86b0 : (t569 != t578) = false:=by simpa using c86
  (try (have c86b1 : decide (t569 = t578) = true:=by simpa using c86))
  (try (have c86b2 : (t569 == t578) = true:=by simpa using c86))
  clear c86
  (first|rw [c86b0]|(simp only [i64_w,i32_w];rw [c86b0])|skip)
  by_cases c87 : (t569 != t534) = true
  ·rw [if_pos c87] at H
   have c87b0 : (t569 != t534) = true:=c87
   (try (have c87b1 : decide (t569 = t534) = false:=by simpa using c87))
   (try (have c87b2 : (t569 == t534) = false:=by simpa using c87))
   (try (have c87b3 : ¬ (t569 = t534):=by simpa using c87))
   clear c87
   as_aux_lemma =>
    have H':=Aside0.mk H
    clear H
    go_wp2
    repeat (go_quiet (fail);try go_wp2)
    go_meet
    case rel=>exact ⟨_,(true),fd,H',⟨by first|exact Nat.le_refl _|(have:=HJ6.out;have:=HJ36.out;have:=HJ49.out;have:=HJ59.out;omega)⟩,⟨by (with_reducible repeat (first|apply R_alloc|apply R_drewN|apply R_drew));exact R_mono (R_far (p:=⟨gb579,2,none⟩) (R_far (p:=⟨gb579,1,none⟩) (R_far (p:=⟨gb579,0,none⟩) (R_types HO_4.out BK579.out (by decide)) (fun _ hk=>hk.2) (.int .i64 t571)) (fun _ hk=>hk.2) (.slice Ao84 t572.length co84)) (fun _ hk=>hk.2) (.slice Ao85 t575.length co85)) (fun _ hk=>⟨hk.1.1.1.1.1.1,⟨hk.1.1.1.1.1.2.1,⟨hk.1.1.1.1.1.2.2.1,⟨hk.1.1.1.1.1.2.2.2,⟨hk.1.1.1.1.2,⟨hk.1.1.1.2,⟨hk.1.1.2,hk.1.2⟩⟩⟩⟩⟩⟩⟩)⟩,⟨by (with_reducible repeat (first|apply R_alloc|apply R_drewN|apply R_drew));exact R_mono (R_far (p:=⟨gb579,2,none⟩) (R_far (p:=⟨gb579,1,none⟩) (R_far (p:=⟨gb579,0,none⟩) (R_types HO_5.out BK579.out (by decide)) (fun _ hk=>hk.2) (.int .i64 t571)) (fun _ hk=>hk.2) (.slice Ao84 t572.length co84)) (fun _ hk=>hk.2) (.slice Ao85 t575.length co85)) (fun _ hk=>⟨hk.1.1.1.1.1.1,⟨hk.1.1.1.1.1.2.1,⟨hk.1.1.1.1.1.2.2.1,⟨hk.1.1.1.1.1.2.2.2,⟨hk.1.1.1.1.2,⟨hk.1.1.1.2,⟨hk.1.1.2,hk.1.2⟩⟩⟩⟩⟩⟩⟩)⟩,⟨by (with_reducible repeat (first|apply R_alloc|apply R_drewN|apply R_drew));exact R_mono (R_far (p:=⟨gb579,2,none⟩) (R_far (p:=⟨gb579,1,none⟩) (R_far (p:=⟨gb579,0,none⟩) (R_types HO_10.out BK579.out (by decide)) (fun _ hk=>hk.2) (.int .i64 t571)) (fun _ hk=>hk.2) (.slice Ao84 t572.length co84)) (fun _ hk=>hk.2) (.slice Ao85 t575.length co85)) (fun _ hk=>⟨hk.1.1.1.1.1.1,⟨hk.1.1.1.1.1.2.1,⟨hk.1.1.1.1.1.2.2.1,⟨hk.1.1.1.1.1.2.2.2,⟨hk.1.1.1.1.2,⟨hk.1.1.1.2,⟨hk.1.1.2,hk.1.2⟩⟩⟩⟩⟩⟩⟩)⟩,⟨by (with_reducible repeat (first|apply R_alloc|apply R_drewN|apply R_drew));exact R_mono (R_far (p:=⟨gb579,2,none⟩) (R_far (p:=⟨gb579,1,none⟩) (R_far (p:=⟨gb579,0,none⟩) (R_types HO_528001.out BK579.out (by decide)) (fun _ hk=>hk.2) (.int .i64 t571)) (fun _ hk=>hk.2) (.slice Ao84 t572.length co84)) (fun _ hk=>hk.2) (.slice Ao85 t575.length co85)) (fun _ hk=>⟨hk.1.1.1.1.1.1,⟨hk.1.1.1.1.1.2.1,⟨hk.1.1.1.1.1.2.2.1,⟨hk.1.1.1.1.1.2.2.2,⟨hk.1.1.1.1.2,⟨hk.1.1.1.2,⟨hk.1.1.2,hk.1.2⟩⟩⟩⟩⟩⟩⟩)⟩,⟨by (with_reducible repeat (first|apply R_alloc|apply R_drewN|apply R_drew));exact R_mono (R_far (p:=⟨gb579,2,none⟩) (R_far (p:=⟨gb579,1,none⟩) (R_far (p:=⟨gb579,0,none⟩) (R_types HO_528002.out BK579.out (by decide)) (fun _ hk=>hk.2) (.int .i64 t571)) (fun _ hk=>hk.2) (.slice Ao84 t572.length co84)) (fun _ hk=>hk.2) (.slice Ao85 t575.length co85)) (fun _ hk=>⟨hk.1.1.1.1.1.1,⟨hk.1.1.1.1.1.2.1,⟨hk.1.1.1.1.1.2.2.1,⟨hk.1.1.1.1.1.2.2.2,⟨hk.1.1.1.1.2,⟨hk.1.1.1.2,⟨hk.1.1.2,hk.1.2⟩⟩⟩⟩⟩⟩⟩)⟩,⟨by (with_reducible repeat (first|apply R_alloc|apply R_drewN|apply R_drew));exact R_mono (R_far (p:=⟨gb579,2,none⟩) (R_far (p:=⟨gb579,1,none⟩) (R_far (p:=⟨gb579,0,none⟩) (R_types HO565.out BK579.out (by decide)) (fun _ hk=>hk.2) (.int .i64 t571)) (fun _ hk=>hk.2) (.slice Ao84 t572.length co84)) (fun _ hk=>hk.2) (.slice Ao85 t575.length co85)) (fun _ hk=>⟨hk.1.1.1.1.1.1.1.2,⟨hk.1.1.1.1.1.1.2,⟨hk.1.1.1.1.1.2,⟨hk.1.1.1.1.2,⟨hk.1.1.1.2,⟨hk.1.1.1.1.1.1.1.1,⟨hk.1.1.2,hk.1.2⟩⟩⟩⟩⟩⟩⟩)⟩,⟨by (with_reducible repeat (first|apply R_alloc|apply R_drewN|apply R_drew));exact R_mono (R_far (p:=⟨gb579,2,none⟩) (R_far (p:=⟨gb579,1,none⟩) (R_far (p:=⟨gb579,0,none⟩) (R_types HO568.out BK579.out (by decide)) (fun _ hk=>hk.2) (.int .i64 t571)) (fun _ hk=>hk.2) (.slice Ao84 t572.length co84)) (fun _ hk=>hk.2) (.slice Ao85 t575.length co85)) (fun _ hk=>⟨hk.1.1.1.1.1.1.1.2,⟨hk.1.1.1.1.1.1.2,⟨hk.1.1.1.1.1.2,⟨hk.1.1.1.1.2,⟨hk.1.1.1.2,⟨hk.1.1.1.1.1.1.1.1,⟨hk.1.1.2,hk.1.2⟩⟩⟩⟩⟩⟩⟩)⟩,⟨by (with_reducible repeat (first|apply R_alloc|apply R_drewN|apply R_drew));exact R_mono (R_far (p:=⟨gb579,2,none⟩) (R_far (p:=⟨gb579,1,none⟩) (R_far (p:=⟨gb579,0,none⟩) (R_types HO574.out BK579.out (by decide)) (fun _ hk=>hk.2) (.int .i64 t571)) (fun _ hk=>hk.2) (.slice Ao84 t572.length co84)) (fun _ hk=>hk.2) (.slice Ao85 t575.length co85)) (fun _ hk=>⟨hk.1.1.1.1.1.1.1.2,⟨hk.1.1.1.1.1.1.2,⟨hk.1.1.1.1.1.2,⟨hk.1.1.1.1.2,⟨hk.1.1.1.2,⟨hk.1.1.2,⟨hk.1.2,hk.1.1.1.1.1.1.1.1⟩⟩⟩⟩⟩⟩⟩)⟩,⟨by (with_reducible repeat (first|apply R_alloc|apply R_drewN|apply R_drew));exact R_mono (R_far (p:=⟨gb579,2,none⟩) (R_far (p:=⟨gb579,1,none⟩) (R_far (p:=⟨gb579,0,none⟩) (R_types HO577.out BK579.out (by decide)) (fun _ hk=>hk.2) (.int .i64 t571)) (fun _ hk=>hk.2) (.slice Ao84 t572.length co84)) (fun _ hk=>hk.2) (.slice Ao85 t575.length co85)) (fun _ hk=>⟨hk.1.1.1.1.1.1.1.2,⟨hk.1.1.1.1.1.1.2,⟨hk.1.1.1.1.1.2,⟨hk.1.1.1.1.2,⟨hk.1.1.1.2,⟨hk.1.1.2,⟨hk.1.2,hk.1.1.1.1.1.1.1.1⟩⟩⟩⟩⟩⟩⟩)⟩,⟨by (with_reducible repeat (first|apply blk_drewN|apply blk_drew|apply blk_alloc));refine blk_far ?_ NB527_579.out _;(with_reducible repeat (first|apply blk_drewN|apply blk_drew|apply blk_alloc));refine blk_far ?_ NB527_579.out _;(with_reducible repeat (first|apply blk_drewN|apply blk_drew|apply blk_alloc));refine blk_far ?_ NB527_579.out _;exact bm BK527.out⟩,⟨by (with_reducible repeat (first|apply blk_drewN|apply blk_drew|apply blk_alloc));refine blk_far ?_ NB570_579.out _;(with_reducible repeat (first|apply blk_drewN|apply blk_drew|apply blk_alloc));refine blk_far ?_ NB570_579.out _;(with_reducible repeat (first|apply blk_drewN|apply blk_drew|apply blk_alloc));refine blk_far ?_ NB570_579.out _;exact bm BK570.out⟩,⟨by (with_reducible repeat (first|apply blk_drewN|apply blk_drew|apply blk_alloc));refine blk_put (cs:=#[.int .i64 t571,.slice Ao84 t572.length co84,.slice none 0 0]) ?_ 2 _ rfl;(with_reducible repeat (first|apply blk_drewN|apply blk_drew|apply blk_alloc));refine blk_put (cs:=#[.int .i64 t571,.slice none 0 0,.slice none 0 0]) ?_ 1 _ rfl;(with_reducible repeat (first|apply blk_drewN|apply blk_drew|apply blk_alloc));refine blk_put (cs:=#[.int .i64 0,.slice none 0 0,.slice none 0 0]) ?_ 0 _ rfl;exact bm BK579.out⟩,⟨h3 HB.out GE527.out GE570.out GE579.out⟩⟩
  rw [if_neg c87] at H
  have c87b0 : (t569 != t534) = false:=by simpa using c87
  (try (have c87b1 : decide (t569 = t534) = true:=by simpa using c87))
  (try (have c87b2 : (t569 == t534) = true:=by simpa using c87))
  clear c87
  obtain ⟨t580,A88,H⟩:=bd H;(try dsimp only at H)
  as_aux_lemma =>
   have H':=Aside0.mk H
   clear H
   have hnb89:=NB570_527.out
   have hnc89:=NB527_570.out
   have hnb90:=NB570_579.out
   have hnc90:=NB579_570.out
   have hcz91_0:=bc BK570 0 rfl
   have hcz91_1:=bc BK570 1 rfl
   have hcz91_2:=bc BK570 2 rfl
   have hfz91_0:=bf BK570 0
   have hfz91_1:=bf BK570 1
   have hfz91_2:=bf BK570 2
   have hnb92:=NB579_527.out
   have hnc92:=NB527_579.out
   have hcz93_0:=bc BK579 0 rfl
   have hcz93_1:=bc BK579 1 rfl
   have hcz93_2:=bc BK579 2 rfl
   have hfz93_0:=bf BK579 0
   have hfz93_1:=bf BK579 1
   have hfz93_2:=bf BK579 2
   have go_:=trivial;repeat ((first|clear go_|go_quiet (fail));try go_wp2_with (first|(go_at_call 36;(with_reducible refine (laws_rWire.calls kj59 t562 _ _ t563 _ _ t566 t571 _ _ t572 _ _ t575 t580 _ ?side1 ?side2 ?side3 ?side4 ?side5 ?side6 ?side7 ?side8 A88.out).mono ?_);(case side1=>refine (R_reads' (e:=3) (base:=w.heap.size) (ok:=fun k_=>(((((((ob k_ (.slice Ao77 t566.length co77) ∧ ob k_ v529) ∧ ob k_ v532) ∧ ob k_ v546) ∧ ob k_ (.slice Ao11 t521.length co11)) ∧ ob k_ (.slice Ao12 t524.length co12)) ∧ ob k_ (.slice Ao84 t572.length co84)) ∧ ob k_ (.slice Ao85 t575.length co85))) (n:=t563.length) (c:=co76) ?_).2.2;exact (by (with_reducible repeat (first|apply R_alloc|apply R_drewN|apply R_drew));exact (R_mono (R_far (p:=⟨gb579,2,none⟩) (R_far (p:=⟨gb579,1,none⟩) (R_far (p:=⟨gb579,0,none⟩) (R_types HO565.out BK579.out (by decide)) (fun _ hk=>hk.2) (.int .i64 t571)) (fun _ hk=>hk.2) (.slice Ao84 t572.length co84)) (fun _ hk=>hk.2) (.slice Ao85 t575.length co85)) (fun _ h_=>h_.1))));(case side2=>exact (R_reads' HO565.out).2.1);(case side3=>refine (R_reads' (e:=3) (base:=w.heap.size) (ok:=fun k_=>(((((((ob k_ (.slice Ao76 t563.length co76) ∧ ob k_ v529) ∧ ob k_ v532) ∧ ob k_ v546) ∧ ob k_ (.slice Ao11 t521.length co11)) ∧ ob k_ (.slice Ao12 t524.length co12)) ∧ ob k_ (.slice Ao84 t572.length co84)) ∧ ob k_ (.slice Ao85 t575.length co85))) (n:=t566.length) (c:=co77) ?_).2.2;exact (by (with_reducible repeat (first|apply R_alloc|apply R_drewN|apply R_drew));exact (R_mono (R_far (p:=⟨gb579,2,none⟩) (R_far (p:=⟨gb579,1,none⟩) (R_far (p:=⟨gb579,0,none⟩) (R_types HO568.out BK579.out (by decide)) (fun _ hk=>hk.2) (.int .i64 t571)) (fun _ hk=>hk.2) (.slice Ao84 t572.length co84)) (fun _ hk=>hk.2) (.slice Ao85 t575.length co85)) (fun _ h_=>h_.1))));(case side4=>exact (R_reads' HO568.out).2.1);(case side5=>refine (R_reads' (e:=3) (base:=w.heap.size) (ok:=fun k_=>(((((((ob k_ (.slice Ao85 t575.length co85) ∧ ob k_ v529) ∧ ob k_ v532) ∧ ob k_ v546) ∧ ob k_ (.slice Ao11 t521.length co11)) ∧ ob k_ (.slice Ao12 t524.length co12)) ∧ ob k_ (.slice Ao76 t563.length co76)) ∧ ob k_ (.slice Ao77 t566.length co77))) (n:=t572.length) (c:=co84) ?_).2.2;exact (by (with_reducible repeat (first|apply R_alloc|apply R_drewN|apply R_drew));exact (R_mono (R_far (p:=⟨gb579,2,none⟩) (R_far (p:=⟨gb579,1,none⟩) (R_far (p:=⟨gb579,0,none⟩) (R_types HO574.out BK579.out (by decide)) (fun _ hk=>hk.2) (.int .i64 t571)) (fun _ hk=>hk.2) (.slice Ao84 t572.length co84)) (fun _ hk=>hk.2) (.slice Ao85 t575.length co85)) (fun _ h_=>h_.1))));(case side6=>exact (R_reads' HO574.out).2.1);(case side7=>refine (R_reads' (e:=3) (base:=w.heap.size) (ok:=fun k_=>(((((((ob k_ (.slice Ao84 t572.length co84) ∧ ob k_ v529) ∧ ob k_ v532) ∧ ob k_ v546) ∧ ob k_ (.slice Ao11 t521.length co11)) ∧ ob k_ (.slice Ao12 t524.length co12)) ∧ ob k_ (.slice Ao76 t563.length co76)) ∧ ob k_ (.slice Ao77 t566.length co77))) (n:=t575.length) (c:=co85) ?_).2.2;exact (by (with_reducible repeat (first|apply R_alloc|apply R_drewN|apply R_drew));exact (R_mono (R_far (p:=⟨gb579,2,none⟩) (R_far (p:=⟨gb579,1,none⟩) (R_far (p:=⟨gb579,0,none⟩) (R_types HO577.out BK579.out (by decide)) (fun _ hk=>hk.2) (.int .i64 t571)) (fun _ hk=>hk.2) (.slice Ao84 t572.length co84)) (fun _ hk=>hk.2) (.slice Ao85 t575.length co85)) (fun _ h_=>h_.1))));(case side8=>exact (R_reads' HO577.out).2.1);rintro e w94 ⟨rfl,hb⟩;replace HO_4:=ak (R_below (by (with_reducible repeat (first|apply R_alloc|apply R_drewN|apply R_drew));exact (R_mono (R_far (p:=⟨gb579,2,none⟩) (R_far (p:=⟨gb579,1,none⟩) (R_far (p:=⟨gb579,0,none⟩) (R_types HO_4.out BK579.out (by decide)) (fun _ hk=>hk.2) (.int .i64 t571)) (fun _ hk=>hk.2) (.slice Ao84 t572.length co84)) (fun _ hk=>hk.2) (.slice Ao85 t575.length co85)) (fun _ h_=>h_.1))) hb);replace HO_5:=ak (R_below (by (with_reducible repeat (first|apply R_alloc|apply R_drewN|apply R_drew));exact (R_mono (R_far (p:=⟨gb579,2,none⟩) (R_far (p:=⟨gb579,1,none⟩) (R_far (p:=⟨gb579,0,none⟩) (R_types HO_5.out BK579.out (by decide)) (fun _ hk=>hk.2) (.int .i64 t571)) (fun _ hk=>hk.2) (.slice Ao84 t572.length co84)) (fun _ hk=>hk.2) (.slice Ao85 t575.length co85)) (fun _ h_=>h_.1))) hb);replace HO_10:=ak (R_below (by (with_reducible repeat (first|apply R_alloc|apply R_drewN|apply R_drew));exact (R_mono (R_far (p:=⟨gb579,2,none⟩) (R_far (p:=⟨gb579,1,none⟩) (R_far (p:=⟨gb579,0,none⟩) (R_types HO_10.out BK579.out (by decide)) (fun _ hk=>hk.2) (.int .i64 t571)) (fun _ hk=>hk.2) (.slice Ao84 t572.length co84)) (fun _ hk=>hk.2) (.slice Ao85 t575.length co85)) (fun _ h_=>h_.1))) hb);replace HO_528001:=ak (R_below (by (with_reducible repeat (first|apply R_alloc|apply R_drewN|apply R_drew));exact (R_mono (R_far (p:=⟨gb579,2,none⟩) (R_far (p:=⟨gb579,1,none⟩) (R_far (p:=⟨gb579,0,none⟩) (R_types HO_528001.out BK579.out (by decide)) (fun _ hk=>hk.2) (.int .i64 t571)) (fun _ hk=>hk.2) (.slice Ao84 t572.length co84)) (fun _ hk=>hk.2) (.slice Ao85 t575.length co85)) (fun _ h_=>h_.1))) hb);replace HO_528002:=ak (R_below (by (with_reducible repeat (first|apply R_alloc|apply R_drewN|apply R_drew));exact (R_mono (R_far (p:=⟨gb579,2,none⟩) (R_far (p:=⟨gb579,1,none⟩) (R_far (p:=⟨gb579,0,none⟩) (R_types HO_528002.out BK579.out (by decide)) (fun _ hk=>hk.2) (.int .i64 t571)) (fun _ hk=>hk.2) (.slice Ao84 t572.length co84)) (fun _ hk=>hk.2) (.slice Ao85 t575.length co85)) (fun _ h_=>h_.1))) hb);replace HO565:=ak (R_below (by (with_reducible repeat (first|apply R_alloc|apply R_drewN|apply R_drew));exact (R_mono (R_far (p:=⟨gb579,2,none⟩) (R_far (p:=⟨gb579,1,none⟩) (R_far (p:=⟨gb579,0,none⟩) (R_types HO565.out BK579.out (by decide)) (fun _ hk=>hk.2) (.int .i64 t571)) (fun _ hk=>hk.2) (.slice Ao84 t572.length co84)) (fun _ hk=>hk.2) (.slice Ao85 t575.length co85)) (fun _ h_=>h_.1))) hb);replace HO568:=ak (R_below (by (with_reducible repeat (first|apply R_alloc|apply R_drewN|apply R_drew));exact (R_mono (R_far (p:=⟨gb579,2,none⟩) (R_far (p:=⟨gb579,1,none⟩) (R_far (p:=⟨gb579,0,none⟩) (R_types HO568.out BK579.out (by decide)) (fun _ hk=>hk.2) (.int .i64 t571)) (fun _ hk=>hk.2) (.slice Ao84 t572.length co84)) (fun _ hk=>hk.2) (.slice Ao85 t575.length co85)) (fun _ h_=>h_.1))) hb);replace HO574:=ak (R_below (by (with_reducible repeat (first|apply R_alloc|apply R_drewN|apply R_drew));exact (R_mono (R_far (p:=⟨gb579,2,none⟩) (R_far (p:=⟨gb579,1,none⟩) (R_far (p:=⟨gb579,0,none⟩) (R_types HO574.out BK579.out (by decide)) (fun _ hk=>hk.2) (.int .i64 t571)) (fun _ hk=>hk.2) (.slice Ao84 t572.length co84)) (fun _ hk=>hk.2) (.slice Ao85 t575.length co85)) (fun _ h_=>h_.1))) hb);replace HO577:=ak (R_below (by (with_reducible repeat (first|apply R_alloc|apply R_drewN|apply R_drew));exact (R_mono (R_far (p:=⟨gb579,2,none⟩) (R_far (p:=⟨gb579,1,none⟩) (R_far (p:=⟨gb579,0,none⟩) (R_types HO577.out BK579.out (by decide)) (fun _ hk=>hk.2) (.int .i64 t571)) (fun _ hk=>hk.2) (.slice Ao84 t572.length co84)) (fun _ hk=>hk.2) (.slice Ao85 t575.length co85)) (fun _ h_=>h_.1))) hb);replace BK527:=ak (blk_below (g:=gb527) (o:=.cells #[.int .i64 t520,.slice Ao11 t521.length co11,.slice Ao12 t524.length co12] 27 (0,0)) (by (with_reducible repeat (first|apply blk_drewN|apply blk_drew|apply blk_alloc));refine blk_far ?_ NB527_579.out _;(with_reducible repeat (first|apply blk_drewN|apply blk_drew|apply blk_alloc));refine blk_far ?_ NB527_579.out _;(with_reducible repeat (first|apply blk_drewN|apply blk_drew|apply blk_alloc));refine blk_far ?_ NB527_579.out _;exact bm BK527.out) hb);replace BK570:=ak (blk_below (g:=gb570) (o:=.cells #[.int .i64 t562,.slice Ao76 t563.length co76,.slice Ao77 t566.length co77] 27 (0,0)) (by (with_reducible repeat (first|apply blk_drewN|apply blk_drew|apply blk_alloc));refine blk_far ?_ NB570_579.out _;(with_reducible repeat (first|apply blk_drewN|apply blk_drew|apply blk_alloc));refine blk_far ?_ NB570_579.out _;(with_reducible repeat (first|apply blk_drewN|apply blk_drew|apply blk_alloc));refine blk_far ?_ NB570_579.out _;exact bm BK570.out) hb);replace BK579:=ak (blk_below (g:=gb579) (o:=.cells #[.int .i64 t571,.slice Ao84 t572.length co84,.slice Ao85 t575.length co85] 27 (0,0)) (by (with_reducible repeat (first|apply blk_drewN|apply blk_drew|apply blk_alloc));refine blk_put (cs:=#[.int .i64 t571,.slice Ao84 t572.length co84,.slice none 0 0]) ?_ 2 _ rfl;(with_reducible repeat (first|apply blk_drewN|apply blk_drew|apply blk_alloc));refine blk_put (cs:=#[.int .i64 t571,.slice none 0 0,.slice none 0 0]) ?_ 1 _ rfl;(with_reducible repeat (first|apply blk_drewN|apply blk_drew|apply blk_alloc));refine blk_put (cs:=#[.int .i64 0,.slice none 0 0,.slice none 0 0]) ?_ 0 _ rfl;exact bm BK579.out) hb);replace HB:=ak (below_step (h3 HB.out GE527.out GE570.out GE579.out) hb);(try clear hb);(try clear hk);(try clear hi))))
   go_meet
   case rel=>exact ⟨_,(!t580),fd,H',⟨by first|exact Nat.le_refl _|(have:=HJ6.out;have:=HJ36.out;have:=HJ49.out;have:=HJ59.out;omega)⟩,rq HO_4,rq HO_5,rq HO_10,rq HO_528001,rq HO_528002,rq HO565,rq HO568,rq HO574,rq HO577,⟨bm BK527.out⟩,⟨bm BK570.out⟩,⟨bm BK579.out⟩,⟨h3 HB.out GE527.out GE570.out GE579.out⟩⟩
 clear HC70
 try clear c1
 try clear c2
 try clear p2
 try clear c3
 try clear c4
 try clear c5
 try clear c6
 try clear c7
 try clear c8
 try clear c9
 try clear c10
 try clear c16
 try clear c16b0
 try clear c16b1
 try clear c16b2
 try clear c18
 try clear c18b0
 try clear c18b1
 try clear c18b2
 try clear c22
 try clear c34
 try clear c42
 try clear c42b0
 try clear c42b1
 try clear c42b2
 try clear c43
 try clear c43b0
 try clear c43b1
 try clear c43b2
 try clear c47
 try clear c55
 try clear c55b0
 try clear c55b1
 try clear c56
 try clear c56b0
 try clear c56b1
 try clear c56b2
 try clear c57
 try clear c65
 try clear c65b0
 try clear c65b1
 try clear c66
 try clear c66b0
 try clear c66b1
 try clear c66b2
 try clear c67
 try clear c74
 try clear c81
 try clear c82
 try clear c86
 try clear c86b0
 try clear c86b1
 try clear c86b2
 try clear c87
 try clear c87b0
 try clear c87b1
 try clear c87b2
 try clear c89
 try clear c90
 try clear c92
 try clear hcz10_0
 try clear hcz10_1
 try clear hcz10_2
 try clear hcz14_0
 try clear hcz14_1
 try clear hcz14_2
 try clear hcz19_0
 try clear hcz19_1
 try clear hcz19_2
 try clear hcz24_0
 try clear hcz24_1
 try clear hcz24_2
 try clear hcz30_0
 try clear hcz30_1
 try clear hcz30_2
 try clear hcz38_0
 try clear hcz38_1
 try clear hcz38_2
 try clear hcz40_0
 try clear hcz40_1
 try clear hcz40_2
 try clear hcz51_0
 try clear hcz51_1
 try clear hcz51_2
 try clear hcz53_0
 try clear hcz53_1
 try clear hcz53_2
 try clear hcz61_0
 try clear hcz61_1
 try clear hcz61_2
 try clear hcz63_0
 try clear hcz63_1
 try clear hcz63_2
 try clear hcz71_0
 try clear hcz71_1
 try clear hcz71_2
 try clear hcz75_0
 try clear hcz75_1
 try clear hcz75_2
 try clear hcz78_0
 try clear hcz78_1
 try clear hcz78_2
 try clear hcz83_0
 try clear hcz83_1
 try clear hcz83_2
 try clear hcz91_0
 try clear hcz91_1
 try clear hcz91_2
 try clear hcz93_0
 try clear hcz93_1
 try clear hcz93_2
 try clear hfz10_0
 try clear hfz10_1
 try clear hfz10_2
 try clear hfz14_0
 try clear hfz14_1
 try clear hfz14_2
 try clear hfz19_0
 try clear hfz19_1
 try clear hfz19_2
 try clear hfz24_0
 try clear hfz24_1
 try clear hfz24_2
 try clear hfz30_0
 try clear hfz30_1
 try clear hfz30_2
 try clear hfz38_0
 try clear hfz38_1
 try clear hfz38_2
 try clear hfz40_0
 try clear hfz40_1
 try clear hfz40_2
 try clear hfz51_0
 try clear hfz51_1
 try clear hfz51_2
 try clear hfz53_0
 try clear hfz53_1
 try clear hfz53_2
 try clear hfz61_0
 try clear hfz61_1
 try clear hfz61_2
 try clear hfz63_0
 try clear hfz63_1
 try clear hfz63_2
 try clear hfz71_0
 try clear hfz71_1
 try clear hfz71_2
 try clear hfz75_0
 try clear hfz75_1
 try clear hfz75_2
 try clear hfz78_0
 try clear hfz78_1
 try clear hfz78_2
 try clear hfz83_0
 try clear hfz83_1
 try clear hfz83_2
 try clear hfz91_0
 try clear hfz91_1
 try clear hfz91_2
 try clear hfz93_0
 try clear hfz93_1
 try clear hfz93_2
 try clear p2
 obtain ⟨kq,x177_69,rfl,HA,HJ69,HO_4,HO_5,HO_10,HO_528001,HO_528002,HO_571001,HO_571002,HO_580001,HO_580002,BK527,BK570,BK579,HB⟩:=hcut
 cases kq with
 | zero=>exact absurd HA.out (by simp [laws_FnWires.j4])
 | succ kj69 =>
  have H:=HA.out
  clear HA
  simp only [laws_FnWires.j4] at H
  by_cases c95 : x177_69 = true
  ·subst c95
   rw [if_pos rfl] at H
   as_aux_lemma =>
    obtain rfl:=Option.some.inj H
    go_wp2
    repeat (go_quiet (fail);try go_wp2)
    go_ret
    exact ⟨fe,h3 HB.out GE527.out GE570.out GE579.out⟩
  replace c95:=Bool.eq_false_iff.mpr c95
  subst c95
  rw [if_neg (show ¬ (false = true) by decide)] at H
  exact laws_FnWires.rest5 (by assumption) (by assumption) HR0 HC0 GE527 HJ6 HJ36 HJ49 HJ59 GE570 NB527_570 NB570_527 GE579 NB527_579 NB579_527 NB570_579 NB579_570 HO_4 HO_5 HO_10 HO_528001 HO_528002 HO_571001 HO_571002 HO_580001 HO_580002 BK527 BK570 BK579 HB HJ69 H
end
end Go.Proofs.Ytciihopkgblpkaa.QFnWires
