/- Functions that the law FnRelays comes to, and their walks: no condition but those named. -/
import Derived.Test.YthagkpoinjpmfaaQFnRelaysx0
import Derived.Test.YthagkpoinjpmfaaQFnRelaysx3
import Derived.Test.YthagkpoinjpmfaaQFnRelaysx6
import Derived.Test.YthagkpoinjpmfaaQFnRelaysx8
import Derived.Test.YthagkpoinjpmfaaQFnRelaysx9
import Derived.Test.YthagkpoinjpmfaaQFnRelaysx10
import Derived.Test.YthagkpoinjpmfaaQFnRelaysx12
import Derived.Test.YthagkpoinjpmfaaQFnRelaysx16
import Derived.Test.YthagkpoinjpmfaaQFnRelaysx17
import Derived.Test.YthagkpoinjpmfaaQFnRelaysx18
import Derived.Test.YthagkpoinjpmfaaQFnRelaysx20
namespace Go.Proofs.Ythagkpoinjpmfaa.QFnRelays
open Go.RowKit Go.Proofs.YthagkpoinjpmfaaW.PrintWords Go.Proofs.YthagkpoinjpmfaaW.PrintLast Go.Proofs.YthagkpoinjpmfaaW.PrintMore Go.Proofs.Ythagkpoinjpmfaa.Short
attribute [local go_sem] max2_int min2_int max_two min_two max_three min_three max_four min_four
set_option linter.unusedVariables false
set_option linter.unusedSimpArgs false
section
open Kd
set_option maxHeartbeats 8000000 in
set_option maxRecDepth 1000000 in
theorem laws_FnRelays.rest1 {k:Nat} {A0:Option Addr} {c0:Nat} {l0:List Int} {r:Bool} {w:World} {t635:Int} {t636:Bool} {t637:List S63} {t640 t641:Int} {t642:List S70} {t646 t647 t648 t649:Bool} {t650:Int} {t651:Bool} {t652:Int} {t653:Bool} {t654:Int} {t655:Bool} {t656:Int} {t657:Bool} {t661:Int} {t662:Bool} {t663 t664 t665 t666 t669:Int} {t670:Bool} {t671:Int} {t672:Bool} {t676:Int} {t677:Bool} {t678:List S63} {t682 t683 t684 t685:Bool} {gb645:Nat} {Ao23:Option Addr} {co23:Nat} {Ao24:Option Addr} {co24 gb667 gb668 gb681:Nat} {Ao58:Option Addr} {co58:Nat} {wc:World} {u43 u44 u45 u46 u47 u48 u49 u50 u51 u52 u53 u54 u55 u56 u57 u58 u59 u60 u61 u62 u63 u64 u65 u66 u67 u68 u69 u70 u71 u72 u73 u74 u75 u76 u77 u78 u79 u80 u81 u82 u83 u84 u85 u86 u87 u88 u89 u90 u91 u92 u93 u94 u95 u96 u97 u98 u99 u100 u101 u102 u103 u104 u105 u106 u107 u108 u109 u110 u111 u112 u113 u114 u115 u116 u117 u118 u119 u120 u121 u122 u123 u124 u125 u126 u127 u128 u129 u130 u131 u132 u133 u134 u135 u136 u137 u138 u139 u140 u141 u142 u143 u144 u145 u146 u147 u148 u149 u150 u151 u152 u153 u154 u155 u156 u157 u158 u159 u160 u161 u162 u163 u164 u165 u166 u167 u168 u169 u170 u171 u172 u173 u174 u175 u176 u177 u178 u179 u180 u181 u182 u183 u184 u185 u186 u187 u188 u189 u190 u191 u192 u193 u194 u195 u196 u197 u198 u199 u200 u201 u202 u203 u204 u205 u207 u208 u209 u210 u211 u212 u213 u214 u215 u216 u217 u218 u219 u220 u221 u222 u223 u224 u225 u226 u227 u228 u229 u230 u231 u232 u233 u234 u235 u236 u237 u238 u239 u240 u241 u242 u243 u244 u245 u246 u247 u248 u249 u250 u251 u252 u253 u254 u255 u256 u257 u258 u259 u260 u261 u262 u263 u264 u265 u266 u267 u268 u269 u270 u271 u272 u273 u274 u275 u276 u277 u278 u279 u280 u281 u282 u283 u284 u285 u286 u287 u288 u289 u290 u291 u292 u293 u294 u295 u296 u297 u298 u299 u300 u301 u302 u303 u304 u305 u306 u307 u308 u309 u310 u311 u312 u313 u314 u315 u316 u317 u318 u319 u320 u321 u322 u323 u324 u325 u326 u327 u328 u329:Value} {kj18:Nat} {K1 K:Act→World→Prop} (hK1:∀ a w_,Code.wp Try.prog (follow [true,true,true,true,true,true,true,true,true,true,true,true,true,true,true,true] (Try.f9.body.getD Code.skip)) (bodyPost Try.prog Try.f9 fun e w'=>e=Ending.returned (Value.bool r)∧Below w.heap.size w w') a w_→K1 a w_) (hK:∀ a w_,Code.wp Try.prog (follow [true,true,true,true,true,true,true,true,true,true,true,true,true,true,true,false,true] (Try.f9.body.getD Code.skip)) (Exit.then K1 (bodyPost Try.prog Try.f9 fun e w'=>e=Ending.returned (Value.bool r)∧Below w.heap.size w w')) a w_→K a w_) (GE645:Aside0 (w.heap.size≤gb645)) (GE667:Aside0 (w.heap.size≤gb667)) (NB645_667:Aside0 (gb645≠gb667)) (NB667_645:Aside0 (gb667≠gb645)) (GE668:Aside0 (w.heap.size≤gb668)) (NB645_668:Aside0 (gb645≠gb668)) (NB668_645:Aside0 (gb668≠gb645)) (NB667_668:Aside0 (gb667≠gb668)) (NB668_667:Aside0 (gb668≠gb667)) (GE681:Aside0 (w.heap.size≤gb681)) (NB645_681:Aside0 (gb645≠gb681)) (NB681_645:Aside0 (gb681≠gb645)) (NB667_681:Aside0 (gb667≠gb681)) (NB681_667:Aside0 (gb681≠gb667)) (HO_4:Aside0 (k63.R 63 wc w.heap.size (fun k_=>k_≠gb668) (Value.slice Ao23 t637.length co23) t637)) (HO_7:Aside0 (k70.R 70 wc w.heap.size (fun x=>True) (Value.slice Ao24 t642.length co24) t642)) (BK645:Aside0 (wc.heap[gb645]? =some (Obj.cells #[Value.int IntKind.i64 t635,Value.bool t636] 28))) (BK667:Aside0 (wc.heap[gb667]? =some (Obj.cells #[Value.int IntKind.i64 t661,Value.bool t662] 28))) (BK668:Aside0 (wc.heap[gb668]? =some (Obj.cells #[Value.int IntKind.i64 t663,Value.int IntKind.i64 t664,Value.int IntKind.i64 t665] 63))) (BK681:Aside0 (wc.heap[gb681]? =some (Obj.cells #[Value.int IntKind.i64 t676,Value.bool t677] 28))) (HB:Aside0 (Below w.heap.size w wc)) (HJ18:Aside0 (kj18+1≤k)) (H: (if t670=true then if t669<t666 then j1 kj18 t637 t640 t641 t642 t650 t651 t654 true t635 t636 else j1 kj18 t637 t640 t641 t642 t650 t651 t654 (decide (t669>wrap64 (t661-1))) t635 t636 else j1 kj18 t637 t640 t641 t642 t650 t651 t654 false t635 t636)=some r):
  K {tmps:= #[Value.slice A0 l0.length c0,undef,Value.bool false,Value.pointer (some {block:=gb645,off:=0}),Value.slice Ao23 t637.length co23,Value.int IntKind.i64 t640,Value.int IntKind.i64 t641,Value.slice Ao24 t642.length co24,Value.bool t646,Value.bool t647,Value.bool t648,Value.bool t649,Value.int IntKind.i64 t650,Value.bool t651,Value.int IntKind.i64 t652,Value.bool t653,Value.int IntKind.i64 t654,Value.bool t655,Value.int IntKind.i64 t656,Value.bool t657,Value.pointer (some {block:=gb667,off:=0}),Value.pointer (some {block:=gb668,off:=0}),Value.int IntKind.i64 t666,Value.int IntKind.i64 t669,Value.bool t670,Value.int IntKind.i64 t671,Value.bool t672,Value.pointer (some {block:=gb681,off:=0}),Value.slice Ao58 t678.length co58,Value.bool t682,Value.bool t683,Value.bool t684,Value.bool t685,undef,undef,undef,undef,undef,undef,undef,undef,undef,undef,u43,u44,u45,u46,u47,u48,u49,u50,u51,u52,u53,u54,u55,u56,u57,u58,u59,u60,u61,u62,u63,u64,u65,u66,u67,u68,u69,u70,u71,u72,u73,u74,u75,u76,u77,u78,u79,u80,u81,u82,u83,u84,u85,u86,u87,u88,u89,u90,u91,u92,u93,u94,u95,u96,u97,u98,u99,u100,u101,u102,u103,u104,u105,u106,u107,u108,u109,u110,u111,u112,u113,u114,u115,u116,u117,u118,u119,u120,u121,u122,u123,u124,u125,u126,u127,u128,u129,u130,u131,u132,u133,u134,u135,u136,u137,u138,u139,u140,u141,u142,u143,u144,u145,u146,u147,u148,u149,u150,u151,u152,u153,u154,u155,u156,u157,u158,u159,u160,u161,u162,u163,u164,u165,u166,u167,u168,u169,u170,u171,u172,u173,u174,u175,u176,u177,u178,u179,u180,u181,u182,u183,u184,u185,u186,u187,u188,u189,u190,u191,u192,u193,u194,u195,u196,u197,u198,u199,u200,u201,u202,u203,u204,u205,Value.bool false,u207,u208,u209,u210,u211,u212,u213,u214,u215,u216,u217,u218,u219,u220,u221,u222,u223,u224,u225,u226,u227,u228,u229,u230,u231,u232,u233,u234,u235,u236,u237,u238,u239,u240,u241,u242,u243,u244,u245,u246,u247,u248,u249,u250,u251,u252,u253,u254,u255,u256,u257,u258,u259,u260,u261,u262,u263,u264,u265,u266,u267,u268,u269,u270,u271,u272,u273,u274,u275,u276,u277,u278,u279,u280,u281,u282,u283,u284,u285,u286,u287,u288,u289,u290,u291,u292,u293,u294,u295,u296,u297,u298,u299,u300,u301,u302,u303,u304,u305,u306,u307,u308,u309,u310,u311,u312,u313,u314,u315,u316,u317,u318,u319,u320,u321,u322,u323,u324,u325,u326,u327,u328,u329],defers:=[]} wc:=by
 have hu28:=Try.underlying28
 have hu63:=Try.underlying63
 conv at hK1=>enter [a,w_,1,2];whnf
 conv at hK=>enter [a,w_,1,2];whnf
 (try dsimp only)
 have HC75:=Aside0.mk H
 clear H
 go_upto_region 18 with(fail)
 go_cut [219] (fun v219 wc=>∃ (kq:Nat) (x219_74:Bool),v219= .bool x219_74∧Aside0 (laws_FnRelays.j1 kq t637 t640 t641 t642 t650 t651 t654 x219_74 t635 t636=some r)∧Aside0 (kq≤kj18)∧Aside0 (Kd.R k63 63 wc w.heap.size (fun k_=>k_≠gb668) (.slice Ao23 t637.length co23) t637)∧Aside0 (Kd.R k70 70 wc w.heap.size (fun _=>True) (.slice Ao24 t642.length co24) t642)∧Aside0 (wc.heap[gb645]? =some (.cells #[.int .i64 t635,.bool t636] 28 (0,0)))∧Aside0 (wc.heap[gb667]? =some (.cells #[.int .i64 t661,.bool t662] 28 (0,0)))∧Aside0 (wc.heap[gb668]? =some (.cells #[.int .i64 t663,.int .i64 t664,.int .i64 t665] 63 (0,0)))∧Aside0 (wc.heap[gb681]? =some (.cells #[.int .i64 t676,.bool t677] 28 (0,0)))∧Aside0 (Below w.heap.size w wc))
 case first=>
  have H:=HC75.out
  clear HC75
  by_cases c76:t670=true
  rotate_left
  ·replace c76:=Bool.eq_false_iff.mpr c76
   subst c76
   rw[if_neg (show ¬(false=true)by decide)]at H
   as_aux_lemma=>
    have H':=Aside0.mk H
    clear H
    go_wp2
    go_meet
    case rel=>exact⟨_,(false),fd,H',⟨by first|exact Nat.le_refl _|(have:=HJ18.out;omega)⟩,⟨rm HO_4.out⟩,⟨rm HO_7.out⟩,⟨bm BK645.out⟩,⟨bm BK667.out⟩,⟨bm BK668.out⟩,⟨bm BK681.out⟩,⟨by repeat(first|(with_reducible first|exact HB.out|apply below_alloc|apply pw_below_drewN|apply below_drew1|refine below_set ?_ GE645.out|refine below_set ?_ GE667.out|refine below_set ?_ GE668.out|refine below_set ?_ GE681.out)|exact HB.out)⟩⟩
  subst c76
  rw[if_pos rfl]at H
  by_cases c77:t669<t666
  ·rw[if_pos c77]at H
   have c77b0:decide (t669<t666)=true:=decide_eq_true c77
   clear c77
   (first|rw[c77b0]|(simp only[i64_w,i32_w];rw[c77b0])|skip)
   as_aux_lemma=>
    have H':=Aside0.mk H
    clear H
    go_wp2
    go_meet
    case rel=>exact⟨_,(true),fd,H',⟨by first|exact Nat.le_refl _|(have:=HJ18.out;omega)⟩,⟨rm HO_4.out⟩,⟨rm HO_7.out⟩,⟨bm BK645.out⟩,⟨bm BK667.out⟩,⟨bm BK668.out⟩,⟨bm BK681.out⟩,⟨by repeat(first|(with_reducible first|exact HB.out|apply below_alloc|apply pw_below_drewN|apply below_drew1|refine below_set ?_ GE645.out|refine below_set ?_ GE667.out|refine below_set ?_ GE668.out|refine below_set ?_ GE681.out)|exact HB.out)⟩⟩
  rw[if_neg c77]at H
  have c77b0:decide (t669<t666)=false:=decide_eq_false c77
  clear c77
  (first|rw[c77b0]|(simp only[i64_w,i32_w];rw[c77b0])|skip)
  as_aux_lemma=>
   have H':=Aside0.mk H
   clear H
   have hnb78:=NB667_645.out
   have hnc78:=NB645_667.out
   have hnb79:=NB667_668.out
   have hnc79:=NB668_667.out
   have hnb80:=NB667_681.out
   have hnc80:=NB681_667.out
   have hcz81_0:=bc BK667 0 rfl
   have hcz81_1:=bc BK667 1 rfl
   have hfz81_0:=bf BK667 0
   have hfz81_1:=bf BK667 1
   go_wp2
   go_meet
   case rel=>exact⟨_,(decide (t669>(wrap64 (t661-1)))),fd,H',⟨by first|exact Nat.le_refl _|(have:=HJ18.out;omega)⟩,⟨rm HO_4.out⟩,⟨rm HO_7.out⟩,⟨bm BK645.out⟩,⟨bm BK667.out⟩,⟨bm BK668.out⟩,⟨bm BK681.out⟩,⟨by repeat(first|(with_reducible first|exact HB.out|apply below_alloc|apply pw_below_drewN|apply below_drew1|refine below_set ?_ GE645.out|refine below_set ?_ GE667.out|refine below_set ?_ GE668.out|refine below_set ?_ GE681.out)|exact HB.out)⟩⟩
 clear HC75
 obtain⟨kq,x219_74,rfl,HA,HJ74,HO_4,HO_7,BK645,BK667,BK668,BK681,HB⟩:=hcut
 obtain _|kj74:=kq;·cases HA.out
 obtain⟨H⟩:=HA
 simp only[laws_FnRelays.j1]at H
 by_cases c82:x219_74=true
 ·subst c82
  rw[if_pos rfl]at H
  as_aux_lemma=>
   obtain rfl:=Option.some.inj H
   go_wp2
   go_ret
   exact⟨fe,by repeat(first|(with_reducible first|exact HB.out|apply below_alloc|apply pw_below_drewN|apply below_drew1|refine below_set ?_ GE645.out|refine below_set ?_ GE667.out|refine below_set ?_ GE668.out|refine below_set ?_ GE681.out)|exact HB.out)⟩
 replace c82:=Bool.eq_false_iff.mpr c82
 subst c82
 rw[if_neg (show ¬(false=true)by decide)]at H
 exact laws_FnRelays.rest2 (by assumption) (by assumption) GE645 GE667 NB645_667 NB667_645 GE668 NB645_668 NB668_645 GE681 NB645_681 NB681_645 HJ18 HO_4 HO_7 BK645 BK667 BK668 BK681 HB HJ74 H
end
end Go.Proofs.Ythagkpoinjpmfaa.QFnRelays
