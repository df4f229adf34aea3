/- Functions that the law FnReaches comes to, and their walks: no condition but those named. -/
import Derived.Test.YthagkpoinjpmfaaQFnReachesx0
import Derived.Test.YthagkpoinjpmfaaQFnReachesx3
import Derived.Test.YthagkpoinjpmfaaQFnReachesx6
import Derived.Test.YthagkpoinjpmfaaQFnReachesx7
import Derived.Test.YthagkpoinjpmfaaQFnReachesx8
import Derived.Test.YthagkpoinjpmfaaQFnReachesx9
import Derived.Test.YthagkpoinjpmfaaQFnReachesx11
import Derived.Test.YthagkpoinjpmfaaQFnReachesx13
import Derived.Test.YthagkpoinjpmfaaQFnReachesx15
import Derived.Test.YthagkpoinjpmfaaQFnReachesx16
import Derived.Test.YthagkpoinjpmfaaQFnReachesx17
import Derived.Test.YthagkpoinjpmfaaQFnReachesx18
import Derived.Test.YthagkpoinjpmfaaQFnReachesx20
namespace Go.Proofs.Ythagkpoinjpmfaa.QFnReaches
open Go.RowKit Go.Proofs.YthagkpoinjpmfaaW.PrintWords Go.Proofs.YthagkpoinjpmfaaW.PrintLast Go.Proofs.YthagkpoinjpmfaaW.PrintMore Go.Proofs.Ythagkpoinjpmfaa.Short
attribute [local go_sem] max2_int min2_int max_two min_two max_three min_three max_four min_four
set_option linter.unusedVariables false
set_option linter.unusedSimpArgs false
section
open Kd
set_option maxHeartbeats 8000000 in
set_option maxRecDepth 1000000 in
theorem laws_FnReaches.rest2 {k:Nat} {A0:Option Addr} {c0:Nat} {l0:List Int} {r:Bool} {w:World} {t722:Int} {t723:Bool} {t724:List S63} {t727 t728:Int} {t730:List Int} {t733 t737:Bool} {t738:Int} {t739:Bool} {t740:Int} {t741:Bool} {t742:Int} {t743:Bool} {t744:Int} {t745:Bool} {t746:Int} {t747:Bool} {t748:Int} {t749:Bool} {t750:Int} {t751:Bool} {t752:Int} {t753:Bool} {t757:Int} {t758:Bool} {t759:List S63} {t762 t764:Int} {t765:Bool} {t766:Int} {t767:Bool} {t771:Int} {t772:Bool} {t773:List S63} {t776:List Int} {t779 t781:Int} {t782:Bool} {t783:Int} {t784:Bool} {gb729:Nat} {Ao27:Option Addr} {co27:Nat} {v731 v735:Value} {gb763:Nat} {Ao53:Option Addr} {co53 gb780:Nat} {Ao64:Option Addr} {co64:Nat} {Ao65:Option Addr} {co65 kj22:Nat} {wc:World} {u2 u42 u43 u50 u51 u52 u53 u54 u55 u56 u57 u58 u59 u60 u61 u62 u63 u64 u65 u66 u67 u68 u69 u70 u71 u72 u73 u74 u75 u76 u77 u78 u79 u80 u81 u82 u83 u84 u85 u86 u87 u88 u89 u90 u91 u92 u93 u94 u95 u96 u97 u98 u99 u100 u101 u102 u103 u104 u105 u106 u107 u108 u109 u110 u111 u112 u113 u114 u115 u116 u117 u118 u119 u120 u121 u122 u123 u124 u125 u126 u127 u128 u129 u130 u131 u132 u133 u134 u135 u136 u137 u138 u139 u140 u141 u142 u143 u144 u145 u146 u147 u148 u149 u150 u151 u152 u153 u154 u155 u156 u157 u158 u159 u160 u161 u162 u163 u164 u165 u166 u167 u168 u169 u170 u171 u172 u173 u174 u175 u176 u177 u178 u179 u180 u181 u182 u183 u184 u185 u186 u187 u188 u189 u190 u191 u192 u193 u194 u195 u196 u197 u198 u199 u200 u201 u202 u203 u204 u205 u206 u207 u208 u209 u210 u211 u212 u213 u214 u215 u216 u217 u218 u219 u220 u221 u222 u223 u224 u225 u226 u227 u228 u229 u230 u231 u232 u233 u234 u235 u236 u237 u238 u239 u240 u241 u242 u243 u244 u245 u246 u247 u248 u249 u250 u251 u252 u253 u254 u255 u256 u257 u258 u259 u260 u261 u262 u263 u264 u265 u266 u267 u268 u269 u270 u271 u272 u273 u274 u275 u276 u277 u278 u279 u280 u281 u282 u283 u284 u285 u286 u287 u288 u289 u290 u291 u292 u293 u294 u295 u296 u297 u298 u299 u300 u301 u302 u303 u304 u305 u306 u307 u308 u309 u310 u311 u312 u313 u314 u315 u316 u317 u318 u319 u320 u321 u322 u323 u324 u325 u326 u327 u328 u329 u330 u331 u332 u333 u334 u335 u336 u337 u338 u339 u340 u341 u342 u343 u344 u345 u346 u347 u348 u349 u350 u351 u352 u353 u354 u355 u356 u357 u358 u359 u360 u361 u362 u363 u364 u365 u366 u367:Value} {kj118:Nat} {K:Act→World→Prop} (hK:∀ a w_,Code.wp Try.prog (follow [true,true,true,true,true,true,true,true,true,true,true,true,true,true,true,true,true,true,true,true,true] (Try.f8.body.getD Code.skip)) (bodyPost Try.prog Try.f8 fun e w'=>e=Ending.returned (Value.bool r)∧Below w.heap.size w w') a w_→K a w_) (GE729:Aside0 (w.heap.size≤gb729)) (GE763:Aside0 (w.heap.size≤gb763)) (NB729_763:Aside0 (gb729≠gb763)) (NB763_729:Aside0 (gb763≠gb729)) (GE780:Aside0 (w.heap.size≤gb780)) (NB729_780:Aside0 (gb729≠gb780)) (NB780_729:Aside0 (gb780≠gb729)) (NB763_780:Aside0 (gb763≠gb780)) (NB780_763:Aside0 (gb780≠gb763)) (HJ22:Aside0 (kj22+1≤k)) (HO_4:Aside0 (k63.R 63 wc w.heap.size (fun x=>True) (Value.slice Ao27 t724.length co27) t724)) (HO_7:Aside0 ((int IntKind.i64).R 3 wc w.heap.size (fun x=>True) v731 t730)) (BK729:Aside0 (wc.heap[gb729]? =some (Obj.cells #[Value.int IntKind.i64 t722,Value.bool t723] 28))) (BK763:Aside0 (wc.heap[gb763]? =some (Obj.cells #[Value.int IntKind.i64 t757,Value.bool t758] 28))) (BK780:Aside0 (wc.heap[gb780]? =some (Obj.cells #[Value.int IntKind.i64 t771,Value.bool t772] 28))) (HB:Aside0 (Below w.heap.size w wc)) (HJ118:Aside0 (kj118+1≤kj22)) (H: (if t765=true then if t764<t762 then j2 kj118 t724 t727 t728 t730 t733 t738 t742 t743 t750 true t722 t723 else j2 kj118 t724 t727 t728 t730 t733 t738 t742 t743 t750 (decide (t764>wrap64 (t757-1))) t722 t723 else j2 kj118 t724 t727 t728 t730 t733 t738 t742 t743 t750 false t722 t723)=some r):
  K {tmps:= #[Value.slice A0 l0.length c0,undef,u2,Value.pointer (some {block:=gb729,off:=0}),Value.slice Ao27 t724.length co27,Value.int IntKind.i64 t727,Value.int IntKind.i64 t728,v731,Value.bool t733,v735,Value.bool t737,Value.int IntKind.i64 t738,Value.bool t739,Value.int IntKind.i64 t740,Value.bool t741,Value.int IntKind.i64 t742,Value.bool t743,Value.int IntKind.i64 t744,Value.bool t745,Value.int IntKind.i64 t746,Value.bool t747,Value.int IntKind.i64 t748,Value.bool t749,Value.int IntKind.i64 t750,Value.bool t751,Value.int IntKind.i64 t752,Value.bool t753,Value.pointer (some {block:=gb763,off:=0}),Value.slice Ao53 t759.length co53,Value.int IntKind.i64 t762,Value.int IntKind.i64 t764,Value.bool t765,Value.int IntKind.i64 t766,Value.bool t767,Value.pointer (some {block:=gb780,off:=0}),Value.slice Ao64 t773.length co64,Value.slice Ao65 t776.length co65,Value.int IntKind.i64 t779,Value.int IntKind.i64 t781,Value.bool t782,Value.int IntKind.i64 t783,Value.bool t784,u42,u43,undef,undef,undef,undef,undef,undef,u50,u51,u52,u53,u54,u55,u56,u57,u58,u59,u60,u61,u62,u63,u64,u65,u66,u67,u68,u69,u70,u71,u72,u73,u74,u75,u76,u77,u78,u79,u80,u81,u82,u83,u84,u85,u86,u87,u88,u89,u90,u91,u92,u93,u94,u95,u96,u97,u98,u99,u100,u101,u102,u103,u104,u105,u106,u107,u108,u109,u110,u111,u112,u113,u114,u115,u116,u117,u118,u119,u120,u121,u122,u123,u124,u125,u126,u127,u128,u129,u130,u131,u132,u133,u134,u135,u136,u137,u138,u139,u140,u141,u142,u143,u144,u145,u146,u147,u148,u149,u150,u151,u152,u153,u154,u155,u156,u157,u158,u159,u160,u161,u162,u163,u164,u165,u166,u167,u168,u169,u170,u171,u172,u173,u174,u175,u176,u177,u178,u179,u180,u181,u182,u183,u184,u185,u186,u187,u188,u189,u190,u191,u192,u193,u194,u195,u196,u197,u198,u199,u200,u201,u202,u203,u204,u205,u206,u207,u208,u209,u210,u211,u212,u213,u214,u215,u216,u217,u218,u219,u220,u221,u222,u223,u224,u225,u226,u227,u228,u229,u230,u231,u232,u233,u234,u235,u236,u237,u238,u239,u240,u241,u242,u243,u244,u245,u246,u247,u248,u249,u250,u251,u252,u253,u254,u255,u256,u257,u258,u259,u260,u261,u262,u263,u264,u265,u266,u267,u268,u269,u270,u271,u272,u273,u274,u275,u276,u277,u278,u279,u280,u281,u282,u283,u284,u285,u286,u287,u288,u289,u290,u291,u292,u293,u294,u295,u296,u297,u298,u299,u300,u301,u302,u303,u304,u305,u306,u307,u308,u309,u310,u311,u312,u313,u314,u315,u316,u317,u318,u319,u320,u321,u322,u323,u324,u325,u326,u327,u328,u329,u330,u331,u332,u333,u334,u335,u336,u337,u338,u339,u340,u341,u342,u343,u344,u345,u346,u347,u348,u349,u350,u351,u352,u353,u354,u355,u356,u357,u358,u359,u360,u361,u362,u363,u364,u365,u366,u367],defers:=[]} wc:=by
 have hu28:=Try.underlying28
 conv at hK=>enter [a,w_,1,2];whnf
 (try dsimp only)
 have HC141:=Aside0.mk H
 clear H
 go_upto_region 26 with(fail)
 go_cut [300] (fun v300 wc=>∃ (kq:Nat) (x300_140:Bool),v300= .bool x300_140∧Aside0 (laws_FnReaches.j2 kq t724 t727 t728 t730 t733 t738 t742 t743 t750 x300_140 t722 t723=some r)∧Aside0 (kq≤kj118)∧Aside0 (Kd.R k63 63 wc w.heap.size (fun _=>True) (.slice Ao27 t724.length co27) t724)∧Aside0 (Kd.R (Kd.int .i64) 3 wc w.heap.size (fun _=>True) v731 t730)∧Aside0 (wc.heap[gb729]? =some (.cells #[.int .i64 t722,.bool t723] 28 (0,0)))∧Aside0 (wc.heap[gb763]? =some (.cells #[.int .i64 t757,.bool t758] 28 (0,0)))∧Aside0 (wc.heap[gb780]? =some (.cells #[.int .i64 t771,.bool t772] 28 (0,0)))∧Aside0 (Below w.heap.size w wc))
 case first=>
  have H:=HC141.out
  clear HC141
  by_cases c142:t765=true
  rotate_left
  ·replace c142:=Bool.eq_false_iff.mpr c142
   subst c142
   rw[if_neg (show ¬(false=true)by decide)]at H
   as_aux_lemma=>
    have H':=Aside0.mk H
    clear H
    go_wp2
    go_meet
    case rel=>exact⟨_,(false),fd,H',⟨by first|exact Nat.le_refl _|(have:=HJ22.out;have:=HJ118.out;omega)⟩,⟨rm HO_4.out⟩,⟨rm HO_7.out⟩,⟨bm BK729.out⟩,⟨bm BK763.out⟩,⟨bm BK780.out⟩,⟨h3 HB.out GE729.out GE763.out GE780.out⟩⟩
  subst c142
  rw[if_pos rfl]at H
  by_cases c143:t764<t762
  ·rw[if_pos c143]at H
   have c143b0:decide (t764<t762)=true:=decide_eq_true c143
   clear c143
   (first|rw[c143b0]|(simp only[i64_w,i32_w];rw[c143b0])|skip)
   as_aux_lemma=>
    have H':=Aside0.mk H
    clear H
    go_wp2
    go_meet
    case rel=>exact⟨_,(true),fd,H',⟨by first|exact Nat.le_refl _|(have:=HJ22.out;have:=HJ118.out;omega)⟩,⟨rm HO_4.out⟩,⟨rm HO_7.out⟩,⟨bm BK729.out⟩,⟨bm BK763.out⟩,⟨bm BK780.out⟩,⟨h3 HB.out GE729.out GE763.out GE780.out⟩⟩
  rw[if_neg c143]at H
  have c143b0:decide (t764<t762)=false:=decide_eq_false c143
  clear c143
  (first|rw[c143b0]|(simp only[i64_w,i32_w];rw[c143b0])|skip)
  as_aux_lemma=>
   have H':=Aside0.mk H
   clear H
   have hnb144:=NB763_729.out
   have hnc144:=NB729_763.out
   have hnb145:=NB763_780.out
   have hnc145:=NB780_763.out
   have hcz146_0:=bc BK763 0 rfl
   have hcz146_1:=bc BK763 1 rfl
   have hfz146_0:=bf BK763 0
   have hfz146_1:=bf BK763 1
   go_wp2
   go_meet
   case rel=>exact⟨_,(decide (t764>(wrap64 (t757-1)))),fd,H',⟨by first|exact Nat.le_refl _|(have:=HJ22.out;have:=HJ118.out;omega)⟩,⟨rm HO_4.out⟩,⟨rm HO_7.out⟩,⟨bm BK729.out⟩,⟨bm BK763.out⟩,⟨bm BK780.out⟩,⟨h3 HB.out GE729.out GE763.out GE780.out⟩⟩
 clear HC141
 obtain⟨kq,x300_140,rfl,HA,HJ140,HO_4,HO_7,BK729,BK763,BK780,HB⟩:=hcut
 obtain _|kj140:=kq;·cases HA.out
 obtain⟨H⟩:=HA
 simp only[laws_FnReaches.j2]at H
 by_cases c147:x300_140=true
 ·subst c147
  rw[if_pos rfl]at H
  as_aux_lemma=>
   obtain rfl:=Option.some.inj H
   go_wp2
   go_ret
   exact⟨fe,h3 HB.out GE729.out GE763.out GE780.out⟩
 replace c147:=Bool.eq_false_iff.mpr c147
 subst c147
 rw[if_neg (show ¬(false=true)by decide)]at H
 exact laws_FnReaches.rest3 (by assumption) (by assumption) GE729 GE763 NB729_763 NB763_729 GE780 NB729_780 NB780_729 HJ22 HJ118 HO_4 HO_7 BK729 BK763 BK780 HB HJ140 H
end
end Go.Proofs.Ythagkpoinjpmfaa.QFnReaches
