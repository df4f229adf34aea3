/- Functions that the law FnReaches comes to, and their walks: no condition but those named. -/
import Derived.Test.YthagkpoinjpmfaaQFnReachesx0
import Derived.Test.YthagkpoinjpmfaaQFnReachesx3
import Derived.Test.YthagkpoinjpmfaaQFnReachesx6
import Derived.Test.YthagkpoinjpmfaaQFnReachesx7
import Derived.Test.YthagkpoinjpmfaaQFnReachesx8
import Derived.Test.YthagkpoinjpmfaaQFnReachesx9
import Derived.Test.YthagkpoinjpmfaaQFnReachesx11
import Derived.Test.YthagkpoinjpmfaaQFnReachesx13
import Derived.Test.YthagkpoinjpmfaaQFnReachesx15
import Derived.Test.YthagkpoinjpmfaaQFnReachesx16
import Derived.Test.YthagkpoinjpmfaaQFnReachesx17
import Derived.Test.YthagkpoinjpmfaaQFnReachesx18
namespace Go.Proofs.Ythagkpoinjpmfaa.QFnReaches
open Go.RowKit Go.Proofs.YthagkpoinjpmfaaW.PrintWords Go.Proofs.YthagkpoinjpmfaaW.PrintLast Go.Proofs.YthagkpoinjpmfaaW.PrintMore Go.Proofs.Ythagkpoinjpmfaa.Short
attribute [local go_sem] max2_int min2_int max_two min_two max_three min_three max_four min_four
set_option linter.unusedVariables false
set_option linter.unusedSimpArgs false
section
open Kd
set_option maxHeartbeats 8000000 in
set_option maxRecDepth 1000000 in
theorem laws_FnReaches.rest4 {A0:Option Addr} {c0:Nat} {l0:List Int} {r:Bool} {w:World} {t722:Int} {t723:Bool} {t724:List S63} {t727 t728:Int} {t730:List Int} {t733 t737:Bool} {t738:Int} {t739:Bool} {t740:Int} {t741:Bool} {t742:Int} {t743:Bool} {t744:Int} {t745:Bool} {t746:Int} {t747:Bool} {t748:Int} {t749:Bool} {t750:Int} {t751:Bool} {t752:Int} {t753:Bool} {t757:Int} {t758:Bool} {t759:List S63} {t762 t764:Int} {t765:Bool} {t766:Int} {t767:Bool} {t771:Int} {t772:Bool} {t773:List S63} {t776:List Int} {t779 t781:Int} {t782:Bool} {t783:Int} {t784:Bool} {gb729:Nat} {Ao27:Option Addr} {co27:Nat} {v731 v735:Value} {gb763:Nat} {Ao53:Option Addr} {co53 gb780:Nat} {Ao64:Option Addr} {co64:Nat} {Ao65:Option Addr} {co65:Nat} {u2 u42 u43:Value} {wc:World} {u50 u51 u52 u53 u54 u55 u56 u57 u58 u59 u60 u61 u62 u63 u64 u65 u66 u67 u68 u69 u70 u71 u72 u73 u74 u75 u76 u77 u78 u79 u80 u81 u82 u83 u84 u85 u86 u87 u88 u89 u90 u91 u92 u93 u94 u95 u96 u97 u98 u99 u100 u101 u102 u103 u104 u105 u106 u107 u108 u109 u110 u111 u112 u113 u114 u115 u116 u117 u118 u119 u120 u121 u122 u123 u124 u125 u126 u127 u128 u129 u130 u131 u132 u133 u134 u135 u136 u137 u138 u139 u140 u141 u142 u143 u144 u145 u146 u147 u148 u149 u150 u151 u152 u153 u154 u155 u156 u157 u158 u159 u160 u161 u162 u163 u164 u165 u166 u167 u168 u169 u170 u171 u172 u173 u174 u175 u176 u177 u178 u179 u180 u181 u182 u183 u184 u185 u186 u187 u188 u189 u190 u191 u192 u193 u194 u195 u196 u197 u198 u199 u200 u201 u202 u203 u204 u205 u206 u207 u208 u209 u210 u211 u212 u213 u214 u215 u216 u217 u218 u219 u220 u221 u222 u223 u224 u225 u226 u227 u228 u229 u230 u231 u232 u233 u234 u235 u236 u237 u238 u239 u240 u241 u242 u243 u244 u245 u246 u247 u248 u249 u250 u251 u252 u253 u254 u255 u256 u257 u258 u259 u260 u261 u262 u263 u264 u265 u266 u267 u268 u269 u270 u271 u272 u273 u274 u275 u276 u277 u278 u279 u280 u281 u282 u283 u284 u285 u286 u287 u288 u289 u290 u291 u292 u293 u294 u295 u296 u297 u298 u299 u300 u301 u302 u303 u304 u305 u306 u308 u309 u310 u311 u312 u313 u314 u315 u316 u317 u318 u319 u320 u321 u322 u323 u324 u325 u326 u327 u328 u329 u330 u331 u332 u333 u334 u335 u336 u337 u338 u339 u340 u341 u342 u343 u344 u345 u346 u347 u348 u349 u350 u351 u352 u353 u354 u355 u356 u357 u358 u359 u360 u361 u362 u363 u364 u365 u366 u367:Value} {kj147:Nat} {K1 K:Act→World→Prop} (hK1:∀ a w_,Code.wp Try.prog (follow [true,true,true,true,true,true,true,true,true,true,true,true,true,true,true,true,true,true,true,true,true,true,true] (Try.f8.body.getD Code.skip)) (bodyPost Try.prog Try.f8 fun e w'=>e=Ending.returned (Value.bool r)∧Below w.heap.size w w') a w_→K1 a w_) (hK:∀ a w_,Code.wp Try.prog (follow [true,true,true,true,true,true,true,true,true,true,true,true,true,true,true,true,true,true,true,true,true,true,false,true] (Try.f8.body.getD Code.skip)) (Exit.then K1 (bodyPost Try.prog Try.f8 fun e w'=>e=Ending.returned (Value.bool r)∧Below w.heap.size w w')) a w_→K a w_) (GE729:Aside0 (w.heap.size≤gb729)) (GE763:Aside0 (w.heap.size≤gb763)) (NB729_763:Aside0 (gb729≠gb763)) (NB763_729:Aside0 (gb763≠gb729)) (GE780:Aside0 (w.heap.size≤gb780)) (NB729_780:Aside0 (gb729≠gb780)) (NB780_729:Aside0 (gb780≠gb729)) (HO_4:Aside0 (k63.R 63 wc w.heap.size (fun x=>True) (Value.slice Ao27 t724.length co27) t724)) (HO_7:Aside0 ((int IntKind.i64).R 3 wc w.heap.size (fun x=>True) v731 t730)) (BK729:Aside0 (wc.heap[gb729]? =some (Obj.cells #[Value.int IntKind.i64 t722,Value.bool t723] 28))) (BK763:Aside0 (wc.heap[gb763]? =some (Obj.cells #[Value.int IntKind.i64 t757,Value.bool t758] 28))) (BK780:Aside0 (wc.heap[gb780]? =some (Obj.cells #[Value.int IntKind.i64 t771,Value.bool t772] 28))) (HB:Aside0 (Below w.heap.size w wc)) (H: (if t733=true then(impl_OrderReach.f kj147 t722 t723 t724 t730 t727).bind fun bt788=>(impl_GreatestReach.f kj147 t722 t723 t724 t727).bind fun bt790=>(impl_GapOf.f kj147 t722 t723 t727 t728).bind fun bt792=>if bt788.snd=true then if bt790.snd=true then if bt792.snd=true then if bt788.fst≥t728 then if bt790.fst≥t728 then if(↑t730.length:Int)=t738 then if t750≥bt792.fst then some (decide (t738>0)==decide (t727<t728))else some false else some false else some false else some false else some false else some false else some false else some true)=some r):
  K {tmps:= #[Value.slice A0 l0.length c0,undef,u2,Value.pointer (some {block:=gb729,off:=0}),Value.slice Ao27 t724.length co27,Value.int IntKind.i64 t727,Value.int IntKind.i64 t728,v731,Value.bool t733,v735,Value.bool t737,Value.int IntKind.i64 t738,Value.bool t739,Value.int IntKind.i64 t740,Value.bool t741,Value.int IntKind.i64 t742,Value.bool t743,Value.int IntKind.i64 t744,Value.bool t745,Value.int IntKind.i64 t746,Value.bool t747,Value.int IntKind.i64 t748,Value.bool t749,Value.int IntKind.i64 t750,Value.bool t751,Value.int IntKind.i64 t752,Value.bool t753,Value.pointer (some {block:=gb763,off:=0}),Value.slice Ao53 t759.length co53,Value.int IntKind.i64 t762,Value.int IntKind.i64 t764,Value.bool t765,Value.int IntKind.i64 t766,Value.bool t767,Value.pointer (some {block:=gb780,off:=0}),Value.slice Ao64 t773.length co64,Value.slice Ao65 t776.length co65,Value.int IntKind.i64 t779,Value.int IntKind.i64 t781,Value.bool t782,Value.int IntKind.i64 t783,Value.bool t784,u42,u43,undef,undef,undef,undef,undef,undef,u50,u51,u52,u53,u54,u55,u56,u57,u58,u59,u60,u61,u62,u63,u64,u65,u66,u67,u68,u69,u70,u71,u72,u73,u74,u75,u76,u77,u78,u79,u80,u81,u82,u83,u84,u85,u86,u87,u88,u89,u90,u91,u92,u93,u94,u95,u96,u97,u98,u99,u100,u101,u102,u103,u104,u105,u106,u107,u108,u109,u110,u111,u112,u113,u114,u115,u116,u117,u118,u119,u120,u121,u122,u123,u124,u125,u126,u127,u128,u129,u130,u131,u132,u133,u134,u135,u136,u137,u138,u139,u140,u141,u142,u143,u144,u145,u146,u147,u148,u149,u150,u151,u152,u153,u154,u155,u156,u157,u158,u159,u160,u161,u162,u163,u164,u165,u166,u167,u168,u169,u170,u171,u172,u173,u174,u175,u176,u177,u178,u179,u180,u181,u182,u183,u184,u185,u186,u187,u188,u189,u190,u191,u192,u193,u194,u195,u196,u197,u198,u199,u200,u201,u202,u203,u204,u205,u206,u207,u208,u209,u210,u211,u212,u213,u214,u215,u216,u217,u218,u219,u220,u221,u222,u223,u224,u225,u226,u227,u228,u229,u230,u231,u232,u233,u234,u235,u236,u237,u238,u239,u240,u241,u242,u243,u244,u245,u246,u247,u248,u249,u250,u251,u252,u253,u254,u255,u256,u257,u258,u259,u260,u261,u262,u263,u264,u265,u266,u267,u268,u269,u270,u271,u272,u273,u274,u275,u276,u277,u278,u279,u280,u281,u282,u283,u284,u285,u286,u287,u288,u289,u290,u291,u292,u293,u294,u295,u296,u297,u298,u299,u300,u301,u302,u303,u304,u305,u306,Value.bool false,u308,u309,u310,u311,u312,u313,u314,u315,u316,u317,u318,u319,u320,u321,u322,u323,u324,u325,u326,u327,u328,u329,u330,u331,u332,u333,u334,u335,u336,u337,u338,u339,u340,u341,u342,u343,u344,u345,u346,u347,u348,u349,u350,u351,u352,u353,u354,u355,u356,u357,u358,u359,u360,u361,u362,u363,u364,u365,u366,u367],defers:=[]} wc:=by
 have hu28:=Try.underlying28
 conv at hK1=>enter [a,w_,1,2];whnf
 conv at hK=>enter [a,w_,1,2];whnf
 (try dsimp only)
 by_cases c151:t733=true
 rotate_left
 ·replace c151:=Bool.eq_false_iff.mpr c151
  subst c151
  rw[if_neg (show ¬(false=true)by decide)]at H
  as_aux_lemma=>
   obtain rfl:=Option.some.inj H
   go_wp2
   go_ret
   exact⟨fe,h3 HB.out GE729.out GE763.out GE780.out⟩
 subst c151
 rw[if_pos rfl]at H
 obtain⟨⟨t788,t789⟩,A152,H⟩:=bd H;(try dsimp only at H)
 obtain⟨⟨t790,t791⟩,A153,H⟩:=bd H;(try dsimp only at H)
 obtain⟨⟨t792,t793⟩,A154,H⟩:=bd H;(try dsimp only at H)
 by_cases c155:t789=true
 rotate_left
 ·replace c155:=Bool.eq_false_iff.mpr c155
  subst c155
  rw[if_neg (show ¬(false=true)by decide)]at H
  as_aux_lemma=>
   obtain rfl:=Option.some.inj H
   have hnb225:=NB729_763.out
   have hnc225:=NB763_729.out
   have hnb226:=NB729_780.out
   have hnc226:=NB780_729.out
   have hcz227_0:=bc BK729 0 rfl
   have hcz227_1:=bc BK729 1 rfl
   have hfz227_0:=bf BK729 0
   have hfz227_1:=bf BK729 1
   obtain⟨Ao228,co228,eo228⟩:=R_slice HO_7.out
   subst eo228
   go_wp2_with (first|((with_reducible refine gate_dst (N:=315) rfl ?_);refine gs 315 Try.func42 #[.agg #[.int .i64 t722,.bool t723],.slice Ao27 t724.length co27,.slice Ao228 t730.length co228,.int .i64 t727] ?_;(with_reducible refine(impl_OrderReach.calls kj147 t722 t723 _ _ t724 _ _ t730 t727 t788 false _ ?side1 ?side2 ?side3 ?side4 A152.out).mono ?_);(case side1=>exact cm (R_reads' HO_4.out).2.2);(case side2=>exact(R_reads' HO_4.out).2.1);(case side3=>exact cm (R_reads' HO_7.out).2.2);(case side4=>exact(R_reads' HO_7.out).2.1);rintro e w229 ⟨rfl,hb⟩;refine⟨_,rfl,?_⟩;replace HO_4:=rb HO_4 hb;replace HO_7:=rb HO_7 hb;replace BK729:=kb BK729 hb;replace BK763:=kb BK763 hb;replace BK780:=kb BK780 hb;replace HB:=ak (below_step (h3 HB.out GE729.out GE763.out GE780.out) hb);(try clear hb);(try clear hk);(try clear hi);have hcz230_0:=bc BK729 0 rfl;have hcz230_1:=bc BK729 1 rfl;have hfz230_0:=bf BK729 0;have hfz230_1:=bf BK729 1)|((with_reducible refine gate_dst (N:=322) rfl ?_);refine gs 322 Try.func39 #[.agg #[.int .i64 t722,.bool t723],.slice Ao27 t724.length co27,.int .i64 t727] ?_;(with_reducible refine(impl_GreatestReach.calls kj147 t722 t723 _ _ t724 t727 t790 t791 _ ?side1 ?side2 A153.out).mono ?_);(case side1=>exact cm (R_reads' HO_4.out).2.2);(case side2=>exact(R_reads' HO_4.out).2.1);rintro e w231 ⟨rfl,hb⟩;refine⟨_,rfl,?_⟩;replace HO_4:=rb HO_4 hb;replace HO_7:=rb HO_7 hb;replace BK729:=kb BK729 hb;replace BK763:=kb BK763 hb;replace BK780:=kb BK780 hb;replace HB:=ak (below_step (h3 HB.out GE729.out GE763.out GE780.out) hb);(try clear hb);(try clear hk);(try clear hi);have hcz232_0:=bc BK729 0 rfl;have hcz232_1:=bc BK729 1 rfl;have hfz232_0:=bf BK729 0;have hfz232_1:=bf BK729 1)|((with_reducible refine gate_dst (N:=329) rfl ?_);refine gs 329 Try.func45 #[.agg #[.int .i64 t722,.bool t723],.int .i64 t727,.int .i64 t728] ?_;(with_reducible refine(impl_GapOf.calls kj147 t722 t723 t727 t728 t792 t793 _ A154.out).mono ?_);rintro e w233 ⟨rfl,hb⟩;refine⟨_,rfl,?_⟩;replace HO_4:=rb HO_4 hb;replace HO_7:=rb HO_7 hb;replace BK729:=kb BK729 hb;replace BK763:=kb BK763 hb;replace BK780:=kb BK780 hb;replace HB:=ak (below_step (h3 HB.out GE729.out GE763.out GE780.out) hb);(try clear hb);(try clear hk);(try clear hi)))
   go_ret
   exact⟨fe,h3 HB.out GE729.out GE763.out GE780.out⟩
 subst c155
 rw[if_pos rfl]at H
 by_cases c156:t791=true
 rotate_left
 ·replace c156:=Bool.eq_false_iff.mpr c156
  subst c156
  rw[if_neg (show ¬(false=true)by decide)]at H
  as_aux_lemma=>
   obtain rfl:=Option.some.inj H
   have hnb216:=NB729_763.out
   have hnc216:=NB763_729.out
   have hnb217:=NB729_780.out
   have hnc217:=NB780_729.out
   have hcz218_0:=bc BK729 0 rfl
   have hcz218_1:=bc BK729 1 rfl
   have hfz218_0:=bf BK729 0
   have hfz218_1:=bf BK729 1
   obtain⟨Ao219,co219,eo219⟩:=R_slice HO_7.out
   subst eo219
   go_wp2_with (first|((with_reducible refine gate_dst (N:=315) rfl ?_);refine gs 315 Try.func42 #[.agg #[.int .i64 t722,.bool t723],.slice Ao27 t724.length co27,.slice Ao219 t730.length co219,.int .i64 t727] ?_;(with_reducible refine(impl_OrderReach.calls kj147 t722 t723 _ _ t724 _ _ t730 t727 t788 true _ ?side1 ?side2 ?side3 ?side4 A152.out).mono ?_);(case side1=>exact cm (R_reads' HO_4.out).2.2);(case side2=>exact(R_reads' HO_4.out).2.1);(case side3=>exact cm (R_reads' HO_7.out).2.2);(case side4=>exact(R_reads' HO_7.out).2.1);rintro e w220 ⟨rfl,hb⟩;refine⟨_,rfl,?_⟩;replace HO_4:=rb HO_4 hb;replace HO_7:=rb HO_7 hb;replace BK729:=kb BK729 hb;replace BK763:=kb BK763 hb;replace BK780:=kb BK780 hb;replace HB:=ak (below_step (h3 HB.out GE729.out GE763.out GE780.out) hb);(try clear hb);(try clear hk);(try clear hi);have hcz221_0:=bc BK729 0 rfl;have hcz221_1:=bc BK729 1 rfl;have hfz221_0:=bf BK729 0;have hfz221_1:=bf BK729 1)|((with_reducible refine gate_dst (N:=322) rfl ?_);refine gs 322 Try.func39 #[.agg #[.int .i64 t722,.bool t723],.slice Ao27 t724.length co27,.int .i64 t727] ?_;(with_reducible refine(impl_GreatestReach.calls kj147 t722 t723 _ _ t724 t727 t790 false _ ?side1 ?side2 A153.out).mono ?_);(case side1=>exact cm (R_reads' HO_4.out).2.2);(case side2=>exact(R_reads' HO_4.out).2.1);rintro e w222 ⟨rfl,hb⟩;refine⟨_,rfl,?_⟩;replace HO_4:=rb HO_4 hb;replace HO_7:=rb HO_7 hb;replace BK729:=kb BK729 hb;replace BK763:=kb BK763 hb;replace BK780:=kb BK780 hb;replace HB:=ak (below_step (h3 HB.out GE729.out GE763.out GE780.out) hb);(try clear hb);(try clear hk);(try clear hi);have hcz223_0:=bc BK729 0 rfl;have hcz223_1:=bc BK729 1 rfl;have hfz223_0:=bf BK729 0;have hfz223_1:=bf BK729 1)|((with_reducible refine gate_dst (N:=329) rfl ?_);refine gs 329 Try.func45 #[.agg #[.int .i64 t722,.bool t723],.int .i64 t727,.int .i64 t728] ?_;(with_reducible refine(impl_GapOf.calls kj147 t722 t723 t727 t728 t792 t793 _ A154.out).mono ?_);rintro e w224 ⟨rfl,hb⟩;refine⟨_,rfl,?_⟩;replace HO_4:=rb HO_4 hb;replace HO_7:=rb HO_7 hb;replace BK729:=kb BK729 hb;replace BK763:=kb BK763 hb;replace BK780:=kb BK780 hb;replace HB:=ak (below_step (h3 HB.out GE729.out GE763.out GE780.out) hb);(try clear hb);(try clear hk);(try clear hi)))
   go_ret
   exact⟨fe,h3 HB.out GE729.out GE763.out GE780.out⟩
 subst c156
 rw[if_pos rfl]at H
 by_cases c157:t793=true
 rotate_left
 ·replace c157:=Bool.eq_false_iff.mpr c157
  subst c157
  rw[if_neg (show ¬(false=true)by decide)]at H
  as_aux_lemma=>
   obtain rfl:=Option.some.inj H
   have hnb207:=NB729_763.out
   have hnc207:=NB763_729.out
   have hnb208:=NB729_780.out
   have hnc208:=NB780_729.out
   have hcz209_0:=bc BK729 0 rfl
   have hcz209_1:=bc BK729 1 rfl
   have hfz209_0:=bf BK729 0
   have hfz209_1:=bf BK729 1
   obtain⟨Ao210,co210,eo210⟩:=R_slice HO_7.out
   subst eo210
   go_wp2_with (first|((with_reducible refine gate_dst (N:=315) rfl ?_);refine gs 315 Try.func42 #[.agg #[.int .i64 t722,.bool t723],.slice Ao27 t724.length co27,.slice Ao210 t730.length co210,.int .i64 t727] ?_;(with_reducible refine(impl_OrderReach.calls kj147 t722 t723 _ _ t724 _ _ t730 t727 t788 true _ ?side1 ?side2 ?side3 ?side4 A152.out).mono ?_);(case side1=>exact cm (R_reads' HO_4.out).2.2);(case side2=>exact(R_reads' HO_4.out).2.1);(case side3=>exact cm (R_reads' HO_7.out).2.2);(case side4=>exact(R_reads' HO_7.out).2.1);rintro e w211 ⟨rfl,hb⟩;refine⟨_,rfl,?_⟩;replace HO_4:=rb HO_4 hb;replace HO_7:=rb HO_7 hb;replace BK729:=kb BK729 hb;replace BK763:=kb BK763 hb;replace BK780:=kb BK780 hb;replace HB:=ak (below_step (h3 HB.out GE729.out GE763.out GE780.out) hb);(try clear hb);(try clear hk);(try clear hi);have hcz212_0:=bc BK729 0 rfl;have hcz212_1:=bc BK729 1 rfl;have hfz212_0:=bf BK729 0;have hfz212_1:=bf BK729 1)|((with_reducible refine gate_dst (N:=322) rfl ?_);refine gs 322 Try.func39 #[.agg #[.int .i64 t722,.bool t723],.slice Ao27 t724.length co27,.int .i64 t727] ?_;(with_reducible refine(impl_GreatestReach.calls kj147 t722 t723 _ _ t724 t727 t790 true _ ?side1 ?side2 A153.out).mono ?_);(case side1=>exact cm (R_reads' HO_4.out).2.2);(case side2=>exact(R_reads' HO_4.out).2.1);rintro e w213 ⟨rfl,hb⟩;refine⟨_,rfl,?_⟩;replace HO_4:=rb HO_4 hb;replace HO_7:=rb HO_7 hb;replace BK729:=kb BK729 hb;replace BK763:=kb BK763 hb;replace BK780:=kb BK780 hb;replace HB:=ak (below_step (h3 HB.out GE729.out GE763.out GE780.out) hb);(try clear hb);(try clear hk);(try clear hi);have hcz214_0:=bc BK729 0 rfl;have hcz214_1:=bc BK729 1 rfl;have hfz214_0:=bf BK729 0;have hfz214_1:=bf BK729 1)|((with_reducible refine gate_dst (N:=329) rfl ?_);refine gs 329 Try.func45 #[.agg #[.int .i64 t722,.bool t723],.int .i64 t727,.int .i64 t728] ?_;(with_reducible refine(impl_GapOf.calls kj147 t722 t723 t727 t728 t792 false _ A154.out).mono ?_);rintro e w215 ⟨rfl,hb⟩;refine⟨_,rfl,?_⟩;replace HO_4:=rb HO_4 hb;replace HO_7:=rb HO_7 hb;replace BK729:=kb BK729 hb;replace BK763:=kb BK763 hb;replace BK780:=kb BK780 hb;replace HB:=ak (below_step (h3 HB.out GE729.out GE763.out GE780.out) hb);(try clear hb);(try clear hk);(try clear hi)))
   go_ret
   exact⟨fe,h3 HB.out GE729.out GE763.out GE780.out⟩
 subst c157
 rw[if_pos rfl]at H
 by_cases c158:t788≥t728
 rotate_left
 ·rw[if_neg c158]at H
  have c158b0:decide (t728≤t788)=false:=decide_eq_false c158
  clear c158
  as_aux_lemma=>
   obtain rfl:=Option.some.inj H
   have hnb198:=NB729_763.out
   have hnc198:=NB763_729.out
   have hnb199:=NB729_780.out
   have hnc199:=NB780_729.out
   have hcz200_0:=bc BK729 0 rfl
   have hcz200_1:=bc BK729 1 rfl
   have hfz200_0:=bf BK729 0
   have hfz200_1:=bf BK729 1
   obtain⟨Ao201,co201,eo201⟩:=R_slice HO_7.out
   subst eo201
   go_wp2_with (first|((with_reducible refine gate_dst (N:=315) rfl ?_);refine gs 315 Try.func42 #[.agg #[.int .i64 t722,.bool t723],.slice Ao27 t724.length co27,.slice Ao201 t730.length co201,.int .i64 t727] ?_;(with_reducible refine(impl_OrderReach.calls kj147 t722 t723 _ _ t724 _ _ t730 t727 t788 true _ ?side1 ?side2 ?side3 ?side4 A152.out).mono ?_);(case side1=>exact cm (R_reads' HO_4.out).2.2);(case side2=>exact(R_reads' HO_4.out).2.1);(case side3=>exact cm (R_reads' HO_7.out).2.2);(case side4=>exact(R_reads' HO_7.out).2.1);rintro e w202 ⟨rfl,hb⟩;refine⟨_,rfl,?_⟩;replace HO_4:=rb HO_4 hb;replace HO_7:=rb HO_7 hb;replace BK729:=kb BK729 hb;replace BK763:=kb BK763 hb;replace BK780:=kb BK780 hb;replace HB:=ak (below_step (h3 HB.out GE729.out GE763.out GE780.out) hb);(try clear hb);(try clear hk);(try clear hi);have hcz203_0:=bc BK729 0 rfl;have hcz203_1:=bc BK729 1 rfl;have hfz203_0:=bf BK729 0;have hfz203_1:=bf BK729 1)|((with_reducible refine gate_dst (N:=322) rfl ?_);refine gs 322 Try.func39 #[.agg #[.int .i64 t722,.bool t723],.slice Ao27 t724.length co27,.int .i64 t727] ?_;(with_reducible refine(impl_GreatestReach.calls kj147 t722 t723 _ _ t724 t727 t790 true _ ?side1 ?side2 A153.out).mono ?_);(case side1=>exact cm (R_reads' HO_4.out).2.2);(case side2=>exact(R_reads' HO_4.out).2.1);rintro e w204 ⟨rfl,hb⟩;refine⟨_,rfl,?_⟩;replace HO_4:=rb HO_4 hb;replace HO_7:=rb HO_7 hb;replace BK729:=kb BK729 hb;replace BK763:=kb BK763 hb;replace BK780:=kb BK780 hb;replace HB:=ak (below_step (h3 HB.out GE729.out GE763.out GE780.out) hb);(try clear hb);(try clear hk);(try clear hi);have hcz205_0:=bc BK729 0 rfl;have hcz205_1:=bc BK729 1 rfl;have hfz205_0:=bf BK729 0;have hfz205_1:=bf BK729 1)|((with_reducible refine gate_dst (N:=329) rfl ?_);refine gs 329 Try.func45 #[.agg #[.int .i64 t722,.bool t723],.int .i64 t727,.int .i64 t728] ?_;(with_reducible refine(impl_GapOf.calls kj147 t722 t723 t727 t728 t792 true _ A154.out).mono ?_);rintro e w206 ⟨rfl,hb⟩;refine⟨_,rfl,?_⟩;replace HO_4:=rb HO_4 hb;replace HO_7:=rb HO_7 hb;replace BK729:=kb BK729 hb;replace BK763:=kb BK763 hb;replace BK780:=kb BK780 hb;replace HB:=ak (below_step (h3 HB.out GE729.out GE763.out GE780.out) hb);(try clear hb);(try clear hk);(try clear hi)))
   go_ret
   exact⟨fe,h3 HB.out GE729.out GE763.out GE780.out⟩
 rw[if_pos c158]at H
 have c158b0:decide (t728≤t788)=true:=decide_eq_true c158
 clear c158
 by_cases c159:t790≥t728
 rotate_left
 ·rw[if_neg c159]at H
  have c159b0:decide (t728≤t790)=false:=decide_eq_false c159
  clear c159
  as_aux_lemma=>
   obtain rfl:=Option.some.inj H
   have hnb189:=NB729_763.out
   have hnc189:=NB763_729.out
   have hnb190:=NB729_780.out
   have hnc190:=NB780_729.out
   have hcz191_0:=bc BK729 0 rfl
   have hcz191_1:=bc BK729 1 rfl
   have hfz191_0:=bf BK729 0
   have hfz191_1:=bf BK729 1
   obtain⟨Ao192,co192,eo192⟩:=R_slice HO_7.out
   subst eo192
   go_wp2_with (first|((with_reducible refine gate_dst (N:=315) rfl ?_);refine gs 315 Try.func42 #[.agg #[.int .i64 t722,.bool t723],.slice Ao27 t724.length co27,.slice Ao192 t730.length co192,.int .i64 t727] ?_;(with_reducible refine(impl_OrderReach.calls kj147 t722 t723 _ _ t724 _ _ t730 t727 t788 true _ ?side1 ?side2 ?side3 ?side4 A152.out).mono ?_);(case side1=>exact cm (R_reads' HO_4.out).2.2);(case side2=>exact(R_reads' HO_4.out).2.1);(case side3=>exact cm (R_reads' HO_7.out).2.2);(case side4=>exact(R_reads' HO_7.out).2.1);rintro e w193 ⟨rfl,hb⟩;refine⟨_,rfl,?_⟩;replace HO_4:=rb HO_4 hb;replace HO_7:=rb HO_7 hb;replace BK729:=kb BK729 hb;replace BK763:=kb BK763 hb;replace BK780:=kb BK780 hb;replace HB:=ak (below_step (h3 HB.out GE729.out GE763.out GE780.out) hb);(try clear hb);(try clear hk);(try clear hi);have hcz194_0:=bc BK729 0 rfl;have hcz194_1:=bc BK729 1 rfl;have hfz194_0:=bf BK729 0;have hfz194_1:=bf BK729 1)|((with_reducible refine gate_dst (N:=322) rfl ?_);refine gs 322 Try.func39 #[.agg #[.int .i64 t722,.bool t723],.slice Ao27 t724.length co27,.int .i64 t727] ?_;(with_reducible refine(impl_GreatestReach.calls kj147 t722 t723 _ _ t724 t727 t790 true _ ?side1 ?side2 A153.out).mono ?_);(case side1=>exact cm (R_reads' HO_4.out).2.2);(case side2=>exact(R_reads' HO_4.out).2.1);rintro e w195 ⟨rfl,hb⟩;refine⟨_,rfl,?_⟩;replace HO_4:=rb HO_4 hb;replace HO_7:=rb HO_7 hb;replace BK729:=kb BK729 hb;replace BK763:=kb BK763 hb;replace BK780:=kb BK780 hb;replace HB:=ak (below_step (h3 HB.out GE729.out GE763.out GE780.out) hb);(try clear hb);(try clear hk);(try clear hi);have hcz196_0:=bc BK729 0 rfl;have hcz196_1:=bc BK729 1 rfl;have hfz196_0:=bf BK729 0;have hfz196_1:=bf BK729 1)|((with_reducible refine gate_dst (N:=329) rfl ?_);refine gs 329 Try.func45 #[.agg #[.int .i64 t722,.bool t723],.int .i64 t727,.int .i64 t728] ?_;(with_reducible refine(impl_GapOf.calls kj147 t722 t723 t727 t728 t792 true _ A154.out).mono ?_);rintro e w197 ⟨rfl,hb⟩;refine⟨_,rfl,?_⟩;replace HO_4:=rb HO_4 hb;replace HO_7:=rb HO_7 hb;replace BK729:=kb BK729 hb;replace BK763:=kb BK763 hb;replace BK780:=kb BK780 hb;replace HB:=ak (below_step (h3 HB.out GE729.out GE763.out GE780.out) hb);(try clear hb);(try clear hk);(try clear hi)))
   go_ret
   exact⟨fe,h3 HB.out GE729.out GE763.out GE780.out⟩
 rw[if_pos c159]at H
 have c159b0:decide (t728≤t790)=true:=decide_eq_true c159
 clear c159
 by_cases c160: (t730.length:Int)=t738
 rotate_left
 ·rw[if_neg c160]at H
  have c160b0: ((t730.length:Int)==t738)=false:=beq_eq_false_iff_ne.mpr c160
  have c160b1: ((t730.length:Int) !=t738)=true:=bne_iff_ne.mpr c160
  as_aux_lemma=>
   obtain rfl:=Option.some.inj H
   have hnb180:=NB729_763.out
   have hnc180:=NB763_729.out
   have hnb181:=NB729_780.out
   have hnc181:=NB780_729.out
   have hcz182_0:=bc BK729 0 rfl
   have hcz182_1:=bc BK729 1 rfl
   have hfz182_0:=bf BK729 0
   have hfz182_1:=bf BK729 1
   obtain⟨Ao183,co183,eo183⟩:=R_slice HO_7.out
   subst eo183
   go_wp2_with (first|((with_reducible refine gate_dst (N:=315) rfl ?_);refine gs 315 Try.func42 #[.agg #[.int .i64 t722,.bool t723],.slice Ao27 t724.length co27,.slice Ao183 t730.length co183,.int .i64 t727] ?_;(with_reducible refine(impl_OrderReach.calls kj147 t722 t723 _ _ t724 _ _ t730 t727 t788 true _ ?side1 ?side2 ?side3 ?side4 A152.out).mono ?_);(case side1=>exact cm (R_reads' HO_4.out).2.2);(case side2=>exact(R_reads' HO_4.out).2.1);(case side3=>exact cm (R_reads' HO_7.out).2.2);(case side4=>exact(R_reads' HO_7.out).2.1);rintro e w184 ⟨rfl,hb⟩;refine⟨_,rfl,?_⟩;replace HO_4:=rb HO_4 hb;replace HO_7:=rb HO_7 hb;replace BK729:=kb BK729 hb;replace BK763:=kb BK763 hb;replace BK780:=kb BK780 hb;replace HB:=ak (below_step (h3 HB.out GE729.out GE763.out GE780.out) hb);(try clear hb);(try clear hk);(try clear hi);have hcz185_0:=bc BK729 0 rfl;have hcz185_1:=bc BK729 1 rfl;have hfz185_0:=bf BK729 0;have hfz185_1:=bf BK729 1)|((with_reducible refine gate_dst (N:=322) rfl ?_);refine gs 322 Try.func39 #[.agg #[.int .i64 t722,.bool t723],.slice Ao27 t724.length co27,.int .i64 t727] ?_;(with_reducible refine(impl_GreatestReach.calls kj147 t722 t723 _ _ t724 t727 t790 true _ ?side1 ?side2 A153.out).mono ?_);(case side1=>exact cm (R_reads' HO_4.out).2.2);(case side2=>exact(R_reads' HO_4.out).2.1);rintro e w186 ⟨rfl,hb⟩;refine⟨_,rfl,?_⟩;replace HO_4:=rb HO_4 hb;replace HO_7:=rb HO_7 hb;replace BK729:=kb BK729 hb;replace BK763:=kb BK763 hb;replace BK780:=kb BK780 hb;replace HB:=ak (below_step (h3 HB.out GE729.out GE763.out GE780.out) hb);(try clear hb);(try clear hk);(try clear hi);have hcz187_0:=bc BK729 0 rfl;have hcz187_1:=bc BK729 1 rfl;have hfz187_0:=bf BK729 0;have hfz187_1:=bf BK729 1)|((with_reducible refine gate_dst (N:=329) rfl ?_);refine gs 329 Try.func45 #[.agg #[.int .i64 t722,.bool t723],.int .i64 t727,.int .i64 t728] ?_;(with_reducible refine(impl_GapOf.calls kj147 t722 t723 t727 t728 t792 true _ A154.out).mono ?_);rintro e w188 ⟨rfl,hb⟩;refine⟨_,rfl,?_⟩;replace HO_4:=rb HO_4 hb;replace HO_7:=rb HO_7 hb;replace BK729:=kb BK729 hb;replace BK763:=kb BK763 hb;replace BK780:=kb BK780 hb;replace HB:=ak (below_step (h3 HB.out GE729.out GE763.out GE780.out) hb);(try clear hb);(try clear hk);(try clear hi)))
   go_ret
   exact⟨fe,h3 HB.out GE729.out GE763.out GE780.out⟩
 rw[if_pos c160]at H
 have c160b0: ((t730.length:Int)==t738)=true:=beq_iff_eq.mpr c160
 have c160b1: ((t730.length:Int) !=t738)=false:=bne_eq_false_iff_eq.mpr c160
 clear c160
 by_cases c161:t750≥t792
 ·rw[if_pos c161]at H
  have c161b0:decide (t792≤t750)=true:=decide_eq_true c161
  clear c161
  as_aux_lemma=>
   obtain rfl:=Option.some.inj H
   have hnb162:=NB729_763.out
   have hnc162:=NB763_729.out
   have hnb163:=NB729_780.out
   have hnc163:=NB780_729.out
   have hcz164_0:=bc BK729 0 rfl
   have hcz164_1:=bc BK729 1 rfl
   have hfz164_0:=bf BK729 0
   have hfz164_1:=bf BK729 1
   obtain⟨Ao165,co165,eo165⟩:=R_slice HO_7.out
   subst eo165
   go_wp2_with (first|((with_reducible refine gate_dst (N:=315) rfl ?_);refine gs 315 Try.func42 #[.agg #[.int .i64 t722,.bool t723],.slice Ao27 t724.length co27,.slice Ao165 t730.length co165,.int .i64 t727] ?_;(with_reducible refine(impl_OrderReach.calls kj147 t722 t723 _ _ t724 _ _ t730 t727 t788 true _ ?side1 ?side2 ?side3 ?side4 A152.out).mono ?_);(case side1=>exact cm (R_reads' HO_4.out).2.2);(case side2=>exact(R_reads' HO_4.out).2.1);(case side3=>exact cm (R_reads' HO_7.out).2.2);(case side4=>exact(R_reads' HO_7.out).2.1);rintro e w166 ⟨rfl,hb⟩;refine⟨_,rfl,?_⟩;replace HO_4:=rb HO_4 hb;replace HO_7:=rb HO_7 hb;replace BK729:=kb BK729 hb;replace BK763:=kb BK763 hb;replace BK780:=kb BK780 hb;replace HB:=ak (below_step (h3 HB.out GE729.out GE763.out GE780.out) hb);(try clear hb);(try clear hk);(try clear hi);have hcz167_0:=bc BK729 0 rfl;have hcz167_1:=bc BK729 1 rfl;have hfz167_0:=bf BK729 0;have hfz167_1:=bf BK729 1)|((with_reducible refine gate_dst (N:=322) rfl ?_);refine gs 322 Try.func39 #[.agg #[.int .i64 t722,.bool t723],.slice Ao27 t724.length co27,.int .i64 t727] ?_;(with_reducible refine(impl_GreatestReach.calls kj147 t722 t723 _ _ t724 t727 t790 true _ ?side1 ?side2 A153.out).mono ?_);(case side1=>exact cm (R_reads' HO_4.out).2.2);(case side2=>exact(R_reads' HO_4.out).2.1);rintro e w168 ⟨rfl,hb⟩;refine⟨_,rfl,?_⟩;replace HO_4:=rb HO_4 hb;replace HO_7:=rb HO_7 hb;replace BK729:=kb BK729 hb;replace BK763:=kb BK763 hb;replace BK780:=kb BK780 hb;replace HB:=ak (below_step (h3 HB.out GE729.out GE763.out GE780.out) hb);(try clear hb);(try clear hk);(try clear hi);have hcz169_0:=bc BK729 0 rfl;have hcz169_1:=bc BK729 1 rfl;have hfz169_0:=bf BK729 0;have hfz169_1:=bf BK729 1)|((with_reducible refine gate_dst (N:=329) rfl ?_);refine gs 329 Try.func45 #[.agg #[.int .i64 t722,.bool t723],.int .i64 t727,.int .i64 t728] ?_;(with_reducible refine(impl_GapOf.calls kj147 t722 t723 t727 t728 t792 true _ A154.out).mono ?_);rintro e w170 ⟨rfl,hb⟩;refine⟨_,rfl,?_⟩;replace HO_4:=rb HO_4 hb;replace HO_7:=rb HO_7 hb;replace BK729:=kb BK729 hb;replace BK763:=kb BK763 hb;replace BK780:=kb BK780 hb;replace HB:=ak (below_step (h3 HB.out GE729.out GE763.out GE780.out) hb);(try clear hb);(try clear hk);(try clear hi)))
   go_ret
   exact⟨fe,h3 HB.out GE729.out GE763.out GE780.out⟩
 rw[if_neg c161]at H
 have c161b0:decide (t792≤t750)=false:=decide_eq_false c161
 clear c161
 as_aux_lemma=>
  obtain rfl:=Option.some.inj H
  have hnb171:=NB729_763.out
  have hnc171:=NB763_729.out
  have hnb172:=NB729_780.out
  have hnc172:=NB780_729.out
  have hcz173_0:=bc BK729 0 rfl
  have hcz173_1:=bc BK729 1 rfl
  have hfz173_0:=bf BK729 0
  have hfz173_1:=bf BK729 1
  obtain⟨Ao174,co174,eo174⟩:=R_slice HO_7.out
  subst eo174
  go_wp2_with (first|((with_reducible refine gate_dst (N:=315) rfl ?_);refine gs 315 Try.func42 #[.agg #[.int .i64 t722,.bool t723],.slice Ao27 t724.length co27,.slice Ao174 t730.length co174,.int .i64 t727] ?_;(with_reducible refine(impl_OrderReach.calls kj147 t722 t723 _ _ t724 _ _ t730 t727 t788 true _ ?side1 ?side2 ?side3 ?side4 A152.out).mono ?_);(case side1=>exact cm (R_reads' HO_4.out).2.2);(case side2=>exact(R_reads' HO_4.out).2.1);(case side3=>exact cm (R_reads' HO_7.out).2.2);(case side4=>exact(R_reads' HO_7.out).2.1);rintro e w175 ⟨rfl,hb⟩;refine⟨_,rfl,?_⟩;replace HO_4:=rb HO_4 hb;replace HO_7:=rb HO_7 hb;replace BK729:=kb BK729 hb;replace BK763:=kb BK763 hb;replace BK780:=kb BK780 hb;replace HB:=ak (below_step (h3 HB.out GE729.out GE763.out GE780.out) hb);(try clear hb);(try clear hk);(try clear hi);have hcz176_0:=bc BK729 0 rfl;have hcz176_1:=bc BK729 1 rfl;have hfz176_0:=bf BK729 0;have hfz176_1:=bf BK729 1)|((with_reducible refine gate_dst (N:=322) rfl ?_);refine gs 322 Try.func39 #[.agg #[.int .i64 t722,.bool t723],.slice Ao27 t724.length co27,.int .i64 t727] ?_;(with_reducible refine(impl_GreatestReach.calls kj147 t722 t723 _ _ t724 t727 t790 true _ ?side1 ?side2 A153.out).mono ?_);(case side1=>exact cm (R_reads' HO_4.out).2.2);(case side2=>exact(R_reads' HO_4.out).2.1);rintro e w177 ⟨rfl,hb⟩;refine⟨_,rfl,?_⟩;replace HO_4:=rb HO_4 hb;replace HO_7:=rb HO_7 hb;replace BK729:=kb BK729 hb;replace BK763:=kb BK763 hb;replace BK780:=kb BK780 hb;replace HB:=ak (below_step (h3 HB.out GE729.out GE763.out GE780.out) hb);(try clear hb);(try clear hk);(try clear hi);have hcz178_0:=bc BK729 0 rfl;have hcz178_1:=bc BK729 1 rfl;have hfz178_0:=bf BK729 0;have hfz178_1:=bf BK729 1)|((with_reducible refine gate_dst (N:=329) rfl ?_);refine gs 329 Try.func45 #[.agg #[.int .i64 t722,.bool t723],.int .i64 t727,.int .i64 t728] ?_;(with_reducible refine(impl_GapOf.calls kj147 t722 t723 t727 t728 t792 true _ A154.out).mono ?_);rintro e w179 ⟨rfl,hb⟩;refine⟨_,rfl,?_⟩;replace HO_4:=rb HO_4 hb;replace HO_7:=rb HO_7 hb;replace BK729:=kb BK729 hb;replace BK763:=kb BK763 hb;replace BK780:=kb BK780 hb;replace HB:=ak (below_step (h3 HB.out GE729.out GE763.out GE780.out) hb);(try clear hb);(try clear hk);(try clear hi)))
  go_ret
  exact⟨fe,h3 HB.out GE729.out GE763.out GE780.out⟩
end
end Go.Proofs.Ythagkpoinjpmfaa.QFnReaches
