/- Functions that the law FnMoves comes to, and their walks: no condition but those named. -/
import Derived.Test.YtanfamfgdgcjpaaQFnMovesx0
import Derived.Test.YtanfamfgdgcjpaaQFnMovesx2
import Derived.Test.YtanfamfgdgcjpaaQFnMovesx3
import Derived.Test.YtanfamfgdgcjpaaQFnMovesx5
import Derived.Test.YtanfamfgdgcjpaaQFnMovesx6
import Derived.Test.YtanfamfgdgcjpaaQFnMovesx10
import Derived.Test.YtanfamfgdgcjpaaQFnMovesx12
import Derived.Test.YtanfamfgdgcjpaaQFnMovesx17
import Derived.Test.YtanfamfgdgcjpaaQFnMovesx19
import Derived.Test.YtanfamfgdgcjpaaQFnMovesx21
import Derived.Test.YtanfamfgdgcjpaaQFnMovesx22
import Derived.Test.YtanfamfgdgcjpaaQFnMovesx25
import Derived.Test.YtanfamfgdgcjpaaQFnMovesx27
namespace Go.Proofs.Ytanfamfgdgcjpaa.QFnMoves
open Go.RowKit Go.Proofs.YtanfamfgdgcjpaaW.PrintWords Go.Proofs.YtanfamfgdgcjpaaW.PrintLast Go.Proofs.YtanfamfgdgcjpaaW.PrintMore Go.Proofs.Ytanfamfgdgcjpaa.Short
attribute [local go_sem] max2_int min2_int max_two min_two max_three min_three max_four min_four
set_option linter.unusedVariables false
set_option linter.unusedSimpArgs false
section
open Kd
set_option maxHeartbeats 8000000 in
set_option maxRecDepth 1000000 in
theorem laws_FnMoves.rest2 (h3_:laws_FnMoves.rest3_T) {k:Nat} {A0:Option Addr} {c0:Nat} {l0:List Int} {r:Bool} {w:World} {t687:Int} {t688:Bool} {t689:List S58} {t692:Int} {t694 t695 t696 t697 t698 t699 t700 t701:Bool} {t702:Int} {t703:Bool} {t704:Int} {t705:Bool} {t706:Int} {t707:Bool} {t708:Int} {t709:Bool} {t713:Int} {t714:Bool} {t715:List S58} {t718:List Int} {t722:List S58} {t725 t726:Int} {t727:Bool} {t731 t732:Int} {t733:Bool} {t737:Int} {t738:Bool} {t739:Int} {t744 t748:Bool} {gb693:Nat} {Ao25:Option Addr} {co25 gb721:Nat} {Ao47:Option Addr} {co47:Nat} {Ao48:Option Addr} {co48:Nat} {v723 v729:Value} {gb740:Nat} {v742 v746:Value} {kj20:Nat} {wc:World} {u2 u39 u40 u41 u42 u61 u62 u63 u64 u65 u66 u67 u68 u69 u70 u71 u72 u73 u74 u75 u76 u77 u78 u79 u80 u81 u82 u83 u84 u85 u86 u87 u88 u89 u90 u91 u92 u93 u94 u95 u96 u97 u98 u99 u100 u101 u102 u103 u104 u105 u106 u107 u108 u109 u110 u111 u112 u113 u114 u115 u116 u117 u118 u119 u120 u121 u122 u123 u124 u125 u126 u127 u128 u129 u130 u131 u132 u133 u134 u135 u136 u137 u138 u139 u140 u141 u142 u143 u144 u145 u146 u147 u148 u149 u150 u151 u152 u153 u154 u155 u156 u157 u158 u159 u160 u161 u162 u163 u164 u165 u166 u167 u168 u169 u170 u171 u172 u173 u174 u175 u176 u177 u178 u179 u180 u181 u182 u183 u184 u185 u186 u187 u188 u189 u190 u191 u192 u193 u194 u195 u196 u197 u198 u199 u200 u201 u202 u203 u204 u205 u206 u207 u208 u209 u210 u211 u212 u213 u214 u215 u216 u217 u218 u219 u220 u221 u222 u223 u224 u225 u226 u227 u228 u229 u230 u231 u232 u233 u234 u235 u236 u237 u238 u239 u240 u241 u242 u243 u244 u245 u246 u247 u248 u249 u250 u251 u252 u253 u254 u255 u256 u257 u258 u259 u260 u261 u262 u263 u264 u265 u266 u267 u268 u269 u270 u271 u272 u273 u274 u275 u276 u277 u278 u279 u280 u281 u282 u283 u284 u285 u286 u287 u288 u289 u290 u291 u292 u293 u294 u295 u296 u297 u298 u299 u300 u301 u302 u303 u304 u305 u306 u307 u308 u309 u310 u311 u312 u313 u314 u315 u316 u317 u318 u319 u320 u321 u322 u323 u324 u325 u326 u327 u328 u329 u330 u331 u332 u333 u334 u335 u336 u337 u338 u339 u340 u341 u342 u343 u344 u345 u346 u347 u348 u349 u350 u351 u352 u353 u354 u355 u356 u357 u358 u359 u360 u361 u362 u363 u364 u365 u366 u367 u368 u369 u370 u371 u372 u373 u374 u375 u376 u377 u378 u379 u380 u381 u382 u383 u384 u385 u386 u387 u388 u389 u390 u391 u392 u393 u394 u395 u396 u397 u398 u399 u400 u401 u402 u403 u404 u405 u406 u407 u408 u409 u410 u411 u412 u413 u414 u415 u416 u417 u418 u419 u420 u421 u422 u423 u424 u425 u426 u427 u428 u429 u430 u431 u432 u433 u434 u435 u436 u437 u438 u439 u440 u441 u442 u443 u444 u445 u446 u447 u448 u449 u450 u451 u452 u453 u454 u455:Value} {kj95:Nat} {K:Act→World→Prop} (hK:∀ a w_,Code.wp Try.prog (follow [true,true,true,true,true,true,true,true,true,true,true,true,true,true,true,true,true,true,true] (Try.f9.body.getD Code.skip)) (bodyPost Try.prog Try.f9 fun e w'=>e=Ending.returned (Value.bool r)∧Below w.heap.size w w') a w_→K a w_) (GE693:Aside0 (w.heap.size≤gb693)) (GE721:Aside0 (w.heap.size≤gb721)) (NB693_721:Aside0 (gb693≠gb721)) (NB721_693:Aside0 (gb721≠gb693)) (GE740:Aside0 (w.heap.size≤gb740)) (NB693_740:Aside0 (gb693≠gb740)) (NB740_693:Aside0 (gb740≠gb693)) (NB721_740:Aside0 (gb721≠gb740)) (NB740_721:Aside0 (gb740≠gb721)) (HJ20:Aside0 (kj20+1≤k)) (HO_4:Aside0 (k58.R 58 wc w.heap.size (fun k_=>ob k_ (.slice Ao47 t715.length co47)∧ob k_ v723) (Value.slice Ao25 t689.length co25) t689)) (HO_23:Aside0 (k58.R 58 wc w.heap.size (fun k_=>ob k_ (.slice Ao25 t689.length co25)∧ob k_ v723) (Value.slice Ao47 t715.length co47) t715)) (HO_25:Aside0 (k58.R 58 wc w.heap.size (fun k_=>ob k_ (.slice Ao25 t689.length co25)∧ob k_ (.slice Ao47 t715.length co47)) v723 t722)) (BK693:Aside0 (wc.heap[gb693]? =some (Obj.cells #[Value.int IntKind.i64 t687,Value.bool t688] 27))) (BK721:Aside0 (wc.heap[gb721]? =some (Obj.cells #[Value.int IntKind.i64 t713,Value.bool t714] 27))) (BK740:Aside0 (wc.heap[gb740]? =some (Obj.cells #[Value.int IntKind.i64 t737,Value.bool t738] 27))) (HB:Aside0 (Below w.heap.size w wc)) (HJ95:Aside0 (kj95+1≤kj20)) (H: (if t727=true then(impl_StrengthOf.f kj95 t713 t714 t722).bind fun bt760=>if bt760.snd=true then if bt760.fst>0 then(impl_LeastSum.f kj95 t713 t714 t715).bind fun bt762=>(impl_LeastMove.f kj95 t713 t714 t715).bind fun bt764=>if bt762.snd=true then if bt764.snd=true then if bt762.fst>t726 then some false else if bt764.fst>t725 then some false else j3 kj95 t689 t692 t694 t695 t698 t702 t703 t706 t687 t688 else some false else some false else j3 kj95 t689 t692 t694 t695 t698 t702 t703 t706 t687 t688 else some false else j3 kj95 t689 t692 t694 t695 t698 t702 t703 t706 t687 t688)=some r):
  K {tmps:= #[Value.slice A0 l0.length c0,undef,u2,Value.pointer (some {block:=gb693,off:=0}),Value.slice Ao25 t689.length co25,Value.int IntKind.i64 t692,Value.bool t694,Value.bool t695,Value.bool t696,Value.bool t697,Value.bool t698,Value.bool t699,Value.bool t700,Value.bool t701,Value.int IntKind.i64 t702,Value.bool t703,Value.int IntKind.i64 t704,Value.bool t705,Value.int IntKind.i64 t706,Value.bool t707,Value.int IntKind.i64 t708,Value.bool t709,Value.pointer (some {block:=gb721,off:=0}),Value.slice Ao47 t715.length co47,Value.slice Ao48 t718.length co48,v723,Value.int IntKind.i64 t725,Value.int IntKind.i64 t726,Value.bool t727,v729,Value.int IntKind.i64 t731,Value.int IntKind.i64 t732,Value.bool t733,Value.pointer (some {block:=gb740,off:=0}),Value.int IntKind.i64 t739,v742,Value.bool t744,v746,Value.bool t748,u39,u40,u41,u42,undef,undef,undef,undef,undef,undef,undef,undef,undef,undef,undef,undef,undef,undef,undef,undef,undef,undef,u61,u62,u63,u64,u65,u66,u67,u68,u69,u70,u71,u72,u73,u74,u75,u76,u77,u78,u79,u80,u81,u82,u83,u84,u85,u86,u87,u88,u89,u90,u91,u92,u93,u94,u95,u96,u97,u98,u99,u100,u101,u102,u103,u104,u105,u106,u107,u108,u109,u110,u111,u112,u113,u114,u115,u116,u117,u118,u119,u120,u121,u122,u123,u124,u125,u126,u127,u128,u129,u130,u131,u132,u133,u134,u135,u136,u137,u138,u139,u140,u141,u142,u143,u144,u145,u146,u147,u148,u149,u150,u151,u152,u153,u154,u155,u156,u157,u158,u159,u160,u161,u162,u163,u164,u165,u166,u167,u168,u169,u170,u171,u172,u173,u174,u175,u176,u177,u178,u179,u180,u181,u182,u183,u184,u185,u186,u187,u188,u189,u190,u191,u192,u193,u194,u195,u196,u197,u198,u199,u200,u201,u202,u203,u204,u205,u206,u207,u208,u209,u210,u211,u212,u213,u214,u215,u216,u217,u218,u219,u220,u221,u222,u223,u224,u225,u226,u227,u228,u229,u230,u231,u232,u233,u234,u235,u236,u237,u238,u239,u240,u241,u242,u243,u244,u245,u246,u247,u248,u249,u250,u251,u252,u253,u254,u255,u256,u257,u258,u259,u260,u261,u262,u263,u264,u265,u266,u267,u268,u269,u270,u271,u272,u273,u274,u275,u276,u277,u278,u279,u280,u281,u282,u283,u284,u285,u286,u287,u288,u289,u290,u291,u292,u293,u294,u295,u296,u297,u298,u299,u300,u301,u302,u303,u304,u305,u306,u307,u308,u309,u310,u311,u312,u313,u314,u315,u316,u317,u318,u319,u320,u321,u322,u323,u324,u325,u326,u327,u328,u329,u330,u331,u332,u333,u334,u335,u336,u337,u338,u339,u340,u341,u342,u343,u344,u345,u346,u347,u348,u349,u350,u351,u352,u353,u354,u355,u356,u357,u358,u359,u360,u361,u362,u363,u364,u365,u366,u367,u368,u369,u370,u371,u372,u373,u374,u375,u376,u377,u378,u379,u380,u381,u382,u383,u384,u385,u386,u387,u388,u389,u390,u391,u392,u393,u394,u395,u396,u397,u398,u399,u400,u401,u402,u403,u404,u405,u406,u407,u408,u409,u410,u411,u412,u413,u414,u415,u416,u417,u418,u419,u420,u421,u422,u423,u424,u425,u426,u427,u428,u429,u430,u431,u432,u433,u434,u435,u436,u437,u438,u439,u440,u441,u442,u443,u444,u445,u446,u447,u448,u449,u450,u451,u452,u453,u454,u455],defers:=[]} wc:=by
 have hu27:=Try.underlying27
 have hu58:=Try.underlying58
 conv at hK=>enter [a,w_,1,2];whnf
 have HC135:=Aside0.mk H
 clear H
 go_upto_if 285 with(fail)
 repeat(go_quiet (fail);go_upto_if 285 with(fail))
 go_cut [] (fun wc=>∃ (kq:Nat),Aside0 (laws_FnMoves.j3 kq t689 t692 t694 t695 t698 t702 t703 t706 t687 t688=some r)∧Aside0 (kq≤kj95)∧Aside0 (Kd.R k58 58 wc w.heap.size (fun _=>True) (.slice Ao25 t689.length co25) t689)∧Aside0 (wc.heap[gb693]? =some (.cells #[.int .i64 t687,.bool t688] 27 (0,0)))∧Aside0 (wc.heap[gb721]? =some (.cells #[.int .i64 t713,.bool t714] 27 (0,0)))∧Aside0 (wc.heap[gb740]? =some (.cells #[.int .i64 t737,.bool t738] 27 (0,0)))∧Aside0 (Below w.heap.size w wc))
 case first=>
  have H:=HC135.out
  clear HC135
  by_cases c136:t727=true
  rotate_left
  ·replace c136:=Bool.eq_false_iff.mpr c136
   subst c136
   rw[if_neg (show ¬(false=true)by decide)]at H
   as_aux_lemma=>
    have H':=Aside0.mk H
    clear H
    go_wp2
    repeat(go_quiet (fail);try go_wp2)
    go_meet
    case rel=>exact⟨_,H',⟨by first|exact Nat.le_refl _|(have:=HJ20.out;have:=HJ95.out;omega)⟩,⟨rm (R_mono HO_4.out (fun _ hk=>trivial))⟩,⟨bm BK693.out⟩,⟨bm BK721.out⟩,⟨bm BK740.out⟩,⟨h3 HB.out GE693.out GE721.out GE740.out⟩⟩
  subst c136
  rw[if_pos rfl]at H
  obtain⟨⟨t760,t761⟩,A137,H⟩:=bd H;(try dsimp only at H)
  by_cases c138:t761=true
  rotate_left
  ·replace c138:=Bool.eq_false_iff.mpr c138
   subst c138
   rw[if_neg (show ¬(false=true)by decide)]at H
   as_aux_lemma=>
    obtain rfl:=Option.some.inj H
    have hnb196:=NB721_693.out
    have hnc196:=NB693_721.out
    have hnb197:=NB721_740.out
    have hnc197:=NB740_721.out
    have hcz198_0:=bc BK721 0 rfl
    have hcz198_1:=bc BK721 1 rfl
    have hfz198_0:=bf BK721 0
    have hfz198_1:=bf BK721 1
    obtain⟨Ao199,co199,eo199⟩:=R_slice HO_25.out
    subst eo199
    have go_:=trivial;repeat((first|clear go_|go_quiet (fail));try go_wp2_with (first|(go_at_call 39;(with_reducible refine(impl_StrengthOf.calls kj95 t713 t714 _ _ t722 t760 false _ ?side1 ?side2 A137.out).mono ?_);(case side1=>exact cm (R_reads' HO_25.out).2.2);(case side2=>exact(R_reads' HO_25.out).2.1);rintro e w200 ⟨rfl,hb⟩;replace HO_4:=rb HO_4 hb;replace HO_23:=rb HO_23 hb;replace HO_25:=rb HO_25 hb;replace BK693:=kb BK693 hb;replace BK721:=kb BK721 hb;replace BK740:=kb BK740 hb;replace HB:=ak (below_step (h3 HB.out GE693.out GE721.out GE740.out) hb);(try clear hb);(try clear hk);(try clear hi))))
    go_ret
    exact⟨fe,h3 HB.out GE693.out GE721.out GE740.out⟩
  subst c138
  rw[if_pos rfl]at H
  by_cases c139:t760>0
  rotate_left
  ·rw[if_neg c139]at H
   have c139b0:decide (0<t760)=false:=decide_eq_false c139
   clear c139
   (first|rw[c139b0]|(simp only[i64_w,i32_w];rw[c139b0])|skip)
   as_aux_lemma=>
    have H':=Aside0.mk H
    clear H
    have hnb191:=NB721_693.out
    have hnc191:=NB693_721.out
    have hnb192:=NB721_740.out
    have hnc192:=NB740_721.out
    have hcz193_0:=bc BK721 0 rfl
    have hcz193_1:=bc BK721 1 rfl
    have hfz193_0:=bf BK721 0
    have hfz193_1:=bf BK721 1
    obtain⟨Ao194,co194,eo194⟩:=R_slice HO_25.out
    subst eo194
    have go_:=trivial;repeat((first|clear go_|go_quiet (fail));try go_wp2_with (first|(go_at_call 39;(with_reducible refine(impl_StrengthOf.calls kj95 t713 t714 _ _ t722 t760 true _ ?side1 ?side2 A137.out).mono ?_);(case side1=>exact cm (R_reads' HO_25.out).2.2);(case side2=>exact(R_reads' HO_25.out).2.1);rintro e w195 ⟨rfl,hb⟩;replace HO_4:=rb HO_4 hb;replace HO_23:=rb HO_23 hb;replace HO_25:=rb HO_25 hb;replace BK693:=kb BK693 hb;replace BK721:=kb BK721 hb;replace BK740:=kb BK740 hb;replace HB:=ak (below_step (h3 HB.out GE693.out GE721.out GE740.out) hb);(try clear hb);(try clear hk);(try clear hi))))
    go_meet
    case rel=>exact⟨_,H',⟨by first|exact Nat.le_refl _|(have:=HJ20.out;have:=HJ95.out;omega)⟩,⟨rm (R_mono HO_4.out (fun _ hk=>trivial))⟩,⟨bm BK693.out⟩,⟨bm BK721.out⟩,⟨bm BK740.out⟩,⟨h3 HB.out GE693.out GE721.out GE740.out⟩⟩
  rw[if_pos c139]at H
  have c139b0:decide (0<t760)=true:=decide_eq_true c139
  clear c139
  (first|rw[c139b0]|(simp only[i64_w,i32_w];rw[c139b0])|skip)
  obtain⟨⟨t762,t763⟩,A140,H⟩:=bd H;(try dsimp only at H)
  obtain⟨⟨t764,t765⟩,A141,H⟩:=bd H;(try dsimp only at H)
  by_cases c142:t763=true
  rotate_left
  ·replace c142:=Bool.eq_false_iff.mpr c142
   subst c142
   rw[if_neg (show ¬(false=true)by decide)]at H
   as_aux_lemma=>
    obtain rfl:=Option.some.inj H
    have hnb182:=NB721_693.out
    have hnc182:=NB693_721.out
    have hnb183:=NB721_740.out
    have hnc183:=NB740_721.out
    have hcz184_0:=bc BK721 0 rfl
    have hcz184_1:=bc BK721 1 rfl
    have hfz184_0:=bf BK721 0
    have hfz184_1:=bf BK721 1
    obtain⟨Ao185,co185,eo185⟩:=R_slice HO_25.out
    subst eo185
    have go_:=trivial;repeat((first|clear go_|go_quiet (fail));try go_wp2_with (first|(go_at_call 39;(with_reducible refine(impl_StrengthOf.calls kj95 t713 t714 _ _ t722 t760 true _ ?side1 ?side2 A137.out).mono ?_);(case side1=>exact cm (R_reads' HO_25.out).2.2);(case side2=>exact(R_reads' HO_25.out).2.1);rintro e w186 ⟨rfl,hb⟩;replace HO_4:=rb HO_4 hb;replace HO_23:=rb HO_23 hb;replace HO_25:=rb HO_25 hb;replace BK693:=kb BK693 hb;replace BK721:=kb BK721 hb;replace BK740:=kb BK740 hb;replace HB:=ak (below_step (h3 HB.out GE693.out GE721.out GE740.out) hb);(try clear hb);(try clear hk);(try clear hi);have hcz187_0:=bc BK721 0 rfl;have hcz187_1:=bc BK721 1 rfl;have hfz187_0:=bf BK721 0;have hfz187_1:=bf BK721 1)|(go_at_call 29;(with_reducible refine(impl_LeastSum.calls kj95 t713 t714 _ _ t715 t762 false _ ?side1 ?side2 A140.out).mono ?_);(case side1=>exact cm (R_reads' HO_23.out).2.2);(case side2=>exact(R_reads' HO_23.out).2.1);rintro e w188 ⟨rfl,hb⟩;replace HO_4:=rb HO_4 hb;replace HO_23:=rb HO_23 hb;replace HO_25:=rb HO_25 hb;replace BK693:=kb BK693 hb;replace BK721:=kb BK721 hb;replace BK740:=kb BK740 hb;replace HB:=ak (below_step (h3 HB.out GE693.out GE721.out GE740.out) hb);(try clear hb);(try clear hk);(try clear hi);have hcz189_0:=bc BK721 0 rfl;have hcz189_1:=bc BK721 1 rfl;have hfz189_0:=bf BK721 0;have hfz189_1:=bf BK721 1)|(go_at_call 22;(with_reducible refine(impl_LeastMove.calls kj95 t713 t714 _ _ t715 t764 t765 _ ?side1 ?side2 A141.out).mono ?_);(case side1=>exact cm (R_reads' HO_23.out).2.2);(case side2=>exact(R_reads' HO_23.out).2.1);rintro e w190 ⟨rfl,hb⟩;replace HO_4:=rb HO_4 hb;replace HO_23:=rb HO_23 hb;replace HO_25:=rb HO_25 hb;replace BK693:=kb BK693 hb;replace BK721:=kb BK721 hb;replace BK740:=kb BK740 hb;replace HB:=ak (below_step (h3 HB.out GE693.out GE721.out GE740.out) hb);(try clear hb);(try clear hk);(try clear hi))))
    go_ret
    exact⟨fe,h3 HB.out GE693.out GE721.out GE740.out⟩
  subst c142
  rw[if_pos rfl]at H
  by_cases c143:t765=true
  rotate_left
  ·replace c143:=Bool.eq_false_iff.mpr c143
   subst c143
   rw[if_neg (show ¬(false=true)by decide)]at H
   as_aux_lemma=>
    obtain rfl:=Option.some.inj H
    have hnb173:=NB721_693.out
    have hnc173:=NB693_721.out
    have hnb174:=NB721_740.out
    have hnc174:=NB740_721.out
    have hcz175_0:=bc BK721 0 rfl
    have hcz175_1:=bc BK721 1 rfl
    have hfz175_0:=bf BK721 0
    have hfz175_1:=bf BK721 1
    obtain⟨Ao176,co176,eo176⟩:=R_slice HO_25.out
    subst eo176
    have go_:=trivial;repeat((first|clear go_|go_quiet (fail));try go_wp2_with (first|(go_at_call 39;(with_reducible refine(impl_StrengthOf.calls kj95 t713 t714 _ _ t722 t760 true _ ?side1 ?side2 A137.out).mono ?_);(case side1=>exact cm (R_reads' HO_25.out).2.2);(case side2=>exact(R_reads' HO_25.out).2.1);rintro e w177 ⟨rfl,hb⟩;replace HO_4:=rb HO_4 hb;replace HO_23:=rb HO_23 hb;replace HO_25:=rb HO_25 hb;replace BK693:=kb BK693 hb;replace BK721:=kb BK721 hb;replace BK740:=kb BK740 hb;replace HB:=ak (below_step (h3 HB.out GE693.out GE721.out GE740.out) hb);(try clear hb);(try clear hk);(try clear hi);have hcz178_0:=bc BK721 0 rfl;have hcz178_1:=bc BK721 1 rfl;have hfz178_0:=bf BK721 0;have hfz178_1:=bf BK721 1)|(go_at_call 29;(with_reducible refine(impl_LeastSum.calls kj95 t713 t714 _ _ t715 t762 true _ ?side1 ?side2 A140.out).mono ?_);(case side1=>exact cm (R_reads' HO_23.out).2.2);(case side2=>exact(R_reads' HO_23.out).2.1);rintro e w179 ⟨rfl,hb⟩;replace HO_4:=rb HO_4 hb;replace HO_23:=rb HO_23 hb;replace HO_25:=rb HO_25 hb;replace BK693:=kb BK693 hb;replace BK721:=kb BK721 hb;replace BK740:=kb BK740 hb;replace HB:=ak (below_step (h3 HB.out GE693.out GE721.out GE740.out) hb);(try clear hb);(try clear hk);(try clear hi);have hcz180_0:=bc BK721 0 rfl;have hcz180_1:=bc BK721 1 rfl;have hfz180_0:=bf BK721 0;have hfz180_1:=bf BK721 1)|(go_at_call 22;(with_reducible refine(impl_LeastMove.calls kj95 t713 t714 _ _ t715 t764 false _ ?side1 ?side2 A141.out).mono ?_);(case side1=>exact cm (R_reads' HO_23.out).2.2);(case side2=>exact(R_reads' HO_23.out).2.1);rintro e w181 ⟨rfl,hb⟩;replace HO_4:=rb HO_4 hb;replace HO_23:=rb HO_23 hb;replace HO_25:=rb HO_25 hb;replace BK693:=kb BK693 hb;replace BK721:=kb BK721 hb;replace BK740:=kb BK740 hb;replace HB:=ak (below_step (h3 HB.out GE693.out GE721.out GE740.out) hb);(try clear hb);(try clear hk);(try clear hi))))
    go_ret
    exact⟨fe,h3 HB.out GE693.out GE721.out GE740.out⟩
  subst c143
  rw[if_pos rfl]at H
  by_cases c144:t762>t726
  ·rw[if_pos c144]at H
   have c144b0:decide (t726<t762)=true:=decide_eq_true c144
   clear c144
   as_aux_lemma=>
    obtain rfl:=Option.some.inj H
    have hnb145:=NB721_693.out
    have hnc145:=NB693_721.out
    have hnb146:=NB721_740.out
    have hnc146:=NB740_721.out
    have hcz147_0:=bc BK721 0 rfl
    have hcz147_1:=bc BK721 1 rfl
    have hfz147_0:=bf BK721 0
    have hfz147_1:=bf BK721 1
    obtain⟨Ao148,co148,eo148⟩:=R_slice HO_25.out
    subst eo148
    have go_:=trivial;repeat((first|clear go_|go_quiet (fail));try go_wp2_with (first|(go_at_call 39;(with_reducible refine(impl_StrengthOf.calls kj95 t713 t714 _ _ t722 t760 true _ ?side1 ?side2 A137.out).mono ?_);(case side1=>exact cm (R_reads' HO_25.out).2.2);(case side2=>exact(R_reads' HO_25.out).2.1);rintro e w149 ⟨rfl,hb⟩;replace HO_4:=rb HO_4 hb;replace HO_23:=rb HO_23 hb;replace HO_25:=rb HO_25 hb;replace BK693:=kb BK693 hb;replace BK721:=kb BK721 hb;replace BK740:=kb BK740 hb;replace HB:=ak (below_step (h3 HB.out GE693.out GE721.out GE740.out) hb);(try clear hb);(try clear hk);(try clear hi);have hcz150_0:=bc BK721 0 rfl;have hcz150_1:=bc BK721 1 rfl;have hfz150_0:=bf BK721 0;have hfz150_1:=bf BK721 1)|(go_at_call 29;(with_reducible refine(impl_LeastSum.calls kj95 t713 t714 _ _ t715 t762 true _ ?side1 ?side2 A140.out).mono ?_);(case side1=>exact cm (R_reads' HO_23.out).2.2);(case side2=>exact(R_reads' HO_23.out).2.1);rintro e w151 ⟨rfl,hb⟩;replace HO_4:=rb HO_4 hb;replace HO_23:=rb HO_23 hb;replace HO_25:=rb HO_25 hb;replace BK693:=kb BK693 hb;replace BK721:=kb BK721 hb;replace BK740:=kb BK740 hb;replace HB:=ak (below_step (h3 HB.out GE693.out GE721.out GE740.out) hb);(try clear hb);(try clear hk);(try clear hi);have hcz152_0:=bc BK721 0 rfl;have hcz152_1:=bc BK721 1 rfl;have hfz152_0:=bf BK721 0;have hfz152_1:=bf BK721 1)|(go_at_call 22;(with_reducible refine(impl_LeastMove.calls kj95 t713 t714 _ _ t715 t764 true _ ?side1 ?side2 A141.out).mono ?_);(case side1=>exact cm (R_reads' HO_23.out).2.2);(case side2=>exact(R_reads' HO_23.out).2.1);rintro e w153 ⟨rfl,hb⟩;replace HO_4:=rb HO_4 hb;replace HO_23:=rb HO_23 hb;replace HO_25:=rb HO_25 hb;replace BK693:=kb BK693 hb;replace BK721:=kb BK721 hb;replace BK740:=kb BK740 hb;replace HB:=ak (below_step (h3 HB.out GE693.out GE721.out GE740.out) hb);(try clear hb);(try clear hk);(try clear hi))))
    go_ret
    exact⟨fe,h3 HB.out GE693.out GE721.out GE740.out⟩
  rw[if_neg c144]at H
  have c144b0:decide (t726<t762)=false:=decide_eq_false c144
  clear c144
  by_cases c154:t764>t725
  ·rw[if_pos c154]at H
   have c154b0:decide (t725<t764)=true:=decide_eq_true c154
   clear c154
   as_aux_lemma=>
    obtain rfl:=Option.some.inj H
    have hnb155:=NB721_693.out
    have hnc155:=NB693_721.out
    have hnb156:=NB721_740.out
    have hnc156:=NB740_721.out
    have hcz157_0:=bc BK721 0 rfl
    have hcz157_1:=bc BK721 1 rfl
    have hfz157_0:=bf BK721 0
    have hfz157_1:=bf BK721 1
    obtain⟨Ao158,co158,eo158⟩:=R_slice HO_25.out
    subst eo158
    have go_:=trivial;repeat((first|clear go_|go_quiet (fail));try go_wp2_with (first|(go_at_call 39;(with_reducible refine(impl_StrengthOf.calls kj95 t713 t714 _ _ t722 t760 true _ ?side1 ?side2 A137.out).mono ?_);(case side1=>exact cm (R_reads' HO_25.out).2.2);(case side2=>exact(R_reads' HO_25.out).2.1);rintro e w159 ⟨rfl,hb⟩;replace HO_4:=rb HO_4 hb;replace HO_23:=rb HO_23 hb;replace HO_25:=rb HO_25 hb;replace BK693:=kb BK693 hb;replace BK721:=kb BK721 hb;replace BK740:=kb BK740 hb;replace HB:=ak (below_step (h3 HB.out GE693.out GE721.out GE740.out) hb);(try clear hb);(try clear hk);(try clear hi);have hcz160_0:=bc BK721 0 rfl;have hcz160_1:=bc BK721 1 rfl;have hfz160_0:=bf BK721 0;have hfz160_1:=bf BK721 1)|(go_at_call 29;(with_reducible refine(impl_LeastSum.calls kj95 t713 t714 _ _ t715 t762 true _ ?side1 ?side2 A140.out).mono ?_);(case side1=>exact cm (R_reads' HO_23.out).2.2);(case side2=>exact(R_reads' HO_23.out).2.1);rintro e w161 ⟨rfl,hb⟩;replace HO_4:=rb HO_4 hb;replace HO_23:=rb HO_23 hb;replace HO_25:=rb HO_25 hb;replace BK693:=kb BK693 hb;replace BK721:=kb BK721 hb;replace BK740:=kb BK740 hb;replace HB:=ak (below_step (h3 HB.out GE693.out GE721.out GE740.out) hb);(try clear hb);(try clear hk);(try clear hi);have hcz162_0:=bc BK721 0 rfl;have hcz162_1:=bc BK721 1 rfl;have hfz162_0:=bf BK721 0;have hfz162_1:=bf BK721 1)|(go_at_call 22;(with_reducible refine(impl_LeastMove.calls kj95 t713 t714 _ _ t715 t764 true _ ?side1 ?side2 A141.out).mono ?_);(case side1=>exact cm (R_reads' HO_23.out).2.2);(case side2=>exact(R_reads' HO_23.out).2.1);rintro e w163 ⟨rfl,hb⟩;replace HO_4:=rb HO_4 hb;replace HO_23:=rb HO_23 hb;replace HO_25:=rb HO_25 hb;replace BK693:=kb BK693 hb;replace BK721:=kb BK721 hb;replace BK740:=kb BK740 hb;replace HB:=ak (below_step (h3 HB.out GE693.out GE721.out GE740.out) hb);(try clear hb);(try clear hk);(try clear hi))))
    go_ret
    exact⟨fe,h3 HB.out GE693.out GE721.out GE740.out⟩
  rw[if_neg c154]at H
  have c154b0:decide (t725<t764)=false:=decide_eq_false c154
  clear c154
  as_aux_lemma=>
   have H':=Aside0.mk H
   clear H
   have hnb164:=NB721_693.out
   have hnc164:=NB693_721.out
   have hnb165:=NB721_740.out
   have hnc165:=NB740_721.out
   have hcz166_0:=bc BK721 0 rfl
   have hcz166_1:=bc BK721 1 rfl
   have hfz166_0:=bf BK721 0
   have hfz166_1:=bf BK721 1
   obtain⟨Ao167,co167,eo167⟩:=R_slice HO_25.out
   subst eo167
   have go_:=trivial;repeat((first|clear go_|go_quiet (fail));try go_wp2_with (first|(go_at_call 39;(with_reducible refine(impl_StrengthOf.calls kj95 t713 t714 _ _ t722 t760 true _ ?side1 ?side2 A137.out).mono ?_);(case side1=>exact cm (R_reads' HO_25.out).2.2);(case side2=>exact(R_reads' HO_25.out).2.1);rintro e w168 ⟨rfl,hb⟩;replace HO_4:=rb HO_4 hb;replace HO_23:=rb HO_23 hb;replace HO_25:=rb HO_25 hb;replace BK693:=kb BK693 hb;replace BK721:=kb BK721 hb;replace BK740:=kb BK740 hb;replace HB:=ak (below_step (h3 HB.out GE693.out GE721.out GE740.out) hb);(try clear hb);(try clear hk);(try clear hi);have hcz169_0:=bc BK721 0 rfl;have hcz169_1:=bc BK721 1 rfl;have hfz169_0:=bf BK721 0;have hfz169_1:=bf BK721 1)|(go_at_call 29;(with_reducible refine(impl_LeastSum.calls kj95 t713 t714 _ _ t715 t762 true _ ?side1 ?side2 A140.out).mono ?_);(case side1=>exact cm (R_reads' HO_23.out).2.2);(case side2=>exact(R_reads' HO_23.out).2.1);rintro e w170 ⟨rfl,hb⟩;replace HO_4:=rb HO_4 hb;replace HO_23:=rb HO_23 hb;replace HO_25:=rb HO_25 hb;replace BK693:=kb BK693 hb;replace BK721:=kb BK721 hb;replace BK740:=kb BK740 hb;replace HB:=ak (below_step (h3 HB.out GE693.out GE721.out GE740.out) hb);(try clear hb);(try clear hk);(try clear hi);have hcz171_0:=bc BK721 0 rfl;have hcz171_1:=bc BK721 1 rfl;have hfz171_0:=bf BK721 0;have hfz171_1:=bf BK721 1)|(go_at_call 22;(with_reducible refine(impl_LeastMove.calls kj95 t713 t714 _ _ t715 t764 true _ ?side1 ?side2 A141.out).mono ?_);(case side1=>exact cm (R_reads' HO_23.out).2.2);(case side2=>exact(R_reads' HO_23.out).2.1);rintro e w172 ⟨rfl,hb⟩;replace HO_4:=rb HO_4 hb;replace HO_23:=rb HO_23 hb;replace HO_25:=rb HO_25 hb;replace BK693:=kb BK693 hb;replace BK721:=kb BK721 hb;replace BK740:=kb BK740 hb;replace HB:=ak (below_step (h3 HB.out GE693.out GE721.out GE740.out) hb);(try clear hb);(try clear hk);(try clear hi))))
   go_meet
   case rel=>exact⟨_,H',⟨by first|exact Nat.le_refl _|(have:=HJ20.out;have:=HJ95.out;omega)⟩,⟨rm (R_mono HO_4.out (fun _ hk=>trivial))⟩,⟨bm BK693.out⟩,⟨bm BK721.out⟩,⟨bm BK740.out⟩,⟨h3 HB.out GE693.out GE721.out GE740.out⟩⟩
 clear HC135
 obtain⟨kq,HA,HJ134,HO_4,BK693,BK721,BK740,HB⟩:=hcut
 obtain _|kj134:=kq;·cases HA.out
 obtain⟨H⟩:=HA
 simp only[laws_FnMoves.j3]at H
 exact h3_ (by assumption) GE693 GE721 NB693_721 NB721_693 GE740 NB693_740 NB740_693 HJ20 HJ95 HO_4 BK693 BK721 BK740 HB HJ134 H
end
end Go.Proofs.Ytanfamfgdgcjpaa.QFnMoves
