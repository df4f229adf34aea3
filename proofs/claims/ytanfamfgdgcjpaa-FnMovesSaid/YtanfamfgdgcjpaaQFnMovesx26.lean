/- Functions that the law FnMoves comes to, and their walks: no condition but those named. -/
import Derived.Test.YtanfamfgdgcjpaaQFnMovesx0
import Derived.Test.YtanfamfgdgcjpaaQFnMovesx2
import Derived.Test.YtanfamfgdgcjpaaQFnMovesx3
import Derived.Test.YtanfamfgdgcjpaaQFnMovesx5
import Derived.Test.YtanfamfgdgcjpaaQFnMovesx6
import Derived.Test.YtanfamfgdgcjpaaQFnMovesx10
import Derived.Test.YtanfamfgdgcjpaaQFnMovesx12
import Derived.Test.YtanfamfgdgcjpaaQFnMovesx17
import Derived.Test.YtanfamfgdgcjpaaQFnMovesx19
import Derived.Test.YtanfamfgdgcjpaaQFnMovesx21
import Derived.Test.YtanfamfgdgcjpaaQFnMovesx22
import Derived.Test.YtanfamfgdgcjpaaQFnMovesx25
namespace Go.Proofs.Ytanfamfgdgcjpaa.QFnMoves
open Go.RowKit Go.Proofs.YtanfamfgdgcjpaaW.PrintWords Go.Proofs.YtanfamfgdgcjpaaW.PrintLast Go.Proofs.YtanfamfgdgcjpaaW.PrintMore Go.Proofs.Ytanfamfgdgcjpaa.Short
attribute [local go_sem] max2_int min2_int max_two min_two max_three min_three max_four min_four
set_option linter.unusedVariables false
set_option linter.unusedSimpArgs false
section
open Kd
set_option maxHeartbeats 8000000 in
set_option maxRecDepth 1000000 in
theorem laws_FnMoves.rest4 {k:Nat} {A0:Option Addr} {c0:Nat} {l0:List Int} {r:Bool} {w:World} {t687:Int} {t688:Bool} {t689:List S58} {t692:Int} {t694 t695 t696 t697 t698 t699 t700 t701:Bool} {t702 t704:Int} {t705:Bool} {t706:Int} {t707:Bool} {t708:Int} {t709:Bool} {t713:Int} {t714:Bool} {t715:List S58} {t718:List Int} {t725 t726:Int} {t727:Bool} {t731 t732:Int} {t733:Bool} {t737:Int} {t738:Bool} {t739:Int} {t744 t748:Bool} {gb693:Nat} {Ao25:Option Addr} {co25 gb721:Nat} {Ao47:Option Addr} {co47:Nat} {Ao48:Option Addr} {co48:Nat} {v723 v729:Value} {gb740:Nat} {v742 v746:Value} {kj20:Nat} {u39 u40 u41 u42:Value} {kj95:Nat} {u43 u44 u45 u46 u47 u48:Value} {kj134:Nat} {wc:World} {u2 u49 u50 u61 u62 u63 u64 u65 u66 u67 u68 u69 u70 u71 u72 u73 u74 u75 u76 u77 u78 u79 u80 u81 u82 u83 u84 u85 u86 u87 u88 u89 u90 u91 u92 u93 u94 u95 u96 u97 u98 u99 u100 u101 u102 u103 u104 u105 u106 u107 u108 u109 u110 u111 u112 u113 u114 u115 u116 u117 u118 u119 u120 u121 u122 u123 u124 u125 u126 u127 u128 u129 u130 u131 u132 u133 u134 u135 u136 u137 u138 u139 u140 u141 u142 u143 u144 u145 u146 u147 u148 u149 u150 u151 u152 u153 u154 u155 u156 u157 u158 u159 u160 u161 u162 u163 u164 u165 u166 u167 u168 u169 u170 u171 u172 u173 u174 u175 u176 u177 u178 u179 u180 u181 u182 u183 u184 u185 u186 u187 u188 u189 u190 u191 u192 u193 u194 u195 u196 u197 u198 u199 u200 u201 u202 u203 u204 u205 u206 u207 u208 u209 u210 u211 u212 u213 u214 u215 u216 u217 u218 u219 u220 u221 u222 u223 u224 u225 u226 u227 u228 u229 u230 u231 u232 u233 u234 u235 u236 u237 u238 u239 u240 u241 u242 u243 u244 u245 u246 u247 u248 u249 u250 u251 u252 u253 u254 u255 u256 u257 u258 u259 u260 u261 u262 u263 u264 u265 u266 u267 u268 u269 u270 u271 u272 u273 u274 u275 u276 u277 u278 u279 u280 u281 u282 u283 u284 u285 u286 u287 u288 u289 u290 u291 u292 u293 u294 u295 u296 u297 u298 u299 u300 u301 u302 u303 u304 u305 u306 u307 u308 u309 u310 u311 u312 u313 u314 u315 u316 u317 u318 u319 u320 u321 u322 u323 u324 u325 u326 u327 u328 u329 u330 u331 u332 u333 u334 u335 u336 u337 u338 u339 u340 u341 u342 u343 u344 u345 u346 u347 u348 u349 u350 u351 u352 u353 u354 u355 u356 u357 u358 u359 u360 u361 u362 u363 u364 u365 u366 u367 u368 u369 u370 u371 u372 u373 u374 u375 u376 u377 u378 u379 u380 u381 u382 u383 u384 u385 u386 u387 u388 u389 u390 u391 u392 u393 u394 u395 u396 u397 u398 u399 u400 u401 u402 u403 u404 u405 u406 u407 u408 u409 u410 u411 u412 u413 u414 u415 u416 u417 u418 u419 u420 u421 u422 u423 u424 u425 u426 u427 u428 u429 u430 u431 u432 u433 u434 u435 u436 u437 u438 u439 u440 u441 u442 u443 u444 u445 u446 u447 u448 u449 u450 u451 u452 u453 u454 u455:Value} {kj200:Nat} {K:Act→World→Prop} (hK:∀ a w_,Code.wp Try.prog (follow [true,true,true,true,true,true,true,true,true,true,true,true,true,true,true,true,true,true,true,true,true] (Try.f9.body.getD Code.skip)) (bodyPost Try.prog Try.f9 fun e w'=>e=Ending.returned (Value.bool r)∧Below w.heap.size w w') a w_→K a w_) (GE693:Aside0 (w.heap.size≤gb693)) (GE721:Aside0 (w.heap.size≤gb721)) (NB693_721:Aside0 (gb693≠gb721)) (NB721_693:Aside0 (gb721≠gb693)) (GE740:Aside0 (w.heap.size≤gb740)) (NB693_740:Aside0 (gb693≠gb740)) (NB740_693:Aside0 (gb740≠gb693)) (HJ20:Aside0 (kj20+1≤k)) (HJ95:Aside0 (kj95+1≤kj20)) (HJ134:Aside0 (kj134+1≤kj95)) (HO_4:Aside0 (k58.R 58 wc w.heap.size (fun x=>True) (Value.slice Ao25 t689.length co25) t689)) (BK693:Aside0 (wc.heap[gb693]? =some (Obj.cells #[Value.int IntKind.i64 t687,Value.bool t688] 27))) (BK721:Aside0 (wc.heap[gb721]? =some (Obj.cells #[Value.int IntKind.i64 t713,Value.bool t714] 27))) (BK740:Aside0 (wc.heap[gb740]? =some (Obj.cells #[Value.int IntKind.i64 t737,Value.bool t738] 27))) (HB:Aside0 (Below w.heap.size w wc)) (HJ200:Aside0 (kj200+1≤kj134)) (H:l2 kj200 t689 t702 t706 0 0 t687 t688=some r):
  K {tmps:= #[Value.slice A0 l0.length c0,undef,u2,Value.pointer (some {block:=gb693,off:=0}),Value.slice Ao25 t689.length co25,Value.int IntKind.i64 t692,Value.bool t694,Value.bool t695,Value.bool t696,Value.bool t697,Value.bool t698,Value.bool t699,Value.bool t700,Value.bool t701,Value.int IntKind.i64 t702,Value.bool true,Value.int IntKind.i64 t704,Value.bool t705,Value.int IntKind.i64 t706,Value.bool t707,Value.int IntKind.i64 t708,Value.bool t709,Value.pointer (some {block:=gb721,off:=0}),Value.slice Ao47 t715.length co47,Value.slice Ao48 t718.length co48,v723,Value.int IntKind.i64 t725,Value.int IntKind.i64 t726,Value.bool t727,v729,Value.int IntKind.i64 t731,Value.int IntKind.i64 t732,Value.bool t733,Value.pointer (some {block:=gb740,off:=0}),Value.int IntKind.i64 t739,v742,Value.bool t744,v746,Value.bool t748,u39,u40,u41,u42,u43,u44,u45,u46,u47,u48,u49,u50,undef,undef,undef,undef,undef,undef,undef,undef,undef,undef,u61,u62,u63,u64,u65,u66,u67,u68,u69,u70,u71,u72,u73,u74,u75,u76,u77,u78,u79,u80,u81,u82,u83,u84,u85,u86,u87,u88,u89,u90,u91,u92,u93,u94,u95,u96,u97,u98,u99,u100,u101,u102,u103,u104,u105,u106,u107,u108,u109,u110,u111,u112,u113,u114,u115,u116,u117,u118,u119,u120,u121,u122,u123,u124,u125,u126,u127,u128,u129,u130,u131,u132,u133,u134,u135,u136,u137,u138,u139,u140,u141,u142,u143,u144,u145,u146,u147,u148,u149,u150,u151,u152,u153,u154,u155,u156,u157,u158,u159,u160,u161,u162,u163,u164,u165,u166,u167,u168,u169,u170,u171,u172,u173,u174,u175,u176,u177,u178,u179,u180,u181,u182,u183,u184,u185,u186,u187,u188,u189,u190,u191,u192,u193,u194,u195,u196,u197,u198,u199,u200,u201,u202,u203,u204,u205,u206,u207,u208,u209,u210,u211,u212,u213,u214,u215,u216,u217,u218,u219,u220,u221,u222,u223,u224,u225,u226,u227,u228,u229,u230,u231,u232,u233,u234,u235,u236,u237,u238,u239,u240,u241,u242,u243,u244,u245,u246,u247,u248,u249,u250,u251,u252,u253,u254,u255,u256,u257,u258,u259,u260,u261,u262,u263,u264,u265,u266,u267,u268,u269,u270,u271,u272,u273,u274,u275,u276,u277,u278,u279,u280,u281,u282,u283,u284,u285,u286,u287,u288,u289,u290,u291,u292,u293,u294,u295,u296,u297,u298,u299,u300,u301,u302,u303,u304,u305,u306,u307,u308,u309,u310,u311,u312,u313,u314,u315,u316,u317,u318,u319,u320,u321,u322,u323,u324,u325,u326,u327,u328,u329,u330,u331,u332,u333,u334,u335,u336,u337,u338,u339,u340,u341,u342,u343,u344,u345,u346,u347,u348,u349,u350,u351,u352,u353,u354,u355,u356,u357,u358,u359,u360,u361,u362,u363,u364,u365,u366,u367,u368,u369,u370,u371,u372,u373,u374,u375,u376,u377,u378,u379,u380,u381,u382,u383,u384,u385,u386,u387,u388,u389,u390,u391,u392,u393,u394,u395,u396,u397,u398,u399,u400,u401,u402,u403,u404,u405,u406,u407,u408,u409,u410,u411,u412,u413,u414,u415,u416,u417,u418,u419,u420,u421,u422,u423,u424,u425,u426,u427,u428,u429,u430,u431,u432,u433,u434,u435,u436,u437,u438,u439,u440,u441,u442,u443,u444,u445,u446,u447,u448,u449,u450,u451,u452,u453,u454,u455],defers:=[]} wc:=by
 have hu27:=Try.underlying27
 have hu58:=Try.underlying58
 conv at hK=>enter [a,w_,1,2];whnf
 have H':=Aside0.mk H
 clear H
 go_wp2
 repeat(go_quiet (fail);try go_wp2)
 go_loopg [51,52] kj200 (fun kq v51 v52 w'=>∃ (x51_5:Int) (x52_5:Int),v51= .int .i64 x51_5∧v52= .int .i64 x52_5∧Aside0 (laws_FnMoves.l2 kq t689 t702 t706 x51_5 x52_5 t687 t688=some r)∧Aside0 (kq≤kj200)∧Aside0 (Kd.R k58 58 w' w.heap.size (fun _=>True) (.slice Ao25 t689.length co25) t689)∧Aside0 (w'.heap[gb693]? =some (.cells #[.int .i64 t687,.bool t688] 27 (0,0)))∧Aside0 (w'.heap[gb721]? =some (.cells #[.int .i64 t713,.bool t714] 27 (0,0)))∧Aside0 (w'.heap[gb740]? =some (.cells #[.int .i64 t737,.bool t738] 27 (0,0)))∧Aside0 (Below w.heap.size w w'))
 case atStart=>exact⟨(0),(0),fd,fd,H',⟨Nat.le_refl _⟩,⟨rm HO_4.out⟩,⟨bm BK693.out⟩,⟨bm BK721.out⟩,⟨bm BK740.out⟩,⟨h3 HB.out GE693.out GE721.out GE740.out⟩⟩
 clear H'
 obtain⟨x51_5,x52_5,rfl,rfl,HA,HK5,HO_4,BK693,BK721,BK740,HB⟩:=hrel
 obtain _|k5:=gk;·cases HA.out
 obtain⟨H⟩:=HA
 simp only[laws_FnMoves.l2]at H
 by_cases c225:x52_5<(t689.length:Int)
 ·rw[if_pos c225]at H
  have c225b0:decide (x52_5<(t689.length:Int))=true:=decide_eq_true c225
  clear c225
  obtain⟨c226,H⟩:=gi H
  have c226b0:decide (0≤x52_5)=true:=decide_eq_true c226
  clear c226
  as_aux_lemma=>
   have H':=Aside0.mk H
   clear H
   have p768:0≤(x52_5:Int):=od
   have q768:x52_5<(t689.length:Int):=od
   obtain⟨ad768,e768,hx768_0,hx768_1⟩:=at_T58 (R_reads' HO_4.out).2.2 x52_5 p768 q768
   cases e768
   replace p768:=eq_true p768
   replace q768:=eq_true q768
   go_wp2
   repeat(go_quiet (fail);try go_wp2)
   go_roundg k5
   case measure=>have:=HJ20.out;have:=HJ95.out;have:=HJ134.out;have:=HJ200.out;have:=HK5.out;omega
   case rel=>exact⟨(wrap64 ((wrap64 (x51_5+(wrap64 (2*((rd_T58 t689 x52_5).f1)))))+1)),(wrap64 (x52_5+1)),fd,fd,H',⟨by have:=HJ20.out;have:=HJ95.out;have:=HJ134.out;have:=HJ200.out;have:=HK5.out;omega⟩,⟨rm HO_4.out⟩,⟨bm BK693.out⟩,⟨bm BK721.out⟩,⟨bm BK740.out⟩,⟨h3 HB.out GE693.out GE721.out GE740.out⟩⟩
 rw[if_neg c225]at H
 have c225b0:decide (x52_5<(t689.length:Int))=false:=decide_eq_false c225
 clear c225
 obtain⟨⟨t769,t770⟩,A227,H⟩:=bd H;(try dsimp only at H)
 obtain⟨⟨t771,t774⟩,A228,H⟩:=bd H;(try dsimp only at H)
 obtain⟨⟨t775,t776⟩,A229,H⟩:=bd H;(try dsimp only at H)
 obtain⟨⟨t777,t778⟩,A230,H⟩:=bd H;(try dsimp only at H)
 by_cases c231:t770=true
 rotate_left
 ·replace c231:=Bool.eq_false_iff.mpr c231
  subst c231
  rw[if_neg (show ¬(false=true)by decide)]at H
  as_aux_lemma=>
   obtain rfl:=Option.some.inj H
   have hnb345:=NB693_721.out
   have hnc345:=NB721_693.out
   have hnb346:=NB693_740.out
   have hnc346:=NB740_693.out
   have hcz347_0:=bc BK693 0 rfl
   have hcz347_1:=bc BK693 1 rfl
   have hfz347_0:=bf BK693 0
   have hfz347_1:=bf BK693 1
   have go_:=trivial;repeat((first|clear go_|go_quiet (fail));try go_wp2_with (first|(go_at_call 39;(with_reducible refine(impl_StrengthOf.calls k5 t687 t688 _ _ t689 t769 false _ ?side1 ?side2 A227.out).mono ?_);(case side1=>exact cm (R_reads' HO_4.out).2.2);(case side2=>exact(R_reads' HO_4.out).2.1);rintro e w348 ⟨rfl,hb⟩;replace HO_4:=rb HO_4 hb;replace BK693:=kb BK693 hb;replace BK721:=kb BK721 hb;replace BK740:=kb BK740 hb;replace HB:=ak (below_step (h3 HB.out GE693.out GE721.out GE740.out) hb);(try clear hb);(try clear hk);(try clear hi);have hcz349_0:=bc BK693 0 rfl;have hcz349_1:=bc BK693 1 rfl;have hfz349_0:=bf BK693 0;have hfz349_1:=bf BK693 1)|(go_at_call 40;(with_reducible refine(impl_MirrorSensors.calls k5 t687 t688 _ _ t689 t771 t774 _ ?side1 ?side2 A228.out).mono ?_);(case side1=>exact cm (R_reads' HO_4.out).2.2);(case side2=>exact(R_reads' HO_4.out).2.1);rintro e w350 ⟨v772,rfl,ho0,hb⟩;have HO773:=ak (R_lower (R_new' ho0 (R_lt (rm HO_4.out))) (below_size (h3 HB.out GE693.out GE721.out GE740.out)));replace HO_4:=ak (R_elder' (rm HO_4.out) (R_base ho0) hb);replace BK693:=kb BK693 hb;replace BK721:=kb BK721 hb;replace BK740:=kb BK740 hb;replace HB:=ak (below_step (h3 HB.out GE693.out GE721.out GE740.out) hb);(try clear hb);(try clear hk);(try clear hi);(try clear ho0);have hcz351_0:=bc BK693 0 rfl;have hcz351_1:=bc BK693 1 rfl;have hfz351_0:=bf BK693 0;have hfz351_1:=bf BK693 1;obtain⟨Ao352,co352,eo352⟩:=R_slice HO773.out;subst eo352)|(go_at_call 22;(with_reducible refine(impl_LeastMove.calls k5 t687 t688 _ _ t771 t775 t776 _ ?side1 ?side2 A229.out).mono ?_);(case side1=>exact cm (R_reads' HO773.out).2.2);(case side2=>exact(R_reads' HO773.out).2.1);rintro e w353 ⟨rfl,hb⟩;replace HO_4:=rb HO_4 hb;replace HO773:=rb HO773 hb;replace BK693:=kb BK693 hb;replace BK721:=kb BK721 hb;replace BK740:=kb BK740 hb;replace HB:=ak (below_step (h3 HB.out GE693.out GE721.out GE740.out) hb);(try clear hb);(try clear hk);(try clear hi);have hcz354_0:=bc BK693 0 rfl;have hcz354_1:=bc BK693 1 rfl;have hfz354_0:=bf BK693 0;have hfz354_1:=bf BK693 1)|(go_at_call 29;(with_reducible refine(impl_LeastSum.calls k5 t687 t688 _ _ t771 t777 t778 _ ?side1 ?side2 A230.out).mono ?_);(case side1=>exact cm (R_reads' HO773.out).2.2);(case side2=>exact(R_reads' HO773.out).2.1);rintro e w355 ⟨rfl,hb⟩;replace HO_4:=rb HO_4 hb;replace HO773:=rb HO773 hb;replace BK693:=kb BK693 hb;replace BK721:=kb BK721 hb;replace BK740:=kb BK740 hb;replace HB:=ak (below_step (h3 HB.out GE693.out GE721.out GE740.out) hb);(try clear hb);(try clear hk);(try clear hi))))
   go_ret
   exact⟨fe,h3 HB.out GE693.out GE721.out GE740.out⟩
 subst c231
 rw[if_pos rfl]at H
 by_cases c232:t774=true
 rotate_left
 ·replace c232:=Bool.eq_false_iff.mpr c232
  subst c232
  rw[if_neg (show ¬(false=true)by decide)]at H
  as_aux_lemma=>
   obtain rfl:=Option.some.inj H
   have hnb334:=NB693_721.out
   have hnc334:=NB721_693.out
   have hnb335:=NB693_740.out
   have hnc335:=NB740_693.out
   have hcz336_0:=bc BK693 0 rfl
   have hcz336_1:=bc BK693 1 rfl
   have hfz336_0:=bf BK693 0
   have hfz336_1:=bf BK693 1
   have go_:=trivial;repeat((first|clear go_|go_quiet (fail));try go_wp2_with (first|(go_at_call 39;(with_reducible refine(impl_StrengthOf.calls k5 t687 t688 _ _ t689 t769 true _ ?side1 ?side2 A227.out).mono ?_);(case side1=>exact cm (R_reads' HO_4.out).2.2);(case side2=>exact(R_reads' HO_4.out).2.1);rintro e w337 ⟨rfl,hb⟩;replace HO_4:=rb HO_4 hb;replace BK693:=kb BK693 hb;replace BK721:=kb BK721 hb;replace BK740:=kb BK740 hb;replace HB:=ak (below_step (h3 HB.out GE693.out GE721.out GE740.out) hb);(try clear hb);(try clear hk);(try clear hi);have hcz338_0:=bc BK693 0 rfl;have hcz338_1:=bc BK693 1 rfl;have hfz338_0:=bf BK693 0;have hfz338_1:=bf BK693 1)|(go_at_call 40;(with_reducible refine(impl_MirrorSensors.calls k5 t687 t688 _ _ t689 t771 false _ ?side1 ?side2 A228.out).mono ?_);(case side1=>exact cm (R_reads' HO_4.out).2.2);(case side2=>exact(R_reads' HO_4.out).2.1);rintro e w339 ⟨v772,rfl,ho0,hb⟩;have HO773:=ak (R_lower (R_new' ho0 (R_lt (rm HO_4.out))) (below_size (h3 HB.out GE693.out GE721.out GE740.out)));replace HO_4:=ak (R_elder' (rm HO_4.out) (R_base ho0) hb);replace BK693:=kb BK693 hb;replace BK721:=kb BK721 hb;replace BK740:=kb BK740 hb;replace HB:=ak (below_step (h3 HB.out GE693.out GE721.out GE740.out) hb);(try clear hb);(try clear hk);(try clear hi);(try clear ho0);have hcz340_0:=bc BK693 0 rfl;have hcz340_1:=bc BK693 1 rfl;have hfz340_0:=bf BK693 0;have hfz340_1:=bf BK693 1;obtain⟨Ao341,co341,eo341⟩:=R_slice HO773.out;subst eo341)|(go_at_call 22;(with_reducible refine(impl_LeastMove.calls k5 t687 t688 _ _ t771 t775 t776 _ ?side1 ?side2 A229.out).mono ?_);(case side1=>exact cm (R_reads' HO773.out).2.2);(case side2=>exact(R_reads' HO773.out).2.1);rintro e w342 ⟨rfl,hb⟩;replace HO_4:=rb HO_4 hb;replace HO773:=rb HO773 hb;replace BK693:=kb BK693 hb;replace BK721:=kb BK721 hb;replace BK740:=kb BK740 hb;replace HB:=ak (below_step (h3 HB.out GE693.out GE721.out GE740.out) hb);(try clear hb);(try clear hk);(try clear hi);have hcz343_0:=bc BK693 0 rfl;have hcz343_1:=bc BK693 1 rfl;have hfz343_0:=bf BK693 0;have hfz343_1:=bf BK693 1)|(go_at_call 29;(with_reducible refine(impl_LeastSum.calls k5 t687 t688 _ _ t771 t777 t778 _ ?side1 ?side2 A230.out).mono ?_);(case side1=>exact cm (R_reads' HO773.out).2.2);(case side2=>exact(R_reads' HO773.out).2.1);rintro e w344 ⟨rfl,hb⟩;replace HO_4:=rb HO_4 hb;replace HO773:=rb HO773 hb;replace BK693:=kb BK693 hb;replace BK721:=kb BK721 hb;replace BK740:=kb BK740 hb;replace HB:=ak (below_step (h3 HB.out GE693.out GE721.out GE740.out) hb);(try clear hb);(try clear hk);(try clear hi))))
   go_ret
   exact⟨fe,h3 HB.out GE693.out GE721.out GE740.out⟩
 subst c232
 rw[if_pos rfl]at H
 by_cases c233:t776=true
 rotate_left
 ·replace c233:=Bool.eq_false_iff.mpr c233
  subst c233
  rw[if_neg (show ¬(false=true)by decide)]at H
  as_aux_lemma=>
   obtain rfl:=Option.some.inj H
   have hnb323:=NB693_721.out
   have hnc323:=NB721_693.out
   have hnb324:=NB693_740.out
   have hnc324:=NB740_693.out
   have hcz325_0:=bc BK693 0 rfl
   have hcz325_1:=bc BK693 1 rfl
   have hfz325_0:=bf BK693 0
   have hfz325_1:=bf BK693 1
   have go_:=trivial;repeat((first|clear go_|go_quiet (fail));try go_wp2_with (first|(go_at_call 39;(with_reducible refine(impl_StrengthOf.calls k5 t687 t688 _ _ t689 t769 true _ ?side1 ?side2 A227.out).mono ?_);(case side1=>exact cm (R_reads' HO_4.out).2.2);(case side2=>exact(R_reads' HO_4.out).2.1);rintro e w326 ⟨rfl,hb⟩;replace HO_4:=rb HO_4 hb;replace BK693:=kb BK693 hb;replace BK721:=kb BK721 hb;replace BK740:=kb BK740 hb;replace HB:=ak (below_step (h3 HB.out GE693.out GE721.out GE740.out) hb);(try clear hb);(try clear hk);(try clear hi);have hcz327_0:=bc BK693 0 rfl;have hcz327_1:=bc BK693 1 rfl;have hfz327_0:=bf BK693 0;have hfz327_1:=bf BK693 1)|(go_at_call 40;(with_reducible refine(impl_MirrorSensors.calls k5 t687 t688 _ _ t689 t771 true _ ?side1 ?side2 A228.out).mono ?_);(case side1=>exact cm (R_reads' HO_4.out).2.2);(case side2=>exact(R_reads' HO_4.out).2.1);rintro e w328 ⟨v772,rfl,ho0,hb⟩;have HO773:=ak (R_lower (R_new' ho0 (R_lt (rm HO_4.out))) (below_size (h3 HB.out GE693.out GE721.out GE740.out)));replace HO_4:=ak (R_elder' (rm HO_4.out) (R_base ho0) hb);replace BK693:=kb BK693 hb;replace BK721:=kb BK721 hb;replace BK740:=kb BK740 hb;replace HB:=ak (below_step (h3 HB.out GE693.out GE721.out GE740.out) hb);(try clear hb);(try clear hk);(try clear hi);(try clear ho0);have hcz329_0:=bc BK693 0 rfl;have hcz329_1:=bc BK693 1 rfl;have hfz329_0:=bf BK693 0;have hfz329_1:=bf BK693 1;obtain⟨Ao330,co330,eo330⟩:=R_slice HO773.out;subst eo330)|(go_at_call 22;(with_reducible refine(impl_LeastMove.calls k5 t687 t688 _ _ t771 t775 false _ ?side1 ?side2 A229.out).mono ?_);(case side1=>exact cm (R_reads' HO773.out).2.2);(case side2=>exact(R_reads' HO773.out).2.1);rintro e w331 ⟨rfl,hb⟩;replace HO_4:=rb HO_4 hb;replace HO773:=rb HO773 hb;replace BK693:=kb BK693 hb;replace BK721:=kb BK721 hb;replace BK740:=kb BK740 hb;replace HB:=ak (below_step (h3 HB.out GE693.out GE721.out GE740.out) hb);(try clear hb);(try clear hk);(try clear hi);have hcz332_0:=bc BK693 0 rfl;have hcz332_1:=bc BK693 1 rfl;have hfz332_0:=bf BK693 0;have hfz332_1:=bf BK693 1)|(go_at_call 29;(with_reducible refine(impl_LeastSum.calls k5 t687 t688 _ _ t771 t777 t778 _ ?side1 ?side2 A230.out).mono ?_);(case side1=>exact cm (R_reads' HO773.out).2.2);(case side2=>exact(R_reads' HO773.out).2.1);rintro e w333 ⟨rfl,hb⟩;replace HO_4:=rb HO_4 hb;replace HO773:=rb HO773 hb;replace BK693:=kb BK693 hb;replace BK721:=kb BK721 hb;replace BK740:=kb BK740 hb;replace HB:=ak (below_step (h3 HB.out GE693.out GE721.out GE740.out) hb);(try clear hb);(try clear hk);(try clear hi))))
   go_ret
   exact⟨fe,h3 HB.out GE693.out GE721.out GE740.out⟩
 subst c233
 rw[if_pos rfl]at H
 by_cases c234:t778=true
 rotate_left
 ·replace c234:=Bool.eq_false_iff.mpr c234
  subst c234
  rw[if_neg (show ¬(false=true)by decide)]at H
  as_aux_lemma=>
   obtain rfl:=Option.some.inj H
   have hnb312:=NB693_721.out
   have hnc312:=NB721_693.out
   have hnb313:=NB693_740.out
   have hnc313:=NB740_693.out
   have hcz314_0:=bc BK693 0 rfl
   have hcz314_1:=bc BK693 1 rfl
   have hfz314_0:=bf BK693 0
   have hfz314_1:=bf BK693 1
   have go_:=trivial;repeat((first|clear go_|go_quiet (fail));try go_wp2_with (first|(go_at_call 39;(with_reducible refine(impl_StrengthOf.calls k5 t687 t688 _ _ t689 t769 true _ ?side1 ?side2 A227.out).mono ?_);(case side1=>exact cm (R_reads' HO_4.out).2.2);(case side2=>exact(R_reads' HO_4.out).2.1);rintro e w315 ⟨rfl,hb⟩;replace HO_4:=rb HO_4 hb;replace BK693:=kb BK693 hb;replace BK721:=kb BK721 hb;replace BK740:=kb BK740 hb;replace HB:=ak (below_step (h3 HB.out GE693.out GE721.out GE740.out) hb);(try clear hb);(try clear hk);(try clear hi);have hcz316_0:=bc BK693 0 rfl;have hcz316_1:=bc BK693 1 rfl;have hfz316_0:=bf BK693 0;have hfz316_1:=bf BK693 1)|(go_at_call 40;(with_reducible refine(impl_MirrorSensors.calls k5 t687 t688 _ _ t689 t771 true _ ?side1 ?side2 A228.out).mono ?_);(case side1=>exact cm (R_reads' HO_4.out).2.2);(case side2=>exact(R_reads' HO_4.out).2.1);rintro e w317 ⟨v772,rfl,ho0,hb⟩;have HO773:=ak (R_lower (R_new' ho0 (R_lt (rm HO_4.out))) (below_size (h3 HB.out GE693.out GE721.out GE740.out)));replace HO_4:=ak (R_elder' (rm HO_4.out) (R_base ho0) hb);replace BK693:=kb BK693 hb;replace BK721:=kb BK721 hb;replace BK740:=kb BK740 hb;replace HB:=ak (below_step (h3 HB.out GE693.out GE721.out GE740.out) hb);(try clear hb);(try clear hk);(try clear hi);(try clear ho0);have hcz318_0:=bc BK693 0 rfl;have hcz318_1:=bc BK693 1 rfl;have hfz318_0:=bf BK693 0;have hfz318_1:=bf BK693 1;obtain⟨Ao319,co319,eo319⟩:=R_slice HO773.out;subst eo319)|(go_at_call 22;(with_reducible refine(impl_LeastMove.calls k5 t687 t688 _ _ t771 t775 true _ ?side1 ?side2 A229.out).mono ?_);(case side1=>exact cm (R_reads' HO773.out).2.2);(case side2=>exact(R_reads' HO773.out).2.1);rintro e w320 ⟨rfl,hb⟩;replace HO_4:=rb HO_4 hb;replace HO773:=rb HO773 hb;replace BK693:=kb BK693 hb;replace BK721:=kb BK721 hb;replace BK740:=kb BK740 hb;replace HB:=ak (below_step (h3 HB.out GE693.out GE721.out GE740.out) hb);(try clear hb);(try clear hk);(try clear hi);have hcz321_0:=bc BK693 0 rfl;have hcz321_1:=bc BK693 1 rfl;have hfz321_0:=bf BK693 0;have hfz321_1:=bf BK693 1)|(go_at_call 29;(with_reducible refine(impl_LeastSum.calls k5 t687 t688 _ _ t771 t777 false _ ?side1 ?side2 A230.out).mono ?_);(case side1=>exact cm (R_reads' HO773.out).2.2);(case side2=>exact(R_reads' HO773.out).2.1);rintro e w322 ⟨rfl,hb⟩;replace HO_4:=rb HO_4 hb;replace HO773:=rb HO773 hb;replace BK693:=kb BK693 hb;replace BK721:=kb BK721 hb;replace BK740:=kb BK740 hb;replace HB:=ak (below_step (h3 HB.out GE693.out GE721.out GE740.out) hb);(try clear hb);(try clear hk);(try clear hi))))
   go_ret
   exact⟨fe,h3 HB.out GE693.out GE721.out GE740.out⟩
 subst c234
 rw[if_pos rfl]at H
 by_cases c235:x51_5≥t687
 rotate_left
 ·rw[if_neg c235]at H
  have c235b0:decide (t687≤x51_5)=false:=decide_eq_false c235
  clear c235
  as_aux_lemma=>
   obtain rfl:=Option.some.inj H
   have hnb300:=NB693_721.out
   have hnc300:=NB721_693.out
   have hnb301:=NB693_740.out
   have hnc301:=NB740_693.out
   have hcz302_0:=bc BK693 0 rfl
   have hcz302_1:=bc BK693 1 rfl
   have hfz302_0:=bf BK693 0
   have hfz302_1:=bf BK693 1
   have go_:=trivial;repeat((first|clear go_|go_quiet (fail));try go_wp2_with (first|(go_at_call 39;(with_reducible refine(impl_StrengthOf.calls k5 t687 t688 _ _ t689 t769 true _ ?side1 ?side2 A227.out).mono ?_);(case side1=>exact cm (R_reads' HO_4.out).2.2);(case side2=>exact(R_reads' HO_4.out).2.1);rintro e w303 ⟨rfl,hb⟩;replace HO_4:=rb HO_4 hb;replace BK693:=kb BK693 hb;replace BK721:=kb BK721 hb;replace BK740:=kb BK740 hb;replace HB:=ak (below_step (h3 HB.out GE693.out GE721.out GE740.out) hb);(try clear hb);(try clear hk);(try clear hi);have hcz304_0:=bc BK693 0 rfl;have hcz304_1:=bc BK693 1 rfl;have hfz304_0:=bf BK693 0;have hfz304_1:=bf BK693 1)|(go_at_call 40;(with_reducible refine(impl_MirrorSensors.calls k5 t687 t688 _ _ t689 t771 true _ ?side1 ?side2 A228.out).mono ?_);(case side1=>exact cm (R_reads' HO_4.out).2.2);(case side2=>exact(R_reads' HO_4.out).2.1);rintro e w305 ⟨v772,rfl,ho0,hb⟩;have HO773:=ak (R_lower (R_new' ho0 (R_lt (rm HO_4.out))) (below_size (h3 HB.out GE693.out GE721.out GE740.out)));replace HO_4:=ak (R_elder' (rm HO_4.out) (R_base ho0) hb);replace BK693:=kb BK693 hb;replace BK721:=kb BK721 hb;replace BK740:=kb BK740 hb;replace HB:=ak (below_step (h3 HB.out GE693.out GE721.out GE740.out) hb);(try clear hb);(try clear hk);(try clear hi);(try clear ho0);have hcz306_0:=bc BK693 0 rfl;have hcz306_1:=bc BK693 1 rfl;have hfz306_0:=bf BK693 0;have hfz306_1:=bf BK693 1;obtain⟨Ao307,co307,eo307⟩:=R_slice HO773.out;subst eo307)|(go_at_call 22;(with_reducible refine(impl_LeastMove.calls k5 t687 t688 _ _ t771 t775 true _ ?side1 ?side2 A229.out).mono ?_);(case side1=>exact cm (R_reads' HO773.out).2.2);(case side2=>exact(R_reads' HO773.out).2.1);rintro e w308 ⟨rfl,hb⟩;replace HO_4:=rb HO_4 hb;replace HO773:=rb HO773 hb;replace BK693:=kb BK693 hb;replace BK721:=kb BK721 hb;replace BK740:=kb BK740 hb;replace HB:=ak (below_step (h3 HB.out GE693.out GE721.out GE740.out) hb);(try clear hb);(try clear hk);(try clear hi);have hcz309_0:=bc BK693 0 rfl;have hcz309_1:=bc BK693 1 rfl;have hfz309_0:=bf BK693 0;have hfz309_1:=bf BK693 1)|(go_at_call 29;(with_reducible refine(impl_LeastSum.calls k5 t687 t688 _ _ t771 t777 true _ ?side1 ?side2 A230.out).mono ?_);(case side1=>exact cm (R_reads' HO773.out).2.2);(case side2=>exact(R_reads' HO773.out).2.1);rintro e w310 ⟨rfl,hb⟩;replace HO_4:=rb HO_4 hb;replace HO773:=rb HO773 hb;replace BK693:=kb BK693 hb;replace BK721:=kb BK721 hb;replace BK740:=kb BK740 hb;replace HB:=ak (below_step (h3 HB.out GE693.out GE721.out GE740.out) hb);(try clear hb);(try clear hk);(try clear hi);have hcz311_0:=bc BK693 0 rfl;have hcz311_1:=bc BK693 1 rfl;have hfz311_0:=bf BK693 0;have hfz311_1:=bf BK693 1)))
   go_ret
   exact⟨fe,h3 HB.out GE693.out GE721.out GE740.out⟩
 rw[if_pos c235]at H
 have c235b0:decide (t687≤x51_5)=true:=decide_eq_true c235
 clear c235
 by_cases c236:t702≤t706
 rotate_left
 ·rw[if_neg c236]at H
  have c236b0:decide (t702≤t706)=false:=decide_eq_false c236
  clear c236
  as_aux_lemma=>
   obtain rfl:=Option.some.inj H
   have hnb288:=NB693_721.out
   have hnc288:=NB721_693.out
   have hnb289:=NB693_740.out
   have hnc289:=NB740_693.out
   have hcz290_0:=bc BK693 0 rfl
   have hcz290_1:=bc BK693 1 rfl
   have hfz290_0:=bf BK693 0
   have hfz290_1:=bf BK693 1
   have go_:=trivial;repeat((first|clear go_|go_quiet (fail));try go_wp2_with (first|(go_at_call 39;(with_reducible refine(impl_StrengthOf.calls k5 t687 t688 _ _ t689 t769 true _ ?side1 ?side2 A227.out).mono ?_);(case side1=>exact cm (R_reads' HO_4.out).2.2);(case side2=>exact(R_reads' HO_4.out).2.1);rintro e w291 ⟨rfl,hb⟩;replace HO_4:=rb HO_4 hb;replace BK693:=kb BK693 hb;replace BK721:=kb BK721 hb;replace BK740:=kb BK740 hb;replace HB:=ak (below_step (h3 HB.out GE693.out GE721.out GE740.out) hb);(try clear hb);(try clear hk);(try clear hi);have hcz292_0:=bc BK693 0 rfl;have hcz292_1:=bc BK693 1 rfl;have hfz292_0:=bf BK693 0;have hfz292_1:=bf BK693 1)|(go_at_call 40;(with_reducible refine(impl_MirrorSensors.calls k5 t687 t688 _ _ t689 t771 true _ ?side1 ?side2 A228.out).mono ?_);(case side1=>exact cm (R_reads' HO_4.out).2.2);(case side2=>exact(R_reads' HO_4.out).2.1);rintro e w293 ⟨v772,rfl,ho0,hb⟩;have HO773:=ak (R_lower (R_new' ho0 (R_lt (rm HO_4.out))) (below_size (h3 HB.out GE693.out GE721.out GE740.out)));replace HO_4:=ak (R_elder' (rm HO_4.out) (R_base ho0) hb);replace BK693:=kb BK693 hb;replace BK721:=kb BK721 hb;replace BK740:=kb BK740 hb;replace HB:=ak (below_step (h3 HB.out GE693.out GE721.out GE740.out) hb);(try clear hb);(try clear hk);(try clear hi);(try clear ho0);have hcz294_0:=bc BK693 0 rfl;have hcz294_1:=bc BK693 1 rfl;have hfz294_0:=bf BK693 0;have hfz294_1:=bf BK693 1;obtain⟨Ao295,co295,eo295⟩:=R_slice HO773.out;subst eo295)|(go_at_call 22;(with_reducible refine(impl_LeastMove.calls k5 t687 t688 _ _ t771 t775 true _ ?side1 ?side2 A229.out).mono ?_);(case side1=>exact cm (R_reads' HO773.out).2.2);(case side2=>exact(R_reads' HO773.out).2.1);rintro e w296 ⟨rfl,hb⟩;replace HO_4:=rb HO_4 hb;replace HO773:=rb HO773 hb;replace BK693:=kb BK693 hb;replace BK721:=kb BK721 hb;replace BK740:=kb BK740 hb;replace HB:=ak (below_step (h3 HB.out GE693.out GE721.out GE740.out) hb);(try clear hb);(try clear hk);(try clear hi);have hcz297_0:=bc BK693 0 rfl;have hcz297_1:=bc BK693 1 rfl;have hfz297_0:=bf BK693 0;have hfz297_1:=bf BK693 1)|(go_at_call 29;(with_reducible refine(impl_LeastSum.calls k5 t687 t688 _ _ t771 t777 true _ ?side1 ?side2 A230.out).mono ?_);(case side1=>exact cm (R_reads' HO773.out).2.2);(case side2=>exact(R_reads' HO773.out).2.1);rintro e w298 ⟨rfl,hb⟩;replace HO_4:=rb HO_4 hb;replace HO773:=rb HO773 hb;replace BK693:=kb BK693 hb;replace BK721:=kb BK721 hb;replace BK740:=kb BK740 hb;replace HB:=ak (below_step (h3 HB.out GE693.out GE721.out GE740.out) hb);(try clear hb);(try clear hk);(try clear hi);have hcz299_0:=bc BK693 0 rfl;have hcz299_1:=bc BK693 1 rfl;have hfz299_0:=bf BK693 0;have hfz299_1:=bf BK693 1)))
   go_ret
   exact⟨fe,h3 HB.out GE693.out GE721.out GE740.out⟩
 rw[if_pos c236]at H
 have c236b0:decide (t702≤t706)=true:=decide_eq_true c236
 clear c236
 by_cases c237:t706≤(wrap64 ((t689.length:Int)*t702))
 rotate_left
 ·rw[if_neg c237]at H
  have c237b0:decide (t706≤(wrap64 ((t689.length:Int)*t702)))=false:=decide_eq_false c237
  clear c237
  as_aux_lemma=>
   obtain rfl:=Option.some.inj H
   have hnb276:=NB693_721.out
   have hnc276:=NB721_693.out
   have hnb277:=NB693_740.out
   have hnc277:=NB740_693.out
   have hcz278_0:=bc BK693 0 rfl
   have hcz278_1:=bc BK693 1 rfl
   have hfz278_0:=bf BK693 0
   have hfz278_1:=bf BK693 1
   have go_:=trivial;repeat((first|clear go_|go_quiet (fail));try go_wp2_with (first|(go_at_call 39;(with_reducible refine(impl_StrengthOf.calls k5 t687 t688 _ _ t689 t769 true _ ?side1 ?side2 A227.out).mono ?_);(case side1=>exact cm (R_reads' HO_4.out).2.2);(case side2=>exact(R_reads' HO_4.out).2.1);rintro e w279 ⟨rfl,hb⟩;replace HO_4:=rb HO_4 hb;replace BK693:=kb BK693 hb;replace BK721:=kb BK721 hb;replace BK740:=kb BK740 hb;replace HB:=ak (below_step (h3 HB.out GE693.out GE721.out GE740.out) hb);(try clear hb);(try clear hk);(try clear hi);have hcz280_0:=bc BK693 0 rfl;have hcz280_1:=bc BK693 1 rfl;have hfz280_0:=bf BK693 0;have hfz280_1:=bf BK693 1)|(go_at_call 40;(with_reducible refine(impl_MirrorSensors.calls k5 t687 t688 _ _ t689 t771 true _ ?side1 ?side2 A228.out).mono ?_);(case side1=>exact cm (R_reads' HO_4.out).2.2);(case side2=>exact(R_reads' HO_4.out).2.1);rintro e w281 ⟨v772,rfl,ho0,hb⟩;have HO773:=ak (R_lower (R_new' ho0 (R_lt (rm HO_4.out))) (below_size (h3 HB.out GE693.out GE721.out GE740.out)));replace HO_4:=ak (R_elder' (rm HO_4.out) (R_base ho0) hb);replace BK693:=kb BK693 hb;replace BK721:=kb BK721 hb;replace BK740:=kb BK740 hb;replace HB:=ak (below_step (h3 HB.out GE693.out GE721.out GE740.out) hb);(try clear hb);(try clear hk);(try clear hi);(try clear ho0);have hcz282_0:=bc BK693 0 rfl;have hcz282_1:=bc BK693 1 rfl;have hfz282_0:=bf BK693 0;have hfz282_1:=bf BK693 1;obtain⟨Ao283,co283,eo283⟩:=R_slice HO773.out;subst eo283)|(go_at_call 22;(with_reducible refine(impl_LeastMove.calls k5 t687 t688 _ _ t771 t775 true _ ?side1 ?side2 A229.out).mono ?_);(case side1=>exact cm (R_reads' HO773.out).2.2);(case side2=>exact(R_reads' HO773.out).2.1);rintro e w284 ⟨rfl,hb⟩;replace HO_4:=rb HO_4 hb;replace HO773:=rb HO773 hb;replace BK693:=kb BK693 hb;replace BK721:=kb BK721 hb;replace BK740:=kb BK740 hb;replace HB:=ak (below_step (h3 HB.out GE693.out GE721.out GE740.out) hb);(try clear hb);(try clear hk);(try clear hi);have hcz285_0:=bc BK693 0 rfl;have hcz285_1:=bc BK693 1 rfl;have hfz285_0:=bf BK693 0;have hfz285_1:=bf BK693 1)|(go_at_call 29;(with_reducible refine(impl_LeastSum.calls k5 t687 t688 _ _ t771 t777 true _ ?side1 ?side2 A230.out).mono ?_);(case side1=>exact cm (R_reads' HO773.out).2.2);(case side2=>exact(R_reads' HO773.out).2.1);rintro e w286 ⟨rfl,hb⟩;replace HO_4:=rb HO_4 hb;replace HO773:=rb HO773 hb;replace BK693:=kb BK693 hb;replace BK721:=kb BK721 hb;replace BK740:=kb BK740 hb;replace HB:=ak (below_step (h3 HB.out GE693.out GE721.out GE740.out) hb);(try clear hb);(try clear hk);(try clear hi);have hcz287_0:=bc BK693 0 rfl;have hcz287_1:=bc BK693 1 rfl;have hfz287_0:=bf BK693 0;have hfz287_1:=bf BK693 1)))
   go_ret
   exact⟨fe,h3 HB.out GE693.out GE721.out GE740.out⟩
 rw[if_pos c237]at H
 have c237b0:decide (t706≤(wrap64 ((t689.length:Int)*t702)))=true:=decide_eq_true c237
 clear c237
 by_cases c238: ((t706==0)==(decide (t769>0)))=true
 rotate_left
 ·rw[if_neg c238]at H
  have c238b0: ((t706==0)==(decide (t769>0)))=false:=by simpa using c238
  (try(have c238b1:decide ((t706==0)=(decide (t769>0)))=false:=by simpa using c238))
  (try(have c238b2: ((t706==0)==(decide (t769>0)))=false:=by simpa using c238))
  (try(have c238b3:¬((t706==0)=(decide (t769>0))):=by simpa using c238))
  clear c238
  as_aux_lemma=>
   obtain rfl:=Option.some.inj H
   have hnb264:=NB693_721.out
   have hnc264:=NB721_693.out
   have hnb265:=NB693_740.out
   have hnc265:=NB740_693.out
   have hcz266_0:=bc BK693 0 rfl
   have hcz266_1:=bc BK693 1 rfl
   have hfz266_0:=bf BK693 0
   have hfz266_1:=bf BK693 1
   have go_:=trivial;repeat((first|clear go_|go_quiet (fail));try go_wp2_with (first|(go_at_call 39;(with_reducible refine(impl_StrengthOf.calls k5 t687 t688 _ _ t689 t769 true _ ?side1 ?side2 A227.out).mono ?_);(case side1=>exact cm (R_reads' HO_4.out).2.2);(case side2=>exact(R_reads' HO_4.out).2.1);rintro e w267 ⟨rfl,hb⟩;replace HO_4:=rb HO_4 hb;replace BK693:=kb BK693 hb;replace BK721:=kb BK721 hb;replace BK740:=kb BK740 hb;replace HB:=ak (below_step (h3 HB.out GE693.out GE721.out GE740.out) hb);(try clear hb);(try clear hk);(try clear hi);have hcz268_0:=bc BK693 0 rfl;have hcz268_1:=bc BK693 1 rfl;have hfz268_0:=bf BK693 0;have hfz268_1:=bf BK693 1)|(go_at_call 40;(with_reducible refine(impl_MirrorSensors.calls k5 t687 t688 _ _ t689 t771 true _ ?side1 ?side2 A228.out).mono ?_);(case side1=>exact cm (R_reads' HO_4.out).2.2);(case side2=>exact(R_reads' HO_4.out).2.1);rintro e w269 ⟨v772,rfl,ho0,hb⟩;have HO773:=ak (R_lower (R_new' ho0 (R_lt (rm HO_4.out))) (below_size (h3 HB.out GE693.out GE721.out GE740.out)));replace HO_4:=ak (R_elder' (rm HO_4.out) (R_base ho0) hb);replace BK693:=kb BK693 hb;replace BK721:=kb BK721 hb;replace BK740:=kb BK740 hb;replace HB:=ak (below_step (h3 HB.out GE693.out GE721.out GE740.out) hb);(try clear hb);(try clear hk);(try clear hi);(try clear ho0);have hcz270_0:=bc BK693 0 rfl;have hcz270_1:=bc BK693 1 rfl;have hfz270_0:=bf BK693 0;have hfz270_1:=bf BK693 1;obtain⟨Ao271,co271,eo271⟩:=R_slice HO773.out;subst eo271)|(go_at_call 22;(with_reducible refine(impl_LeastMove.calls k5 t687 t688 _ _ t771 t775 true _ ?side1 ?side2 A229.out).mono ?_);(case side1=>exact cm (R_reads' HO773.out).2.2);(case side2=>exact(R_reads' HO773.out).2.1);rintro e w272 ⟨rfl,hb⟩;replace HO_4:=rb HO_4 hb;replace HO773:=rb HO773 hb;replace BK693:=kb BK693 hb;replace BK721:=kb BK721 hb;replace BK740:=kb BK740 hb;replace HB:=ak (below_step (h3 HB.out GE693.out GE721.out GE740.out) hb);(try clear hb);(try clear hk);(try clear hi);have hcz273_0:=bc BK693 0 rfl;have hcz273_1:=bc BK693 1 rfl;have hfz273_0:=bf BK693 0;have hfz273_1:=bf BK693 1)|(go_at_call 29;(with_reducible refine(impl_LeastSum.calls k5 t687 t688 _ _ t771 t777 true _ ?side1 ?side2 A230.out).mono ?_);(case side1=>exact cm (R_reads' HO773.out).2.2);(case side2=>exact(R_reads' HO773.out).2.1);rintro e w274 ⟨rfl,hb⟩;replace HO_4:=rb HO_4 hb;replace HO773:=rb HO773 hb;replace BK693:=kb BK693 hb;replace BK721:=kb BK721 hb;replace BK740:=kb BK740 hb;replace HB:=ak (below_step (h3 HB.out GE693.out GE721.out GE740.out) hb);(try clear hb);(try clear hk);(try clear hi);have hcz275_0:=bc BK693 0 rfl;have hcz275_1:=bc BK693 1 rfl;have hfz275_0:=bf BK693 0;have hfz275_1:=bf BK693 1)))
   go_ret
   exact⟨fe,h3 HB.out GE693.out GE721.out GE740.out⟩
 rw[if_pos c238]at H
 have c238b0: ((t706==0)==(decide (t769>0)))=true:=c238
 (try(have c238b1:decide ((t706==0)=(decide (t769>0)))=true:=by simpa using c238))
 (try(have c238b2: ((t706==0)==(decide (t769>0)))=true:=by simpa using c238))
 clear c238
 by_cases c239:t775=t702
 rotate_left
 ·rw[if_neg c239]at H
  have c239b0: (t775==t702)=false:=beq_eq_false_iff_ne.mpr c239
  have c239b1: (t775 !=t702)=true:=bne_iff_ne.mpr c239
  as_aux_lemma=>
   obtain rfl:=Option.some.inj H
   have hnb252:=NB693_721.out
   have hnc252:=NB721_693.out
   have hnb253:=NB693_740.out
   have hnc253:=NB740_693.out
   have hcz254_0:=bc BK693 0 rfl
   have hcz254_1:=bc BK693 1 rfl
   have hfz254_0:=bf BK693 0
   have hfz254_1:=bf BK693 1
   have go_:=trivial;repeat((first|clear go_|go_quiet (fail));try go_wp2_with (first|(go_at_call 39;(with_reducible refine(impl_StrengthOf.calls k5 t687 t688 _ _ t689 t769 true _ ?side1 ?side2 A227.out).mono ?_);(case side1=>exact cm (R_reads' HO_4.out).2.2);(case side2=>exact(R_reads' HO_4.out).2.1);rintro e w255 ⟨rfl,hb⟩;replace HO_4:=rb HO_4 hb;replace BK693:=kb BK693 hb;replace BK721:=kb BK721 hb;replace BK740:=kb BK740 hb;replace HB:=ak (below_step (h3 HB.out GE693.out GE721.out GE740.out) hb);(try clear hb);(try clear hk);(try clear hi);have hcz256_0:=bc BK693 0 rfl;have hcz256_1:=bc BK693 1 rfl;have hfz256_0:=bf BK693 0;have hfz256_1:=bf BK693 1)|(go_at_call 40;(with_reducible refine(impl_MirrorSensors.calls k5 t687 t688 _ _ t689 t771 true _ ?side1 ?side2 A228.out).mono ?_);(case side1=>exact cm (R_reads' HO_4.out).2.2);(case side2=>exact(R_reads' HO_4.out).2.1);rintro e w257 ⟨v772,rfl,ho0,hb⟩;have HO773:=ak (R_lower (R_new' ho0 (R_lt (rm HO_4.out))) (below_size (h3 HB.out GE693.out GE721.out GE740.out)));replace HO_4:=ak (R_elder' (rm HO_4.out) (R_base ho0) hb);replace BK693:=kb BK693 hb;replace BK721:=kb BK721 hb;replace BK740:=kb BK740 hb;replace HB:=ak (below_step (h3 HB.out GE693.out GE721.out GE740.out) hb);(try clear hb);(try clear hk);(try clear hi);(try clear ho0);have hcz258_0:=bc BK693 0 rfl;have hcz258_1:=bc BK693 1 rfl;have hfz258_0:=bf BK693 0;have hfz258_1:=bf BK693 1;obtain⟨Ao259,co259,eo259⟩:=R_slice HO773.out;subst eo259)|(go_at_call 22;(with_reducible refine(impl_LeastMove.calls k5 t687 t688 _ _ t771 t775 true _ ?side1 ?side2 A229.out).mono ?_);(case side1=>exact cm (R_reads' HO773.out).2.2);(case side2=>exact(R_reads' HO773.out).2.1);rintro e w260 ⟨rfl,hb⟩;replace HO_4:=rb HO_4 hb;replace HO773:=rb HO773 hb;replace BK693:=kb BK693 hb;replace BK721:=kb BK721 hb;replace BK740:=kb BK740 hb;replace HB:=ak (below_step (h3 HB.out GE693.out GE721.out GE740.out) hb);(try clear hb);(try clear hk);(try clear hi);have hcz261_0:=bc BK693 0 rfl;have hcz261_1:=bc BK693 1 rfl;have hfz261_0:=bf BK693 0;have hfz261_1:=bf BK693 1)|(go_at_call 29;(with_reducible refine(impl_LeastSum.calls k5 t687 t688 _ _ t771 t777 true _ ?side1 ?side2 A230.out).mono ?_);(case side1=>exact cm (R_reads' HO773.out).2.2);(case side2=>exact(R_reads' HO773.out).2.1);rintro e w262 ⟨rfl,hb⟩;replace HO_4:=rb HO_4 hb;replace HO773:=rb HO773 hb;replace BK693:=kb BK693 hb;replace BK721:=kb BK721 hb;replace BK740:=kb BK740 hb;replace HB:=ak (below_step (h3 HB.out GE693.out GE721.out GE740.out) hb);(try clear hb);(try clear hk);(try clear hi);have hcz263_0:=bc BK693 0 rfl;have hcz263_1:=bc BK693 1 rfl;have hfz263_0:=bf BK693 0;have hfz263_1:=bf BK693 1)))
   go_ret
   exact⟨fe,h3 HB.out GE693.out GE721.out GE740.out⟩
 rw[if_pos c239]at H
 have c239b0: (t775==t702)=true:=beq_iff_eq.mpr c239
 have c239b1: (t775 !=t702)=false:=bne_eq_false_iff_eq.mpr c239
 clear c239
 as_aux_lemma=>
  obtain rfl:=Option.some.inj H
  have hnb240:=NB693_721.out
  have hnc240:=NB721_693.out
  have hnb241:=NB693_740.out
  have hnc241:=NB740_693.out
  have hcz242_0:=bc BK693 0 rfl
  have hcz242_1:=bc BK693 1 rfl
  have hfz242_0:=bf BK693 0
  have hfz242_1:=bf BK693 1
  have go_:=trivial;repeat((first|clear go_|go_quiet (fail));try go_wp2_with (first|(go_at_call 39;(with_reducible refine(impl_StrengthOf.calls k5 t687 t688 _ _ t689 t769 true _ ?side1 ?side2 A227.out).mono ?_);(case side1=>exact cm (R_reads' HO_4.out).2.2);(case side2=>exact(R_reads' HO_4.out).2.1);rintro e w243 ⟨rfl,hb⟩;replace HO_4:=rb HO_4 hb;replace BK693:=kb BK693 hb;replace BK721:=kb BK721 hb;replace BK740:=kb BK740 hb;replace HB:=ak (below_step (h3 HB.out GE693.out GE721.out GE740.out) hb);(try clear hb);(try clear hk);(try clear hi);have hcz244_0:=bc BK693 0 rfl;have hcz244_1:=bc BK693 1 rfl;have hfz244_0:=bf BK693 0;have hfz244_1:=bf BK693 1)|(go_at_call 40;(with_reducible refine(impl_MirrorSensors.calls k5 t687 t688 _ _ t689 t771 true _ ?side1 ?side2 A228.out).mono ?_);(case side1=>exact cm (R_reads' HO_4.out).2.2);(case side2=>exact(R_reads' HO_4.out).2.1);rintro e w245 ⟨v772,rfl,ho0,hb⟩;have HO773:=ak (R_lower (R_new' ho0 (R_lt (rm HO_4.out))) (below_size (h3 HB.out GE693.out GE721.out GE740.out)));replace HO_4:=ak (R_elder' (rm HO_4.out) (R_base ho0) hb);replace BK693:=kb BK693 hb;replace BK721:=kb BK721 hb;replace BK740:=kb BK740 hb;replace HB:=ak (below_step (h3 HB.out GE693.out GE721.out GE740.out) hb);(try clear hb);(try clear hk);(try clear hi);(try clear ho0);have hcz246_0:=bc BK693 0 rfl;have hcz246_1:=bc BK693 1 rfl;have hfz246_0:=bf BK693 0;have hfz246_1:=bf BK693 1;obtain⟨Ao247,co247,eo247⟩:=R_slice HO773.out;subst eo247)|(go_at_call 22;(with_reducible refine(impl_LeastMove.calls k5 t687 t688 _ _ t771 t775 true _ ?side1 ?side2 A229.out).mono ?_);(case side1=>exact cm (R_reads' HO773.out).2.2);(case side2=>exact(R_reads' HO773.out).2.1);rintro e w248 ⟨rfl,hb⟩;replace HO_4:=rb HO_4 hb;replace HO773:=rb HO773 hb;replace BK693:=kb BK693 hb;replace BK721:=kb BK721 hb;replace BK740:=kb BK740 hb;replace HB:=ak (below_step (h3 HB.out GE693.out GE721.out GE740.out) hb);(try clear hb);(try clear hk);(try clear hi);have hcz249_0:=bc BK693 0 rfl;have hcz249_1:=bc BK693 1 rfl;have hfz249_0:=bf BK693 0;have hfz249_1:=bf BK693 1)|(go_at_call 29;(with_reducible refine(impl_LeastSum.calls k5 t687 t688 _ _ t771 t777 true _ ?side1 ?side2 A230.out).mono ?_);(case side1=>exact cm (R_reads' HO773.out).2.2);(case side2=>exact(R_reads' HO773.out).2.1);rintro e w250 ⟨rfl,hb⟩;replace HO_4:=rb HO_4 hb;replace HO773:=rb HO773 hb;replace BK693:=kb BK693 hb;replace BK721:=kb BK721 hb;replace BK740:=kb BK740 hb;replace HB:=ak (below_step (h3 HB.out GE693.out GE721.out GE740.out) hb);(try clear hb);(try clear hk);(try clear hi);have hcz251_0:=bc BK693 0 rfl;have hcz251_1:=bc BK693 1 rfl;have hfz251_0:=bf BK693 0;have hfz251_1:=bf BK693 1)))
  go_ret
  exact⟨fe,h3 HB.out GE693.out GE721.out GE740.out⟩
end
end Go.Proofs.Ytanfamfgdgcjpaa.QFnMoves
