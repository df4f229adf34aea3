/- Functions that the law FnMoves comes to, and their walks: no condition but those named. -/
import Derived.Test.YtanfamfgdgcjpaaQFnMovesx0
import Derived.Test.YtanfamfgdgcjpaaQFnMovesx2
import Derived.Test.YtanfamfgdgcjpaaQFnMovesx3
import Derived.Test.YtanfamfgdgcjpaaQFnMovesx5
import Derived.Test.YtanfamfgdgcjpaaQFnMovesx6
import Derived.Test.YtanfamfgdgcjpaaQFnMovesx10
import Derived.Test.YtanfamfgdgcjpaaQFnMovesx12
import Derived.Test.YtanfamfgdgcjpaaQFnMovesx17
import Derived.Test.YtanfamfgdgcjpaaQFnMovesx19
import Derived.Test.YtanfamfgdgcjpaaQFnMovesx21
import Derived.Test.YtanfamfgdgcjpaaQFnMovesx22
import Derived.Test.YtanfamfgdgcjpaaQFnMovesx25
import Derived.Test.YtanfamfgdgcjpaaQFnMovesx28
namespace Go.Proofs.Ytanfamfgdgcjpaa.QFnMoves
open Go.RowKit Go.Proofs.YtanfamfgdgcjpaaW.PrintWords Go.Proofs.YtanfamfgdgcjpaaW.PrintLast Go.Proofs.YtanfamfgdgcjpaaW.PrintMore Go.Proofs.Ytanfamfgdgcjpaa.Short
attribute [local go_sem] max2_int min2_int max_two min_two max_three min_three max_four min_four
set_option linter.unusedVariables false
set_option linter.unusedSimpArgs false
section
open Kd
set_option maxHeartbeats 8000000 in
set_option maxRecDepth 1000000 in
theorem laws_FnMoves.rest1 (h3_:laws_FnMoves.rest3_T) {k:Nat} {A0:Option Addr} {c0:Nat} {l0:List Int} {r:Bool} {w:World} {t687:Int} {t688:Bool} {t689:List S58} {t692:Int} {t694 t695 t696 t697 t698 t699 t700 t701:Bool} {t702:Int} {t703:Bool} {t704:Int} {t705:Bool} {t706:Int} {t707:Bool} {t708:Int} {t709:Bool} {t713:Int} {t714:Bool} {t715:List S58} {t718:List Int} {t722:List S58} {t725 t726:Int} {t727:Bool} {t731 t732:Int} {t733:Bool} {t737:Int} {t738:Bool} {t739:Int} {t741:List Int} {t744 t748:Bool} {gb693:Nat} {Ao25:Option Addr} {co25 gb721:Nat} {Ao47:Option Addr} {co47:Nat} {Ao48:Option Addr} {co48:Nat} {v723 v729:Value} {gb740:Nat} {v742 v746:Value} {wc:World} {u61 u62 u63 u64 u65 u66 u67 u68 u69 u70 u71 u72 u73 u74 u75 u76 u77 u78 u79 u80 u81 u82 u83 u84 u85 u86 u87 u88 u89 u90 u91 u92 u93 u94 u95 u96 u97 u98 u99 u100 u101 u102 u103 u104 u105 u106 u107 u108 u109 u110 u111 u112 u113 u114 u115 u116 u117 u118 u119 u120 u121 u122 u123 u124 u125 u126 u127 u128 u129 u130 u131 u132 u133 u134 u135 u136 u137 u138 u139 u140 u141 u142 u143 u144 u145 u146 u147 u148 u149 u150 u151 u152 u153 u154 u155 u156 u157 u158 u159 u160 u161 u162 u163 u164 u165 u166 u167 u168 u169 u170 u171 u172 u173 u174 u175 u176 u177 u178 u179 u180 u181 u182 u183 u184 u185 u186 u187 u188 u189 u190 u191 u192 u193 u194 u195 u196 u197 u198 u199 u200 u201 u202 u203 u204 u205 u206 u207 u208 u209 u210 u211 u212 u213 u214 u215 u216 u217 u218 u219 u220 u221 u222 u223 u224 u225 u226 u227 u228 u229 u230 u231 u232 u233 u234 u235 u236 u237 u238 u239 u240 u241 u242 u244 u245 u246 u247 u248 u249 u250 u251 u252 u253 u254 u255 u256 u257 u258 u259 u260 u261 u262 u263 u264 u265 u266 u267 u268 u269 u270 u271 u272 u273 u274 u275 u276 u277 u278 u279 u280 u281 u282 u283 u284 u285 u286 u287 u288 u289 u290 u291 u292 u293 u294 u295 u296 u297 u298 u299 u300 u301 u302 u303 u304 u305 u306 u307 u308 u309 u310 u311 u312 u313 u314 u315 u316 u317 u318 u319 u320 u321 u322 u323 u324 u325 u326 u327 u328 u329 u330 u331 u332 u333 u334 u335 u336 u337 u338 u339 u340 u341 u342 u343 u344 u345 u346 u347 u348 u349 u350 u351 u352 u353 u354 u355 u356 u357 u358 u359 u360 u361 u362 u363 u364 u365 u366 u367 u368 u369 u370 u371 u372 u373 u374 u375 u376 u377 u378 u379 u380 u381 u382 u383 u384 u385 u386 u387 u388 u389 u390 u391 u392 u393 u394 u395 u396 u397 u398 u399 u400 u401 u402 u403 u404 u405 u406 u407 u408 u409 u410 u411 u412 u413 u414 u415 u416 u417 u418 u419 u420 u421 u422 u423 u424 u425 u426 u427 u428 u429 u430 u431 u432 u433 u434 u435 u436 u437 u438 u439 u440 u441 u442 u443 u444 u445 u446 u447 u448 u449 u450 u451 u452 u453 u454 u455:Value} {kj20:Nat} {K1 K:Act→World→Prop} (hK1:∀ a w_,Code.wp Try.prog (follow [true,true,true,true,true,true,true,true,true,true,true,true,true,true,true,true,true,true] (Try.f9.body.getD Code.skip)) (bodyPost Try.prog Try.f9 fun e w'=>e=Ending.returned (Value.bool r)∧Below w.heap.size w w') a w_→K1 a w_) (hK:∀ a w_,Code.wp Try.prog (follow [true,true,true,true,true,true,true,true,true,true,true,true,true,true,true,true,true,false,true] (Try.f9.body.getD Code.skip)) (Exit.then K1 (bodyPost Try.prog Try.f9 fun e w'=>e=Ending.returned (Value.bool r)∧Below w.heap.size w w')) a w_→K a w_) (GE693:Aside0 (w.heap.size≤gb693)) (GE721:Aside0 (w.heap.size≤gb721)) (NB693_721:Aside0 (gb693≠gb721)) (NB721_693:Aside0 (gb721≠gb693)) (GE740:Aside0 (w.heap.size≤gb740)) (NB693_740:Aside0 (gb693≠gb740)) (NB740_693:Aside0 (gb740≠gb693)) (NB721_740:Aside0 (gb721≠gb740)) (NB740_721:Aside0 (gb740≠gb721)) (HO_4:Aside0 (k58.R 58 wc w.heap.size (fun k_=>ob k_ (.slice Ao47 t715.length co47)∧ob k_ v723) (Value.slice Ao25 t689.length co25) t689)) (HO_23:Aside0 (k58.R 58 wc w.heap.size (fun k_=>ob k_ (.slice Ao25 t689.length co25)∧ob k_ v723) (Value.slice Ao47 t715.length co47) t715)) (HO_25:Aside0 (k58.R 58 wc w.heap.size (fun k_=>ob k_ (.slice Ao25 t689.length co25)∧ob k_ (.slice Ao47 t715.length co47)) v723 t722)) (HO_35:Aside0 ((int IntKind.i64).R 3 wc w.heap.size (fun x=>True) v742 t741)) (BK693:Aside0 (wc.heap[gb693]? =some (Obj.cells #[Value.int IntKind.i64 t687,Value.bool t688] 27))) (BK721:Aside0 (wc.heap[gb721]? =some (Obj.cells #[Value.int IntKind.i64 t713,Value.bool t714] 27))) (BK740:Aside0 (wc.heap[gb740]? =some (Obj.cells #[Value.int IntKind.i64 t737,Value.bool t738] 27))) (HB:Aside0 (Below w.heap.size w wc)) (HJ20:Aside0 (kj20+1≤k)) (H: (if t744=true then laws_FnMoves.l0 kj20 t689 t692 t694 t695 t698 t702 t703 t706 t715 t722 t725 t726 t727 t739 t741 [] 0 t687 t688 t713 t714 t737 t738 else j2 kj20 t689 t692 t694 t695 t698 t702 t703 t706 t715 t722 t725 t726 t727 t687 t688 t713 t714)=some r):
  K {tmps:= #[Value.slice A0 l0.length c0,undef,Value.bool false,Value.pointer (some {block:=gb693,off:=0}),Value.slice Ao25 t689.length co25,Value.int IntKind.i64 t692,Value.bool t694,Value.bool t695,Value.bool t696,Value.bool t697,Value.bool t698,Value.bool t699,Value.bool t700,Value.bool t701,Value.int IntKind.i64 t702,Value.bool t703,Value.int IntKind.i64 t704,Value.bool t705,Value.int IntKind.i64 t706,Value.bool t707,Value.int IntKind.i64 t708,Value.bool t709,Value.pointer (some {block:=gb721,off:=0}),Value.slice Ao47 t715.length co47,Value.slice Ao48 t718.length co48,v723,Value.int IntKind.i64 t725,Value.int IntKind.i64 t726,Value.bool t727,v729,Value.int IntKind.i64 t731,Value.int IntKind.i64 t732,Value.bool t733,Value.pointer (some {block:=gb740,off:=0}),Value.int IntKind.i64 t739,v742,Value.bool t744,v746,Value.bool t748,undef,undef,undef,undef,undef,undef,undef,undef,undef,undef,undef,undef,undef,undef,undef,undef,undef,undef,undef,undef,undef,undef,u61,u62,u63,u64,u65,u66,u67,u68,u69,u70,u71,u72,u73,u74,u75,u76,u77,u78,u79,u80,u81,u82,u83,u84,u85,u86,u87,u88,u89,u90,u91,u92,u93,u94,u95,u96,u97,u98,u99,u100,u101,u102,u103,u104,u105,u106,u107,u108,u109,u110,u111,u112,u113,u114,u115,u116,u117,u118,u119,u120,u121,u122,u123,u124,u125,u126,u127,u128,u129,u130,u131,u132,u133,u134,u135,u136,u137,u138,u139,u140,u141,u142,u143,u144,u145,u146,u147,u148,u149,u150,u151,u152,u153,u154,u155,u156,u157,u158,u159,u160,u161,u162,u163,u164,u165,u166,u167,u168,u169,u170,u171,u172,u173,u174,u175,u176,u177,u178,u179,u180,u181,u182,u183,u184,u185,u186,u187,u188,u189,u190,u191,u192,u193,u194,u195,u196,u197,u198,u199,u200,u201,u202,u203,u204,u205,u206,u207,u208,u209,u210,u211,u212,u213,u214,u215,u216,u217,u218,u219,u220,u221,u222,u223,u224,u225,u226,u227,u228,u229,u230,u231,u232,u233,u234,u235,u236,u237,u238,u239,u240,u241,u242,Value.bool false,u244,u245,u246,u247,u248,u249,u250,u251,u252,u253,u254,u255,u256,u257,u258,u259,u260,u261,u262,u263,u264,u265,u266,u267,u268,u269,u270,u271,u272,u273,u274,u275,u276,u277,u278,u279,u280,u281,u282,u283,u284,u285,u286,u287,u288,u289,u290,u291,u292,u293,u294,u295,u296,u297,u298,u299,u300,u301,u302,u303,u304,u305,u306,u307,u308,u309,u310,u311,u312,u313,u314,u315,u316,u317,u318,u319,u320,u321,u322,u323,u324,u325,u326,u327,u328,u329,u330,u331,u332,u333,u334,u335,u336,u337,u338,u339,u340,u341,u342,u343,u344,u345,u346,u347,u348,u349,u350,u351,u352,u353,u354,u355,u356,u357,u358,u359,u360,u361,u362,u363,u364,u365,u366,u367,u368,u369,u370,u371,u372,u373,u374,u375,u376,u377,u378,u379,u380,u381,u382,u383,u384,u385,u386,u387,u388,u389,u390,u391,u392,u393,u394,u395,u396,u397,u398,u399,u400,u401,u402,u403,u404,u405,u406,u407,u408,u409,u410,u411,u412,u413,u414,u415,u416,u417,u418,u419,u420,u421,u422,u423,u424,u425,u426,u427,u428,u429,u430,u431,u432,u433,u434,u435,u436,u437,u438,u439,u440,u441,u442,u443,u444,u445,u446,u447,u448,u449,u450,u451,u452,u453,u454,u455],defers:=[]} wc:=by
 have hu27:=Try.underlying27
 have hu58:=Try.underlying58
 conv at hK1=>enter [a,w_,1,2];whnf
 conv at hK=>enter [a,w_,1,2];whnf
 have HC96:=Aside0.mk H
 clear H
 go_upto_if 244 with(fail)
 repeat(go_quiet (fail);go_upto_if 244 with(fail))
 go_cut [] (fun wc=>∃ (kq:Nat),Aside0 (laws_FnMoves.j2 kq t689 t692 t694 t695 t698 t702 t703 t706 t715 t722 t725 t726 t727 t687 t688 t713 t714=some r)∧Aside0 (kq≤kj20)∧Aside0 (Kd.R k58 58 wc w.heap.size (fun k_=>ob k_ (.slice Ao47 t715.length co47)∧ob k_ v723) (.slice Ao25 t689.length co25) t689)∧Aside0 (Kd.R k58 58 wc w.heap.size (fun k_=>ob k_ (.slice Ao25 t689.length co25)∧ob k_ v723) (.slice Ao47 t715.length co47) t715)∧Aside0 (Kd.R k58 58 wc w.heap.size (fun k_=>ob k_ (.slice Ao25 t689.length co25)∧ob k_ (.slice Ao47 t715.length co47)) v723 t722)∧Aside0 (wc.heap[gb693]? =some (.cells #[.int .i64 t687,.bool t688] 27 (0,0)))∧Aside0 (wc.heap[gb721]? =some (.cells #[.int .i64 t713,.bool t714] 27 (0,0)))∧Aside0 (wc.heap[gb740]? =some (.cells #[.int .i64 t737,.bool t738] 27 (0,0)))∧Aside0 (Below w.heap.size w wc))
 case first=>
  have H:=HC96.out
  clear HC96
  by_cases c97:t744=true
  rotate_left
  ·replace c97:=Bool.eq_false_iff.mpr c97
   subst c97
   rw[if_neg (show ¬(false=true)by decide)]at H
   as_aux_lemma=>
    have H':=Aside0.mk H
    clear H
    go_wp2
    repeat(go_quiet (fail);try go_wp2)
    go_meet
    case rel=>exact⟨_,H',⟨by first|exact Nat.le_refl _|(have:=HJ20.out;omega)⟩,⟨rm HO_4.out⟩,⟨rm HO_23.out⟩,⟨rm HO_25.out⟩,⟨bm BK693.out⟩,⟨bm BK721.out⟩,⟨bm BK740.out⟩,⟨h3 HB.out GE693.out GE721.out GE740.out⟩⟩
  subst c97
  rw[if_pos rfl]at H
  generalize hy751: ([]:List (S58))=y751 at H
  have Ny751:=ak hy751.symm
  clear hy751
  have H':=Aside0.mk H
  clear H
  have go_:=trivial;repeat((first|clear go_|go_quiet (fail));try go_wp2_with (first|((with_reducible refine gate_dst (N:=245) rfl ?_);(try(refine gate_guard (by rfl) ?_;dsimp only));refine R_lit k58 _ 58 ?hg (N:=245) ?hd (xs:=([]:List (S58))) (inner:=[]) (ok:=fun _=>True) (okp:=fun _=>True) ?hr ?hp (fun _ hk=>hk) trivial (Below.refl _ _) (Nat.le_refl _) (by simp) ?_;(case hd=>rfl);(case hg=>rfl);(case hr=>first|(go_simp;done)|(go_simp;rfl));(case hp=>exact(Reps.none _ _));intro v752 w98 ho99 hb hg_ hnew_;clear hg_ hnew_;(first|rw[←Ny751.out]at ho99|(simp only[Int.reduceToNat]at ho99;rw[←Ny751.out]at ho99));replace HO_35:=rb HO_35 hb;have HO753:=ak (R_lower (R_new' (R_new' (R_new' ho99 (R_lt (rm HO_4.out))) (R_lt (rm HO_23.out))) (R_lt (rm HO_25.out))) (below_size (h3 HB.out GE693.out GE721.out GE740.out)));replace HO_4:=ak (R_elder' (rm HO_4.out) (R_base ho99) hb);replace HO_23:=ak (R_elder' (rm HO_23.out) (R_base ho99) hb);replace HO_25:=ak (R_elder' (rm HO_25.out) (R_base ho99) hb);replace BK693:=kb BK693 hb;replace BK721:=kb BK721 hb;replace BK740:=kb BK740 hb;replace HB:=ak (below_step (h3 HB.out GE693.out GE721.out GE740.out) hb);clear hb ho99)))
  go_loopg [39,40] kj20 (fun kq v39 v40 w'=>∃ (x39_2:List (S58)) (x40_2:Int),v40= .int .i64 x40_2∧Aside0 (laws_FnMoves.l0 kq t689 t692 t694 t695 t698 t702 t703 t706 t715 t722 t725 t726 t727 t739 t741 x39_2 x40_2 t687 t688 t713 t714 t737 t738=some r)∧Aside0 (kq≤kj20)∧Aside0 (Kd.R k58 58 w' w.heap.size (fun k_=>ob k_ (.slice Ao47 t715.length co47)∧ob k_ v723∧ob k_ v39) (.slice Ao25 t689.length co25) t689)∧Aside0 (Kd.R k58 58 w' w.heap.size (fun k_=>ob k_ (.slice Ao25 t689.length co25)∧ob k_ v723∧ob k_ v39) (.slice Ao47 t715.length co47) t715)∧Aside0 (Kd.R k58 58 w' w.heap.size (fun k_=>ob k_ (.slice Ao25 t689.length co25)∧ob k_ (.slice Ao47 t715.length co47)∧ob k_ v39) v723 t722)∧Aside0 (Kd.R (Kd.int .i64) 3 w' w.heap.size (fun _=>True) v742 t741)∧Aside0 (Kd.R k58 58 w' w.heap.size (fun k_=>ob k_ (.slice Ao25 t689.length co25)∧ob k_ (.slice Ao47 t715.length co47)∧ob k_ v723) v39 x39_2)∧Aside0 (w'.heap[gb693]? =some (.cells #[.int .i64 t687,.bool t688] 27 (0,0)))∧Aside0 (w'.heap[gb721]? =some (.cells #[.int .i64 t713,.bool t714] 27 (0,0)))∧Aside0 (w'.heap[gb740]? =some (.cells #[.int .i64 t737,.bool t738] 27 (0,0)))∧Aside0 (Below w.heap.size w w'))
  case atStart=>exact⟨(y751),(0),fd,H',⟨Nat.le_refl _⟩,⟨rm (R_mono HO_4.out (fun _ hk=>⟨hk.1.1,⟨hk.1.2,hk.2⟩⟩))⟩,⟨rm (R_mono HO_23.out (fun _ hk=>⟨hk.1.1,⟨hk.1.2,hk.2⟩⟩))⟩,⟨rm (R_mono HO_25.out (fun _ hk=>⟨hk.1.1,⟨hk.1.2,hk.2⟩⟩))⟩,⟨rm HO_35.out⟩,⟨rm (R_mono HO753.out (fun _ hk=>⟨hk.1.1.2,⟨hk.1.2,hk.2⟩⟩))⟩,⟨bm BK693.out⟩,⟨bm BK721.out⟩,⟨bm BK740.out⟩,⟨h3 HB.out GE693.out GE721.out GE740.out⟩⟩
  clear H'
  obtain⟨x39_2,x40_2,rfl,HA,HK2,HO_4,HO_23,HO_25,HO_35,HO_39,BK693,BK721,BK740,HB⟩:=hrel
  obtain _|k2:=gk;·cases HA.out
  obtain⟨H⟩:=HA
  simp only[laws_FnMoves.l0]at H
  by_cases c100:x40_2<(t741.length:Int)
  ·rw[if_pos c100]at H
   have c100b0:decide (x40_2<(t741.length:Int))=true:=decide_eq_true c100
   clear c100
   (first|rw[c100b0]|(simp only[i64_w,i32_w];rw[c100b0])|skip)
   obtain⟨c101,H⟩:=gi H
   have c101b0:decide (0≤x40_2)=true:=decide_eq_true c101
   clear c101
   obtain⟨c102,H⟩:=gi H
   have LMc102:=Aside0.mk c102
   clear c102
   generalize hy755: (x39_2++[(⟨rd t741 x40_2,t739⟩:S58)]:List (S58))=y755 at H
   have Ny755:=ak hy755.symm
   clear hy755
   as_aux_lemma=>
    have H':=Aside0.mk H
    clear H
    obtain⟨Ao103,co103,eo103⟩:=R_slice HO_35.out
    subst eo103
    have p754:0≤(x40_2:Int):=od
    have q754:x40_2<(t741.length:Int):=od
    obtain⟨ad754,e754,hx754_0⟩:=Kd.at_int (R_reads' HO_35.out).2.2 x40_2 p754 q754
    cases e754
    replace p754:=eq_true p754
    replace q754:=eq_true q754
    have go_:=trivial;repeat((first|clear go_|go_quiet (fail));try go_wp2_with (first|((with_reducible refine gate_builtin (b:=.append) (xs:=#[.tmp 252,.tmp 259]) rfl ?_);(try(refine gate_guard (by rfl) ?_;dsimp only));at_builtin;refine R_append k58 (w0:=w) w.heap.size rfl (.tmp 252) (.tmp 259) 36 58 (.agg #[(.int .i64 0),(.int .i64 0)]) 16 rfl Try.underlying36 info58 rfl (by decide) (by omega) u39 x39_2 (⟨rd t741 x40_2,t739⟩:S58) [.int .i64 (rd t741 x40_2),.int .i64 t739] (fun k_=>ob k_ (.slice Ao25 t689.length co25)∧ob k_ (.slice Ao47 t715.length co47)∧ob k_ v723) (fun _=>False) rfl rfl ?aP (fun _ hk=>hk.elim) ?aF ?aO ?aB ?aS ?aL ?_;(case aP=>exact k58_mkM _ _ _ (⟨rd t741 x40_2,t739⟩:S58));(case aB=>exact(h3 HB.out GE693.out GE721.out GE740.out));(case aF=>exact(fun k_ hk=>⟨Kd.fresh' (R_lt (rm HO_4.out)) k_ hk,Kd.fresh' (R_lt (rm HO_23.out)) k_ hk,Kd.fresh' (R_lt (rm HO_25.out)) k_ hk⟩));(case aO=>exact(rm HO_39.out));(case aS=>exact(below_size (h3 HB.out GE693.out GE721.out GE740.out)));(case aL=>have:=LMc102.out;omega);intro v756 w104 ho hb hg hat;rw[←Ny755.out]at ho;replace HO_4:=ak (R_after (ok:=(fun k_=>ob k_ (.slice Ao47 t715.length co47)∧ob k_ v723)) (rm (R_mono HO_4.out (fun _ hk=>⟨⟨hk.1,hk.2.1⟩,hk.2.2⟩))) hg hat);replace HO_23:=ak (R_after (ok:=(fun k_=>ob k_ (.slice Ao25 t689.length co25)∧ob k_ v723)) (rm (R_mono HO_23.out (fun _ hk=>⟨⟨hk.1,hk.2.1⟩,hk.2.2⟩))) hg hat);replace HO_25:=ak (R_after (ok:=(fun k_=>ob k_ (.slice Ao25 t689.length co25)∧ob k_ (.slice Ao47 t715.length co47))) (rm (R_mono HO_25.out (fun _ hk=>⟨⟨hk.1,hk.2.1⟩,hk.2.2⟩))) hg hat);replace HO_35:=ak (R_over' (rm HO_35.out) (R_typed (rm HO_39.out)) (by decide) hg);replace BK693:=ak (blk_grown (g:=gb693) (o:=.cells #[.int .i64 t687,.bool t688] 27 (0,0)) (bm BK693.out) hg (R_ne HO_39.out BK693.out (by decide)));replace BK721:=ak (blk_grown (g:=gb721) (o:=.cells #[.int .i64 t713,.bool t714] 27 (0,0)) (bm BK721.out) hg (R_ne HO_39.out BK721.out (by decide)));replace BK740:=ak (blk_grown (g:=gb740) (o:=.cells #[.int .i64 t737,.bool t738] 27 (0,0)) (bm BK740.out) hg (R_ne HO_39.out BK740.out (by decide)));replace HB:=ak hb;have HO757:=ak ho;clear HO_39;clear ho hb hg hat)))
    go_roundg k2
    case measure=>have:=HJ20.out;have:=HK2.out;omega
    case rel=>exact⟨(y755),(wrap64 (x40_2+1)),fd,H',⟨by have:=HJ20.out;have:=HK2.out;omega⟩,⟨rm (R_mono HO_4.out (fun _ hk=>⟨hk.1.1,⟨hk.1.2,hk.2⟩⟩))⟩,⟨rm (R_mono HO_23.out (fun _ hk=>⟨hk.1.1,⟨hk.1.2,hk.2⟩⟩))⟩,⟨rm (R_mono HO_25.out (fun _ hk=>⟨hk.1.1,⟨hk.1.2,hk.2⟩⟩))⟩,⟨rm HO_35.out⟩,⟨rm HO757.out⟩,⟨bm BK693.out⟩,⟨bm BK721.out⟩,⟨bm BK740.out⟩,⟨h3 HB.out GE693.out GE721.out GE740.out⟩⟩
  rw[if_neg c100]at H
  have c100b0:decide (x40_2<(t741.length:Int))=false:=decide_eq_false c100
  clear c100
  (first|rw[c100b0]|(simp only[i64_w,i32_w];rw[c100b0])|skip)
  obtain⟨⟨t758,t759⟩,A105,H⟩:=bd H;(try dsimp only at H)
  by_cases c106:t759=true
  rotate_left
  ·replace c106:=Bool.eq_false_iff.mpr c106
   subst c106
   rw[if_neg (show ¬(false=true)by decide)]at H
   as_aux_lemma=>
    obtain rfl:=Option.some.inj H
    obtain⟨Ao129,co129,eo129⟩:=R_slice HO_35.out
    subst eo129
    have hnb130:=NB740_693.out
    have hnc130:=NB693_740.out
    have hnb131:=NB740_721.out
    have hnc131:=NB721_740.out
    have hcz132_0:=bc BK740 0 rfl
    have hcz132_1:=bc BK740 1 rfl
    have hfz132_0:=bf BK740 0
    have hfz132_1:=bf BK740 1
    obtain⟨Ao133,co133,eo133⟩:=R_slice HO_39.out
    subst eo133
    have go_:=trivial;repeat((first|clear go_|go_quiet (fail));try go_wp2_with (first|(go_at_call 39;(with_reducible refine(impl_StrengthOf.calls k2 t737 t738 _ _ x39_2 t758 false _ ?side1 ?side2 A105.out).mono ?_);(case side1=>exact cm (R_reads' HO_39.out).2.2);(case side2=>exact(R_reads' HO_39.out).2.1);rintro e w134 ⟨rfl,hb⟩;replace HO_4:=rb HO_4 hb;replace HO_23:=rb HO_23 hb;replace HO_25:=rb HO_25 hb;replace HO_35:=rb HO_35 hb;replace HO_39:=rb HO_39 hb;replace BK693:=kb BK693 hb;replace BK721:=kb BK721 hb;replace BK740:=kb BK740 hb;replace HB:=ak (below_step (h3 HB.out GE693.out GE721.out GE740.out) hb);(try clear hb);(try clear hk);(try clear hi))))
    go_ret
    exact⟨fe,h3 HB.out GE693.out GE721.out GE740.out⟩
  subst c106
  rw[if_pos rfl]at H
  by_cases c107:t758<1
  ·rw[if_pos c107]at H
   have c107b0:decide (t758<1)=true:=decide_eq_true c107
   clear c107
   as_aux_lemma=>
    obtain rfl:=Option.some.inj H
    obtain⟨Ao108,co108,eo108⟩:=R_slice HO_35.out
    subst eo108
    have hnb109:=NB740_693.out
    have hnc109:=NB693_740.out
    have hnb110:=NB740_721.out
    have hnc110:=NB721_740.out
    have hcz111_0:=bc BK740 0 rfl
    have hcz111_1:=bc BK740 1 rfl
    have hfz111_0:=bf BK740 0
    have hfz111_1:=bf BK740 1
    obtain⟨Ao112,co112,eo112⟩:=R_slice HO_39.out
    subst eo112
    have go_:=trivial;repeat((first|clear go_|go_quiet (fail));try go_wp2_with (first|(go_at_call 39;(with_reducible refine(impl_StrengthOf.calls k2 t737 t738 _ _ x39_2 t758 true _ ?side1 ?side2 A105.out).mono ?_);(case side1=>exact cm (R_reads' HO_39.out).2.2);(case side2=>exact(R_reads' HO_39.out).2.1);rintro e w113 ⟨rfl,hb⟩;replace HO_4:=rb HO_4 hb;replace HO_23:=rb HO_23 hb;replace HO_25:=rb HO_25 hb;replace HO_35:=rb HO_35 hb;replace HO_39:=rb HO_39 hb;replace BK693:=kb BK693 hb;replace BK721:=kb BK721 hb;replace BK740:=kb BK740 hb;replace HB:=ak (below_step (h3 HB.out GE693.out GE721.out GE740.out) hb);(try clear hb);(try clear hk);(try clear hi))))
    go_ret
    exact⟨fe,h3 HB.out GE693.out GE721.out GE740.out⟩
  rw[if_neg c107]at H
  have c107b0:decide (t758<1)=false:=decide_eq_false c107
  clear c107
  by_cases c114: (wrap64 ((wrap64 ((t741.length:Int)-1))*(wrap64 ((wrap64 (2*t739))+1))))≥t737
  ·rw[if_pos c114]at H
   have c114b0:decide (t737≤(wrap64 ((wrap64 ((t741.length:Int)-1))*(wrap64 ((wrap64 (2*t739))+1)))))=true:=decide_eq_true c114
   clear c114
   as_aux_lemma=>
    obtain rfl:=Option.some.inj H
    obtain⟨Ao115,co115,eo115⟩:=R_slice HO_35.out
    subst eo115
    have hnb116:=NB740_693.out
    have hnc116:=NB693_740.out
    have hnb117:=NB740_721.out
    have hnc117:=NB721_740.out
    have hcz118_0:=bc BK740 0 rfl
    have hcz118_1:=bc BK740 1 rfl
    have hfz118_0:=bf BK740 0
    have hfz118_1:=bf BK740 1
    obtain⟨Ao119,co119,eo119⟩:=R_slice HO_39.out
    subst eo119
    have go_:=trivial;repeat((first|clear go_|go_quiet (fail));try go_wp2_with (first|(go_at_call 39;(with_reducible refine(impl_StrengthOf.calls k2 t737 t738 _ _ x39_2 t758 true _ ?side1 ?side2 A105.out).mono ?_);(case side1=>exact cm (R_reads' HO_39.out).2.2);(case side2=>exact(R_reads' HO_39.out).2.1);rintro e w120 ⟨rfl,hb⟩;replace HO_4:=rb HO_4 hb;replace HO_23:=rb HO_23 hb;replace HO_25:=rb HO_25 hb;replace HO_35:=rb HO_35 hb;replace HO_39:=rb HO_39 hb;replace BK693:=kb BK693 hb;replace BK721:=kb BK721 hb;replace BK740:=kb BK740 hb;replace HB:=ak (below_step (h3 HB.out GE693.out GE721.out GE740.out) hb);(try clear hb);(try clear hk);(try clear hi);have hcz121_0:=bc BK740 0 rfl;have hcz121_1:=bc BK740 1 rfl;have hfz121_0:=bf BK740 0;have hfz121_1:=bf BK740 1)))
    go_ret
    exact⟨fe,h3 HB.out GE693.out GE721.out GE740.out⟩
  rw[if_neg c114]at H
  have c114b0:decide (t737≤(wrap64 ((wrap64 ((t741.length:Int)-1))*(wrap64 ((wrap64 (2*t739))+1)))))=false:=decide_eq_false c114
  clear c114
  as_aux_lemma=>
   have H':=Aside0.mk H
   clear H
   obtain⟨Ao122,co122,eo122⟩:=R_slice HO_35.out
   subst eo122
   have hnb123:=NB740_693.out
   have hnc123:=NB693_740.out
   have hnb124:=NB740_721.out
   have hnc124:=NB721_740.out
   have hcz125_0:=bc BK740 0 rfl
   have hcz125_1:=bc BK740 1 rfl
   have hfz125_0:=bf BK740 0
   have hfz125_1:=bf BK740 1
   obtain⟨Ao126,co126,eo126⟩:=R_slice HO_39.out
   subst eo126
   have go_:=trivial;repeat((first|clear go_|go_quiet (fail));try go_wp2_with (first|(go_at_call 39;(with_reducible refine(impl_StrengthOf.calls k2 t737 t738 _ _ x39_2 t758 true _ ?side1 ?side2 A105.out).mono ?_);(case side1=>exact cm (R_reads' HO_39.out).2.2);(case side2=>exact(R_reads' HO_39.out).2.1);rintro e w127 ⟨rfl,hb⟩;replace HO_4:=rb HO_4 hb;replace HO_23:=rb HO_23 hb;replace HO_25:=rb HO_25 hb;replace HO_35:=rb HO_35 hb;replace HO_39:=rb HO_39 hb;replace BK693:=kb BK693 hb;replace BK721:=kb BK721 hb;replace BK740:=kb BK740 hb;replace HB:=ak (below_step (h3 HB.out GE693.out GE721.out GE740.out) hb);(try clear hb);(try clear hk);(try clear hi);have hcz128_0:=bc BK740 0 rfl;have hcz128_1:=bc BK740 1 rfl;have hfz128_0:=bf BK740 0;have hfz128_1:=bf BK740 1)))
   go_meet
   case rel=>exact⟨_,H',⟨by first|exact Nat.le_refl _|(have:=HJ20.out;have:=HK2.out;omega)⟩,⟨rm (R_mono HO_4.out (fun _ hk=>⟨hk.1,hk.2.1⟩))⟩,⟨rm (R_mono HO_23.out (fun _ hk=>⟨hk.1,hk.2.1⟩))⟩,⟨rm (R_mono HO_25.out (fun _ hk=>⟨hk.1,hk.2.1⟩))⟩,⟨bm BK693.out⟩,⟨bm BK721.out⟩,⟨bm BK740.out⟩,⟨h3 HB.out GE693.out GE721.out GE740.out⟩⟩
 clear HC96
 obtain⟨kq,HA,HJ95,HO_4,HO_23,HO_25,BK693,BK721,BK740,HB⟩:=hcut
 obtain _|kj95:=kq;·cases HA.out
 obtain⟨H⟩:=HA
 simp only[laws_FnMoves.j2]at H
 exact laws_FnMoves.rest2 @h3_ (by assumption) GE693 GE721 NB693_721 NB721_693 GE740 NB693_740 NB740_693 NB721_740 NB740_721 HJ20 HO_4 HO_23 HO_25 BK693 BK721 BK740 HB HJ95 H
end
end Go.Proofs.Ytanfamfgdgcjpaa.QFnMoves
