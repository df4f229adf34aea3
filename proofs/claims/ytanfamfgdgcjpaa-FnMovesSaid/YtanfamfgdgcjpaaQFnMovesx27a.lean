/- Functions that the law FnMoves comes to, and their walks: no condition but those named. -/
import Derived.Test.YtanfamfgdgcjpaaQFnMovesx0
import Derived.Test.YtanfamfgdgcjpaaQFnMovesx2
import Derived.Test.YtanfamfgdgcjpaaQFnMovesx3
import Derived.Test.YtanfamfgdgcjpaaQFnMovesx5
import Derived.Test.YtanfamfgdgcjpaaQFnMovesx6
import Derived.Test.YtanfamfgdgcjpaaQFnMovesx10
import Derived.Test.YtanfamfgdgcjpaaQFnMovesx12
import Derived.Test.YtanfamfgdgcjpaaQFnMovesx17
import Derived.Test.YtanfamfgdgcjpaaQFnMovesx19
import Derived.Test.YtanfamfgdgcjpaaQFnMovesx21
import Derived.Test.YtanfamfgdgcjpaaQFnMovesx22
import Derived.Test.YtanfamfgdgcjpaaQFnMovesx25
import Derived.Test.YtanfamfgdgcjpaaQFnMovesx26
import Derived.Test.YtanfamfgdgcjpaaQFnMovesx27
namespace Go.Proofs.Ytanfamfgdgcjpaa.QFnMoves
open Go.RowKit Go.Proofs.YtanfamfgdgcjpaaW.PrintWords Go.Proofs.YtanfamfgdgcjpaaW.PrintLast Go.Proofs.YtanfamfgdgcjpaaW.PrintMore Go.Proofs.Ytanfamfgdgcjpaa.Short
attribute [local go_sem] max2_int min2_int max_two min_two max_three min_three max_four min_four
set_option linter.unusedVariables false
set_option linter.unusedSimpArgs false
section
open Kd
set_option maxHeartbeats 40000000 in
set_option maxRecDepth 1000000 in
def laws_FnMoves.rest3_g2: {G:Prop × Prop// G.1→G.2→laws_FnMoves.rest3_g.1}:=by
 apply hnd2
 case h=>
  intro hG0_ hG1_
  intro k A0 c0 l0 r w t687 t688 t689 t692 t694 t695 t696 t697 t698 t699 t700 t701 t702 t703 t704 t705 t706 t707 t708 t709 t713 t714 t715 t718 t725 t726 t727 t731 t732 t733 t737 t738 t739 t744 t748 gb693 Ao25 co25 gb721 Ao47 co47 Ao48 co48 v723 v729 gb740 v742 v746 kj20 u39 u40 u41 u42 kj95 wc u2 u43 u44 u45 u46 u47 u48 u61 u62 u63 u64 u65 u66 u67 u68 u69 u70 u71 u72 u73 u74 u75 u76 u77 u78 u79 u80 u81 u82 u83 u84 u85 u86 u87 u88 u89 u90 u91 u92 u93 u94 u95 u96 u97 u98 u99 u100 u101 u102 u103 u104 u105 u106 u107 u108 u109 u110 u111 u112 u113 u114 u115 u116 u117 u118 u119 u120 u121 u122 u123 u124 u125 u126 u127 u128 u129 u130 u131 u132 u133 u134 u135 u136 u137 u138 u139 u140 u141 u142 u143 u144 u145 u146 u147 u148 u149 u150 u151 u152 u153 u154 u155 u156 u157 u158 u159 u160 u161 u162 u163 u164 u165 u166 u167 u168 u169 u170 u171 u172 u173 u174 u175 u176 u177 u178 u179 u180 u181 u182 u183 u184 u185 u186 u187 u188 u189 u190 u191 u192 u193 u194 u195 u196 u197 u198 u199 u200 u201 u202 u203 u204 u205 u206 u207 u208 u209 u210 u211 u212 u213 u214 u215 u216 u217 u218 u219 u220 u221 u222 u223 u224 u225 u226 u227 u228 u229 u230 u231 u232 u233 u234 u235 u236 u237 u238 u239 u240 u241 u242 u243 u244 u245 u246 u247 u248 u249 u250 u251 u252 u253 u254 u255 u256 u257 u258 u259 u260 u261 u262 u263 u264 u265 u266 u267 u268 u269 u270 u271 u272 u273 u274 u275 u276 u277 u278 u279 u280 u281 u282 u283 u284 u285 u286 u287 u288 u289 u290 u291 u292 u293 u294 u295 u296 u297 u298 u299 u300 u301 u302 u303 u304 u305 u306 u307 u308 u309 u310 u311 u312 u313 u314 u315 u316 u317 u318 u319 u320 u321 u322 u323 u324 u325 u326 u327 u328 u329 u330 u331 u332 u333 u334 u335 u336 u337 u338 u339 u340 u341 u342 u343 u344 u345 u346 u347 u348 u349 u350 u351 u352 u353 u354 u355 u356 u357 u358 u359 u360 u361 u362 u363 u364 u365 u366 u367 u368 u369 u370 u371 u372 u373 u374 u375 u376 u377 u378 u379 u380 u381 u382 u383 u384 u385 u386 u387 u388 u389 u390 u391 u392 u393 u394 u395 u396 u397 u398 u399 u400 u401 u402 u403 u404 u405 u406 u407 u408 u409 u410 u411 u412 u413 u414 u415 u416 u417 u418 u419 u420 u421 u422 u423 u424 u425 u426 u427 u428 u429 u430 u431 u432 u433 u434 u435 u436 u437 u438 u439 u440 u441 u442 u443 u444 u445 u446 u447 u448 u449 u450 u451 u452 u453 u454 u455 kj134 GE693 GE721 NB693_721 NB721_693 GE740 NB693_740 NB740_693 HJ20 HJ95 HO_4 BK693 BK721 BK740 HB HJ134 hu27 hu58 i2_0_ i2_1_ i2_2_ i2_3_ i2_4_ i2_5_ i2_6_ H
  by_cases c202:t695=true
  rotate_left
  ·replace c202:=Bool.eq_false_iff.mpr c202
   subst c202
   rw[if_neg (show ¬(false=true)by decide)]at H
   as_aux_lemma=>
    have H':=Aside0.mk H
    clear H
    go_wp2
    repeat(go_quiet (fail);try go_wp2)
    go_meet
    case rel=>exact⟨_,H',⟨by first|exact Nat.le_refl _|(have:=HJ20.out;have:=HJ95.out;have:=HJ134.out;omega)⟩,⟨rm HO_4.out⟩,⟨bm BK693.out⟩,⟨bm BK721.out⟩,⟨bm BK740.out⟩,⟨h3 HB.out GE693.out GE721.out GE740.out⟩⟩
  subst c202
  rw[if_pos rfl]at H
  have H':=Aside0.mk H
  clear H
  go_wp2
  repeat(go_quiet (fail);try go_wp2)
  go_loopg [49,50] kj134 (fun kq v49 v50 w'=>∃ (x49_4:Bool) (x50_4:Int),v49= .bool x49_4∧v50= .int .i64 x50_4∧Aside0 (laws_FnMoves.l1 kq t689 t692 t694 t698 t702 t703 t706 x49_4 x50_4 t687 t688=some r)∧Aside0 (kq≤kj134)∧Aside0 (Kd.R k58 58 w' w.heap.size (fun _=>True) (.slice Ao25 t689.length co25) t689)∧Aside0 (w'.heap[gb693]? =some (.cells #[.int .i64 t687,.bool t688] 27 (0,0)))∧Aside0 (w'.heap[gb721]? =some (.cells #[.int .i64 t713,.bool t714] 27 (0,0)))∧Aside0 (w'.heap[gb740]? =some (.cells #[.int .i64 t737,.bool t738] 27 (0,0)))∧Aside0 (Below w.heap.size w w'))
  case atStart=>exact⟨(true),(0),fd,fd,H',⟨Nat.le_refl _⟩,⟨rm HO_4.out⟩,⟨bm BK693.out⟩,⟨bm BK721.out⟩,⟨bm BK740.out⟩,⟨h3 HB.out GE693.out GE721.out GE740.out⟩⟩
  clear H'
  obtain⟨x49_4,x50_4,rfl,rfl,HA,HK4,HO_4,BK693,BK721,BK740,HB⟩:=hrel
  obtain _|k4:=gk;·cases HA.out
  obtain⟨H⟩:=HA
  simp only[laws_FnMoves.l1]at H
  by_cases c203:x50_4<(t689.length:Int)
  ·rw[if_pos c203]at H
   have c203b0:decide (x50_4<(t689.length:Int))=true:=decide_eq_true c203
   clear c203
   (first|rw[c203b0]|(simp only[i64_w,i32_w];rw[c203b0])|skip)
   by_cases c204:x49_4=true
   rotate_left
   ·replace c204:=Bool.eq_false_iff.mpr c204
    subst c204
    rw[if_neg (show ¬(false=true)by decide)]at H
    as_aux_lemma=>
     have H':=Aside0.mk H
     clear H
     go_wp2
     repeat(go_quiet (fail);try go_wp2)
     go_roundg k4
     case measure=>have:=HJ20.out;have:=HJ95.out;have:=HJ134.out;have:=HK4.out;omega
     case rel=>exact⟨(false),(wrap64 (x50_4+1)),fd,fd,H',⟨by have:=HJ20.out;have:=HJ95.out;have:=HJ134.out;have:=HK4.out;omega⟩,⟨rm HO_4.out⟩,⟨bm BK693.out⟩,⟨bm BK721.out⟩,⟨bm BK740.out⟩,⟨h3 HB.out GE693.out GE721.out GE740.out⟩⟩
   subst c204
   rw[if_pos rfl]at H
   obtain⟨c205,H⟩:=gi H
   have c205b0:decide (0≤x50_4)=true:=decide_eq_true c205
   clear c205
   obtain⟨c206,H⟩:=gi H
   have c206b0:decide (0<(t689.length:Int))=true:=decide_eq_true c206
   have c206b1:decide (0<t689.length)=true:=decide_eq_true (by omega)
   clear c206
   as_aux_lemma=>
    have H':=Aside0.mk H
    clear H
    have p766:0≤(x50_4:Int):=od
    have q766:x50_4<(t689.length:Int):=od
    obtain⟨ad766,e766,hx766_0,hx766_1⟩:=at_T58 (R_reads' HO_4.out).2.2 x50_4 p766 q766
    cases e766
    replace p766:=eq_true p766
    replace q766:=eq_true q766
    have p767:0≤(0:Int):=(by omega)
    have q767:0<(t689.length:Int):=od
    obtain⟨ad767,e767,hx767_0,hx767_1⟩:=at_T58 (R_reads' HO_4.out).2.2 0 p767 q767
    obtain rfl:ad766=ad767:=(by injection e767)
    have qi767: (0<t689.length)=True:=eq_true (by omega)
    (try rw[show((0:Int)).toNat=0 from rfl]at hx767_0)
    (try rw[show 0*2=0 from rfl]at hx767_0)
    (try rw[Addr.add_zero']at hx767_0)
    (try rw[show((0:Int)).toNat=0 from rfl]at hx767_1)
    (try rw[show 0*2=0 from rfl]at hx767_1)
    (try rw[Addr.add_zero']at hx767_1)
    replace p767:=eq_true p767
    replace q767:=eq_true q767
    go_wp2
    repeat(go_quiet (fail);try go_wp2)
    go_roundg k4
    case measure=>have:=HJ20.out;have:=HJ95.out;have:=HJ134.out;have:=HK4.out;omega
    case rel=>exact⟨((((rd_T58 t689 x50_4).f1)==((rd_T58 t689 0).f1))),(wrap64 (x50_4+1)),fd,fd,H',⟨by have:=HJ20.out;have:=HJ95.out;have:=HJ134.out;have:=HK4.out;omega⟩,⟨rm HO_4.out⟩,⟨bm BK693.out⟩,⟨bm BK721.out⟩,⟨bm BK740.out⟩,⟨h3 HB.out GE693.out GE721.out GE740.out⟩⟩
  rw[if_neg c203]at H
  have c203b0:decide (x50_4<(t689.length:Int))=false:=decide_eq_false c203
  clear c203
  (first|rw[c203b0]|(simp only[i64_w,i32_w];rw[c203b0])|skip)
  by_cases c207:t698=true
  rotate_left
  ·replace c207:=Bool.eq_false_iff.mpr c207
   subst c207
   rw[if_neg (show ¬(false=true)by decide)]at H
   by_cases c216:x49_4=true
   rotate_left
   ·replace c216:=Bool.eq_false_iff.mpr c216
    subst c216
    rw[if_neg (show ¬(false=true)by decide)]at H
    rename_i i1_0_ i1_1_ i1_2_ i1_3_ i1_4_ i1_5_ i1_6_ i1_7_ i1_8_ i1_9_ i1_10_ i1_11_ i1_12_ i1_13_ i1_14_ i1_15_ i1_16_ i1_17_ i1_18_ i1_19_ i1_20_ i1_21_ i1_22_ i1_23_ i1_24_ i1_25_ i1_26_ i1_27_ i1_28_ i1_29_
    revert k A0 c0 l0 r w t687 t688 t689 t692 t694 t696 t697 t699 t700 t701 t702 t703 t704 t705 t706 t707 t708 t709 t713 t714 t715 t718 t725 t726 t727 t731 t732 t733 t737 t738 t739 t744 t748 gb693 Ao25 co25 gb721 Ao47 co47 Ao48 co48 v723 v729 gb740 v742 v746 kj20 u39 u40 u41 u42 kj95 wc u2 u43 u44 u45 u46 u47 u48 u61 u62 u63 u64 u65 u66 u67 u68 u69 u70 u71 u72 u73 u74 u75 u76 u77 u78 u79 u80 u81 u82 u83 u84 u85 u86 u87 u88 u89 u90 u91 u92 u93 u94 u95 u96 u97 u98 u99 u100 u101 u102 u103 u104 u105 u106 u107 u108 u109 u110 u111 u112 u113 u114 u115 u116 u117 u118 u119 u120 u121 u122 u123 u124 u125 u126 u127 u128 u129 u130 u131 u132 u133 u134 u135 u136 u137 u138 u139 u140 u141 u142 u143 u144 u145 u146 u147 u148 u149 u150 u151 u152 u153 u154 u155 u156 u157 u158 u159 u160 u161 u162 u163 u164 u165 u166 u167 u168 u169 u170 u171 u172 u173 u174 u175 u176 u177 u178 u179 u180 u181 u182 u183 u184 u185 u186 u187 u188 u189 u190 u191 u192 u193 u194 u195 u196 u197 u198 u199 u200 u201 u202 u203 u204 u205 u206 u207 u208 u209 u210 u211 u212 u213 u214 u215 u216 u217 u218 u219 u220 u221 u222 u223 u224 u225 u226 u227 u228 u229 u230 u231 u232 u233 u234 u235 u236 u237 u238 u239 u240 u241 u242 u243 u244 u245 u246 u247 u248 u249 u250 u251 u252 u253 u254 u255 u256 u257 u258 u259 u260 u261 u262 u263 u264 u265 u266 u267 u268 u269 u270 u271 u272 u273 u274 u275 u276 u277 u278 u279 u280 u281 u282 u283 u284 u285 u286 u287 u288 u289 u290 u291 u292 u293 u294 u295 u296 u297 u298 u299 u300 u301 u302 u303 u304 u305 u306 u307 u308 u309 u310 u311 u312 u313 u314 u315 u316 u317 u318 u319 u320 u321 u322 u323 u324 i2_0_ i2_1_ i2_2_ i2_3_ i2_4_ i2_5_ i2_6_ i1_0_ i1_1_ i1_2_ i1_3_ i1_4_ i1_5_ i1_6_ i1_7_ i1_8_ i1_9_ i1_10_ i1_11_ u344 u345 u346 u347 u348 u349 u350 u351 u352 u353 u354 u355 u356 u357 u358 u359 u360 u361 u362 u363 u364 u365 u366 u367 u368 u369 u370 u371 u372 u373 u374 u375 u376 u377 u378 u379 u380 u381 u382 u383 u384 u385 u386 u387 u388 u389 u390 u391 u392 u393 u394 u395 u396 u397 u398 u399 u400 u401 u402 u403 u404 u405 u406 u407 u408 u409 u410 u411 u412 u413 u414 u415 u416 u417 u418 u419 u420 u421 u422 u423 u424 u425 u426 u427 u428 u429 u430 u431 u432 u433 u434 u435 u436 u437 u438 u439 u440 u441 u442 u443 u444 u445 u446 u447 u448 u449 u450 u451 u452 u453 u454 u455 kj134 GE693 GE721 NB693_721 NB721_693 GE740 NB693_740 NB740_693 HJ20 HJ95 i1_12_ i1_13_ i1_14_ i1_15_ i1_16_ HJ134 hu27 hu58 i1_17_ i1_18_ i1_19_ i1_20_ i1_21_ i1_22_ i1_23_ i1_24_ wr u325 u326 u327 u328 u329 u330 u331 u332 u333 u334 u335 u336 u337 u338 u339 u340 u341 u342 u343 i1_25_ i1_26_ x50_4 HO_4 BK693 BK721 BK740 HB k4 i1_27_ HK4 c203b0 i1_28_ i1_29_ H
    apply hG0_.out
   subst c216
   rw[if_pos rfl]at H
   by_cases c217:t694=true
   ·subst c217
    rw[if_pos rfl]at H
    as_aux_lemma=>
     obtain rfl:=Option.some.inj H
     go_wp2
     repeat(go_quiet (fail);try go_wp2)
     go_ret
     exact⟨fe,h3 HB.out GE693.out GE721.out GE740.out⟩
   replace c217:=Bool.eq_false_iff.mpr c217
   subst c217
   rw[if_neg (show ¬(false=true)by decide)]at H
   by_cases c218:t703=true
   rotate_left
   ·replace c218:=Bool.eq_false_iff.mpr c218
    subst c218
    rw[if_neg (show ¬(false=true)by decide)]at H
    by_cases c220: (false !=false)=true
    ·exact absurd c220 (by decide)
    rw[if_neg c220]at H
    have c220b0: (false !=false)=false:=rfl
    (try(have c220b1:decide (false=false)=true:=rfl))
    (try(have c220b2: (false==false)=true:=rfl))
    clear c220
    as_aux_lemma=>
     have H':=Aside0.mk H
     clear H
     go_wp2
     repeat(go_quiet (fail);try go_wp2)
     go_meet
     case rel=>exact⟨_,H',⟨by first|exact Nat.le_refl _|(have:=HJ20.out;have:=HJ95.out;have:=HJ134.out;have:=HK4.out;omega)⟩,⟨rm HO_4.out⟩,⟨bm BK693.out⟩,⟨bm BK721.out⟩,⟨bm BK740.out⟩,⟨h3 HB.out GE693.out GE721.out GE740.out⟩⟩
   subst c218
   rw[if_pos rfl]at H
   by_cases c219: (false !=(decide (t702≤t692)))=true
   ·rw[if_pos c219]at H
    have c219b0: (false !=(decide (t702≤t692)))=true:=c219
    (try(have c219b1:decide (false=(decide (t702≤t692)))=false:=by simpa using c219))
    (try(have c219b2: (false==(decide (t702≤t692)))=false:=by simpa using c219))
    (try(have c219b3:¬(false=(decide (t702≤t692))):=by simpa using c219))
    clear c219
    as_aux_lemma=>
     obtain rfl:=Option.some.inj H
     go_wp2
     repeat(go_quiet (fail);try go_wp2)
     go_ret
     exact⟨fe,h3 HB.out GE693.out GE721.out GE740.out⟩
   rw[if_neg c219]at H
   have c219b0: (false !=(decide (t702≤t692)))=false:=by simpa using c219
   (try(have c219b1:decide (false=(decide (t702≤t692)))=true:=by simpa using c219))
   (try(have c219b2: (false==(decide (t702≤t692)))=true:=by simpa using c219))
   clear c219
   as_aux_lemma=>
    have H':=Aside0.mk H
    clear H
    go_wp2
    repeat(go_quiet (fail);try go_wp2)
    go_meet
    case rel=>exact⟨_,H',⟨by first|exact Nat.le_refl _|(have:=HJ20.out;have:=HJ95.out;have:=HJ134.out;have:=HK4.out;omega)⟩,⟨rm HO_4.out⟩,⟨bm BK693.out⟩,⟨bm BK721.out⟩,⟨bm BK740.out⟩,⟨h3 HB.out GE693.out GE721.out GE740.out⟩⟩
  subst c207
  rw[if_pos rfl]at H
  rename_i i0_0_ i0_1_ i0_2_ i0_3_ i0_4_ i0_5_ i0_6_ i0_7_ i0_8_ i0_9_ i0_10_ i0_11_ i0_12_ i0_13_ i0_14_ i0_15_ i0_16_ i0_17_ i0_18_ i0_19_ i0_20_ i0_21_ i0_22_ i0_23_ i0_24_ i0_25_ i0_26_ i0_27_ i0_28_ i0_29_
  revert k A0 c0 l0 r w t687 t688 t689 t692 t694 t696 t697 t699 t700 t701 t702 t703 t704 t705 t706 t707 t708 t709 t713 t714 t715 t718 t725 t726 t727 t731 t732 t733 t737 t738 t739 t744 t748 gb693 Ao25 co25 gb721 Ao47 co47 Ao48 co48 v723 v729 gb740 v742 v746 kj20 u39 u40 u41 u42 kj95 wc u2 u43 u44 u45 u46 u47 u48 u61 u62 u63 u64 u65 u66 u67 u68 u69 u70 u71 u72 u73 u74 u75 u76 u77 u78 u79 u80 u81 u82 u83 u84 u85 u86 u87 u88 u89 u90 u91 u92 u93 u94 u95 u96 u97 u98 u99 u100 u101 u102 u103 u104 u105 u106 u107 u108 u109 u110 u111 u112 u113 u114 u115 u116 u117 u118 u119 u120 u121 u122 u123 u124 u125 u126 u127 u128 u129 u130 u131 u132 u133 u134 u135 u136 u137 u138 u139 u140 u141 u142 u143 u144 u145 u146 u147 u148 u149 u150 u151 u152 u153 u154 u155 u156 u157 u158 u159 u160 u161 u162 u163 u164 u165 u166 u167 u168 u169 u170 u171 u172 u173 u174 u175 u176 u177 u178 u179 u180 u181 u182 u183 u184 u185 u186 u187 u188 u189 u190 u191 u192 u193 u194 u195 u196 u197 u198 u199 u200 u201 u202 u203 u204 u205 u206 u207 u208 u209 u210 u211 u212 u213 u214 u215 u216 u217 u218 u219 u220 u221 u222 u223 u224 u225 u226 u227 u228 u229 u230 u231 u232 u233 u234 u235 u236 u237 u238 u239 u240 u241 u242 u243 u244 u245 u246 u247 u248 u249 u250 u251 u252 u253 u254 u255 u256 u257 u258 u259 u260 u261 u262 u263 u264 u265 u266 u267 u268 u269 u270 u271 u272 u273 u274 u275 u276 u277 u278 u279 u280 u281 u282 u283 u284 u285 u286 u287 u288 u289 u290 u291 u292 u293 u294 u295 u296 u297 u298 u299 u300 u301 u302 u303 u304 u305 u306 u307 u308 u309 u310 u311 u312 u313 u314 u315 u316 u317 u318 u319 u320 u321 u322 u323 u324 i2_0_ i2_1_ i2_2_ i2_3_ i2_4_ i2_5_ i2_6_ i0_0_ i0_1_ i0_2_ i0_3_ i0_4_ i0_5_ i0_6_ i0_7_ i0_8_ i0_9_ i0_10_ i0_11_ u344 u345 u346 u347 u348 u349 u350 u351 u352 u353 u354 u355 u356 u357 u358 u359 u360 u361 u362 u363 u364 u365 u366 u367 u368 u369 u370 u371 u372 u373 u374 u375 u376 u377 u378 u379 u380 u381 u382 u383 u384 u385 u386 u387 u388 u389 u390 u391 u392 u393 u394 u395 u396 u397 u398 u399 u400 u401 u402 u403 u404 u405 u406 u407 u408 u409 u410 u411 u412 u413 u414 u415 u416 u417 u418 u419 u420 u421 u422 u423 u424 u425 u426 u427 u428 u429 u430 u431 u432 u433 u434 u435 u436 u437 u438 u439 u440 u441 u442 u443 u444 u445 u446 u447 u448 u449 u450 u451 u452 u453 u454 u455 kj134 GE693 GE721 NB693_721 NB721_693 GE740 NB693_740 NB740_693 HJ20 HJ95 i0_12_ i0_13_ i0_14_ i0_15_ i0_16_ HJ134 hu27 hu58 i0_17_ i0_18_ i0_19_ i0_20_ i0_21_ i0_22_ i0_23_ i0_24_ wr u325 u326 u327 u328 u329 u330 u331 u332 u333 u334 u335 u336 u337 u338 u339 u340 u341 u342 u343 i0_25_ i0_26_ x49_4 x50_4 HO_4 BK693 BK721 BK740 HB k4 i0_27_ HK4 c203b0 i0_28_ i0_29_ H
  apply hG1_.out
end
end Go.Proofs.Ytanfamfgdgcjpaa.QFnMoves
