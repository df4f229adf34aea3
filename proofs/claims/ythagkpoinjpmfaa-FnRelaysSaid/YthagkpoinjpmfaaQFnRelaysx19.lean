/- Functions that the law FnRelays comes to, and their walks: no condition but those named. -/
import Derived.Test.YthagkpoinjpmfaaQFnRelaysx0
import Derived.Test.YthagkpoinjpmfaaQFnRelaysx3
import Derived.Test.YthagkpoinjpmfaaQFnRelaysx6
import Derived.Test.YthagkpoinjpmfaaQFnRelaysx8
import Derived.Test.YthagkpoinjpmfaaQFnRelaysx9
import Derived.Test.YthagkpoinjpmfaaQFnRelaysx10
import Derived.Test.YthagkpoinjpmfaaQFnRelaysx12
import Derived.Test.YthagkpoinjpmfaaQFnRelaysx16
import Derived.Test.YthagkpoinjpmfaaQFnRelaysx17
import Derived.Test.YthagkpoinjpmfaaQFnRelaysx18
namespace Go.Proofs.Ythagkpoinjpmfaa.QFnRelays
open Go.RowKit Go.Proofs.YthagkpoinjpmfaaW.PrintWords Go.Proofs.YthagkpoinjpmfaaW.PrintLast Go.Proofs.YthagkpoinjpmfaaW.PrintMore Go.Proofs.Ythagkpoinjpmfaa.Short
attribute [local go_sem] max2_int min2_int max_two min_two max_three min_three max_four min_four
set_option linter.unusedVariables false
set_option linter.unusedSimpArgs false
section
open Kd
set_option maxHeartbeats 8000000 in
set_option maxRecDepth 1000000 in
theorem laws_FnRelays.rest3 {k:Nat} {A0:Option Addr} {c0:Nat} {l0:List Int} {r:Bool} {w:World} {t635:Int} {t636:Bool} {t637:List S63} {t640 t641:Int} {t642:List S70} {t646 t647 t648 t649:Bool} {t650 t652:Int} {t653:Bool} {t654:Int} {t655:Bool} {t656:Int} {t657:Bool} {t661:Int} {t662:Bool} {t663 t664 t665 t666 t669:Int} {t670:Bool} {t671:Int} {t672:Bool} {t676:Int} {t677:Bool} {t678:List S63} {t682 t683 t684 t685:Bool} {gb645:Nat} {Ao23:Option Addr} {co23:Nat} {Ao24:Option Addr} {co24 gb667 gb668 gb681:Nat} {Ao58:Option Addr} {co58 kj18 kj74:Nat} {t686:Int} {t687:Bool} {t688:Int} {t689:Bool} {t690:Int} {t691:Bool} {wc:World} {u43 u44 u45 u46 u47 u48 u49 u50 u51 u52 u53 u54 u55 u56 u57 u58 u59 u60 u61 u62 u63 u64 u65 u66 u67 u68 u69 u70 u71 u72 u73 u74 u75 u76 u77 u78 u79 u80 u81 u82 u83 u84 u85 u86 u87 u88 u89 u90 u91 u92 u93 u94 u95 u96 u97 u98 u99 u100 u101 u102 u103 u104 u105 u106 u107 u108 u109 u110 u111 u112 u113 u114 u115 u116 u117 u118 u119 u120 u121 u122 u123 u124 u125 u126 u127 u128 u129 u130 u131 u132 u133 u134 u135 u136 u137 u138 u139 u140 u141 u142 u143 u144 u145 u146 u147 u148 u149 u150 u151 u152 u153 u154 u155 u156 u157 u158 u159 u160 u161 u162 u163 u164 u165 u166 u167 u168 u169 u170 u171 u172 u173 u174 u175 u176 u177 u178 u179 u180 u181 u182 u183 u184 u185 u186 u187 u188 u189 u190 u191 u192 u193 u194 u195 u196 u197 u198 u199 u200 u201 u202 u203 u204 u205 u206 u207 u208 u209 u210 u211 u212 u213 u214 u215 u216 u217 u218 u219 u220 u221 u222 u223 u224 u225 u226 u227 u228 u229 u230 u231 u232 u233 u234 u235 u236 u237 u238 u239 u240 u241 u242 u243 u244 u245 u246 u247 u248 u249 u250 u251 u252 u253 u254 u255 u256 u257 u258 u259 u260 u261 u262 u263 u264 u265 u266 u267 u268 u269 u270 u272 u273 u274 u275 u276 u277 u278 u279 u280 u281 u282 u283 u284 u285 u286 u287 u288 u289 u290 u291 u292 u293 u294 u295 u296 u297 u298 u299 u300 u301 u302 u303 u304 u305 u306 u307 u308 u309 u310 u311 u312 u313 u314 u315 u316 u317 u318 u319 u320 u321 u322 u323 u324 u325 u326 u327 u328 u329:Value} {kj86:Nat} {K1 K:Act→World→Prop} (hK1:∀ a w_,Code.wp Try.prog (follow [true,true,true,true,true,true,true,true,true,true,true,true,true,true,true,true,true,true,true,true,true,true] (Try.f9.body.getD Code.skip)) (bodyPost Try.prog Try.f9 fun e w'=>e=Ending.returned (Value.bool r)∧Below w.heap.size w w') a w_→K1 a w_) (hK:∀ a w_,Code.wp Try.prog (follow [true,true,true,true,true,true,true,true,true,true,true,true,true,true,true,true,true,true,true,true,true,false,true] (Try.f9.body.getD Code.skip)) (Exit.then K1 (bodyPost Try.prog Try.f9 fun e w'=>e=Ending.returned (Value.bool r)∧Below w.heap.size w w')) a w_→K a w_) (GE645:Aside0 (w.heap.size≤gb645)) (GE667:Aside0 (w.heap.size≤gb667)) (GE668:Aside0 (w.heap.size≤gb668)) (GE681:Aside0 (w.heap.size≤gb681)) (HJ18:Aside0 (kj18+1≤k)) (HJ74:Aside0 (kj74+1≤kj18)) (HO_4:Aside0 (k63.R 63 wc w.heap.size (fun k_=>k_≠gb668) (Value.slice Ao23 t637.length co23) t637)) (HO_7:Aside0 (k70.R 70 wc w.heap.size (fun x=>True) (Value.slice Ao24 t642.length co24) t642)) (BK645:Aside0 (wc.heap[gb645]? =some (Obj.cells #[Value.int IntKind.i64 t635,Value.bool t636] 28))) (BK667:Aside0 (wc.heap[gb667]? =some (Obj.cells #[Value.int IntKind.i64 t661,Value.bool t662] 28))) (BK668:Aside0 (wc.heap[gb668]? =some (Obj.cells #[Value.int IntKind.i64 t663,Value.int IntKind.i64 t664,Value.int IntKind.i64 t665] 63))) (BK681:Aside0 (wc.heap[gb681]? =some (Obj.cells #[Value.int IntKind.i64 t676,Value.bool t677] 28))) (HB:Aside0 (Below w.heap.size w wc)) (HJ86:Aside0 (kj86+1≤kj74)) (H:laws_FnRelays.l0 kj86 t637 t641 t642 t640 0 t635 t636=some r):
  K {tmps:= #[Value.slice A0 l0.length c0,undef,Value.bool false,Value.pointer (some {block:=gb645,off:=0}),Value.slice Ao23 t637.length co23,Value.int IntKind.i64 t640,Value.int IntKind.i64 t641,Value.slice Ao24 t642.length co24,Value.bool t646,Value.bool t647,Value.bool t648,Value.bool t649,Value.int IntKind.i64 t650,Value.bool true,Value.int IntKind.i64 t652,Value.bool t653,Value.int IntKind.i64 t654,Value.bool t655,Value.int IntKind.i64 t656,Value.bool t657,Value.pointer (some {block:=gb667,off:=0}),Value.pointer (some {block:=gb668,off:=0}),Value.int IntKind.i64 t666,Value.int IntKind.i64 t669,Value.bool t670,Value.int IntKind.i64 t671,Value.bool t672,Value.pointer (some {block:=gb681,off:=0}),Value.slice Ao58 t678.length co58,Value.bool t682,Value.bool t683,Value.bool t684,Value.bool t685,Value.int IntKind.i64 t686,Value.bool t687,Value.int IntKind.i64 t688,Value.bool t689,Value.int IntKind.i64 t690,Value.bool t691,undef,undef,undef,undef,u43,u44,u45,u46,u47,u48,u49,u50,u51,u52,u53,u54,u55,u56,u57,u58,u59,u60,u61,u62,u63,u64,u65,u66,u67,u68,u69,u70,u71,u72,u73,u74,u75,u76,u77,u78,u79,u80,u81,u82,u83,u84,u85,u86,u87,u88,u89,u90,u91,u92,u93,u94,u95,u96,u97,u98,u99,u100,u101,u102,u103,u104,u105,u106,u107,u108,u109,u110,u111,u112,u113,u114,u115,u116,u117,u118,u119,u120,u121,u122,u123,u124,u125,u126,u127,u128,u129,u130,u131,u132,u133,u134,u135,u136,u137,u138,u139,u140,u141,u142,u143,u144,u145,u146,u147,u148,u149,u150,u151,u152,u153,u154,u155,u156,u157,u158,u159,u160,u161,u162,u163,u164,u165,u166,u167,u168,u169,u170,u171,u172,u173,u174,u175,u176,u177,u178,u179,u180,u181,u182,u183,u184,u185,u186,u187,u188,u189,u190,u191,u192,u193,u194,u195,u196,u197,u198,u199,u200,u201,u202,u203,u204,u205,u206,u207,u208,u209,u210,u211,u212,u213,u214,u215,u216,u217,u218,u219,u220,u221,u222,u223,u224,u225,u226,u227,u228,u229,u230,u231,u232,u233,u234,u235,u236,u237,u238,u239,u240,u241,u242,u243,u244,u245,u246,u247,u248,u249,u250,u251,u252,u253,u254,u255,u256,u257,u258,u259,u260,u261,u262,u263,u264,u265,u266,u267,u268,u269,u270,Value.bool false,u272,u273,u274,u275,u276,u277,u278,u279,u280,u281,u282,u283,u284,u285,u286,u287,u288,u289,u290,u291,u292,u293,u294,u295,u296,u297,u298,u299,u300,u301,u302,u303,u304,u305,u306,u307,u308,u309,u310,u311,u312,u313,u314,u315,u316,u317,u318,u319,u320,u321,u322,u323,u324,u325,u326,u327,u328,u329],defers:=[]} wc:=by
 have hu28:=Try.underlying28
 have hu63:=Try.underlying63
 conv at hK1=>enter [a,w_,1,2];whnf
 conv at hK=>enter [a,w_,1,2];whnf
 (try dsimp only)
 have H':=Aside0.mk H
 clear H
 go_wp2
 go_loopg [39,40] kj86 (fun kq v39 v40 w'=>∃ (x39_4:Int) (x40_4:Int),v39= .int .i64 x39_4∧v40= .int .i64 x40_4∧Aside0 (laws_FnRelays.l0 kq t637 t641 t642 x39_4 x40_4 t635 t636=some r)∧Aside0 (kq≤kj86)∧Aside0 (Kd.R k63 63 w' w.heap.size (fun k_=>k_≠gb668) (.slice Ao23 t637.length co23) t637)∧Aside0 (Kd.R k70 70 w' w.heap.size (fun _=>True) (.slice Ao24 t642.length co24) t642)∧Aside0 (w'.heap[gb645]? =some (.cells #[.int .i64 t635,.bool t636] 28 (0,0)))∧Aside0 (w'.heap[gb667]? =some (.cells #[.int .i64 t661,.bool t662] 28 (0,0)))∧Aside0 (w'.heap[gb668]? =some (.cells #[.int .i64 t663,.int .i64 t664,.int .i64 t665] 63 (0,0)))∧Aside0 (w'.heap[gb681]? =some (.cells #[.int .i64 t676,.bool t677] 28 (0,0)))∧Aside0 (Below w.heap.size w w'))
 case atStart=>exact⟨(t640),(0),fd,fd,H',⟨Nat.le_refl _⟩,⟨rm HO_4.out⟩,⟨rm HO_7.out⟩,⟨bm BK645.out⟩,⟨bm BK667.out⟩,⟨bm BK668.out⟩,⟨bm BK681.out⟩,⟨by repeat(first|(with_reducible first|exact HB.out|apply below_alloc|apply pw_below_drewN|apply below_drew1|refine below_set ?_ GE645.out|refine below_set ?_ GE667.out|refine below_set ?_ GE668.out|refine below_set ?_ GE681.out)|exact HB.out)⟩⟩
 clear H'
 obtain⟨x39_4,x40_4,rfl,rfl,HA,HK4,HO_4,HO_7,BK645,BK667,BK668,BK681,HB⟩:=hrel
 obtain _|k4:=gk;·cases HA.out
 obtain⟨H⟩:=HA
 simp only[laws_FnRelays.l0]at H
 by_cases c103:x40_4<(t642.length:Int)
 rotate_left
 ·rw[if_neg c103]at H
  have c103b0:decide (x40_4<(t642.length:Int))=false:=decide_eq_false c103
  clear c103
  as_aux_lemma=>
   obtain rfl:=Option.some.inj H
   go_wp2
   go_ret
   exact⟨fe,by repeat(first|(with_reducible first|exact HB.out|apply below_alloc|apply pw_below_drewN|apply below_drew1|refine below_set ?_ GE645.out|refine below_set ?_ GE667.out|refine below_set ?_ GE668.out|refine below_set ?_ GE681.out)|exact HB.out)⟩
 rw[if_pos c103]at H
 have c103b0:decide (x40_4<(t642.length:Int))=true:=decide_eq_true c103
 clear c103
 obtain⟨c104,H⟩:=gi H
 have c104b0:decide (0≤x40_4)=true:=decide_eq_true c104
 clear c104
 obtain⟨c105,H⟩:=gi H
 have c105b0:decide (0≤((rd_T70 t642 x40_4).f0))=true:=decide_eq_true c105
 clear c105
 obtain⟨c106,H⟩:=gi H
 have c106b0:decide (((rd_T70 t642 x40_4).f0)<(t637.length:Int))=true:=decide_eq_true c106
 clear c106
 obtain⟨⟨t694,t695⟩,A107,H⟩:=bd H;(try dsimp only at H)
 by_cases c108:t695=true
 rotate_left
 ·replace c108:=Bool.eq_false_iff.mpr c108
  subst c108
  rw[if_neg (show ¬(false=true)by decide)]at H
  as_aux_lemma=>
   obtain rfl:=Option.some.inj H
   try go_wp2
   replace HO_4:=ak (R_drew HO_4.out)
   replace HO_7:=ak (R_drew HO_7.out)
   replace BK645:=ak (blk_drew BK645.out)
   replace BK667:=ak (blk_drew BK667.out)
   replace BK668:=ak (blk_drew BK668.out)
   replace BK681:=ak (blk_drew BK681.out)
   replace HB:=ak (below_drew1 HB.out)
   have p692:0≤(x40_4:Int):=od
   have q692:x40_4<(t642.length:Int):=od
   obtain⟨ad692,e692,hx692_0,hx692_1,hx692_2⟩:=at_T70 (R_reads' HO_7.out).2.2 x40_4 p692 q692
   cases e692
   replace p692:=eq_true p692
   replace q692:=eq_true q692
   have p693:0≤(((rd_T70 t642 x40_4).f0):Int):=od
   have q693: ((rd_T70 t642 x40_4).f0)<(t637.length:Int):=od
   obtain⟨ad693,e693,hx693_0,hx693_1,hx693_2⟩:=at_T63 (R_reads' HO_4.out).2.2 ((rd_T70 t642 x40_4).f0) p693 q693
   cases e693
   replace p693:=eq_true p693
   replace q693:=eq_true q693
   refine start_ (n:=16) (S:=fun w'=>w'.cell? ⟨gb645,0,none⟩=some (.int .i64 t635)∧w'.cell? ⟨gb645,1,none⟩=some (.bool t636)∧w'.cell? (ad692.add ((x40_4).toNat*3))=some (.int .i64 ((rd_T70 t642 x40_4).f0))∧w'.cell? ⟨(ad692.add ((x40_4).toNat*3)).block,(ad692.add ((x40_4).toNat*3)).off+1,none⟩=some (.int .i64 ((rd_T70 t642 x40_4).f1))∧w'.cell? ⟨(ad692.add ((x40_4).toNat*3)).block,(ad692.add ((x40_4).toNat*3)).off+2,none⟩=some (.int .i64 ((rd_T70 t642 x40_4).f2))∧w'.cell? (ad693.add ((((rd_T70 t642 x40_4).f0)).toNat*3))=some (.int .i64 ((rd_T63 t637 ((rd_T70 t642 x40_4).f0)).f0))∧w'.cell? ⟨(ad693.add ((((rd_T70 t642 x40_4).f0)).toNat*3)).block,(ad693.add ((((rd_T70 t642 x40_4).f0)).toNat*3)).off+1,none⟩=some (.int .i64 ((rd_T63 t637 ((rd_T70 t642 x40_4).f0)).f1))∧w'.cell? ⟨(ad693.add ((((rd_T70 t642 x40_4).f0)).toNat*3)).block,(ad693.add ((((rd_T70 t642 x40_4).f0)).toNat*3)).off+2,none⟩=some (.int .i64 ((rd_T63 t637 ((rd_T70 t642 x40_4).f0)).f2))) (ds:=[]) (lb 16 0) (by kernel_rfl) rfl rfl ⟨bc BK645 0 rfl,bc BK645 1 rfl,hx692_0,hx692_1,hx692_2,hx693_0,hx693_1,hx693_2⟩ (fun hHeld=>?_);refine with_tabW laws_FnRelays.tab31 laws_FnRelays.bits31 (fun HT_ HW_=>?_)
   generalize wr.drew=w120 at HO_4 HO_7 BK645 BK667 BK668 BK681 HB hx692_0 hx692_1 hx692_2 hx693_0 hx693_1 hx693_2 hHeld⊢
   refine pq 1 (N:=some 281) (lb 16 2) HT_ ?_
   refine pq 2 (N:=some 282) (lb 16 6) HT_ ?_
   refine pq 3 (N:=some 283) (lb 16 14) HT_ ?_
   refine pq 4 (N:=some 284) (lb 16 30) HT_ ?_
   refine pq 5 (N:=some 285) (lb 16 62) HT_ ?_
   refine pq 9 (N:=some 289) (lb 16 574) HT_ ?_
   refine take_ (i:=0) (N:=some 280) (v:=?_) (a':=?_) (lb 16 575) rfl rfl (take_ofW HT_.out HW_.out (by kernel_rfl)) (fun _ _ _ h=>h) (Or.inl ⟨by rfl,?_⟩) hHeld ?_ ?_
   rotate_left
   ·rintro w' ⟨s0,s1,s2,s3,s4,s5,s6,s7⟩
    go_simp
    with_reducible rfl
   rotate_left
   ·simp only[ap]
    rfl
   refine take_ (i:=6) (N:=some 286) (v:=?_) (a':=?_) (lb 16 639) rfl rfl (take_ofW HT_.out HW_.out (by kernel_rfl)) (fun _ _ _ h=>h) (Or.inl ⟨by rfl,?_⟩) hHeld ?_ ?_
   rotate_left
   ·rintro w' ⟨s0,s1,s2,s3,s4,s5,s6,s7⟩
    go_simp
    with_reducible rfl
   rotate_left
   ·simp only[ap]
    rfl
   refine pq 7 (N:=some 287) (lb 16 767) HT_ ?_
   refine take_ (i:=8) (N:=some 288) (v:=?_) (a':=?_) (lb 16 1023) rfl rfl (take_ofW HT_.out HW_.out (by kernel_rfl)) (fun _ _ _ h=>h) (Or.inl ⟨by rfl,?_⟩) hHeld ?_ ?_
   rotate_left
   ·rintro w' ⟨s0,s1,s2,s3,s4,s5,s6,s7⟩
    go_simp
    with_reducible rfl
   rotate_left
   ·simp only[ap]
    rfl
   refine one_ (i:=10) (N:=some 290) (lb 16 2047) rfl rfl (one_of HT_.out (by kernel_rfl)) (by decide) (fun K hK=>?_)
   refine goes_ Try.func50 (by kernel_rfl) rfl #[.agg #[.int .i64 t635,.bool t636],.agg #[.int .i64 ((rd_T63 t637 ((rd_T70 t642 x40_4).f0)).f0),.int .i64 ((rd_T63 t637 ((rd_T70 t642 x40_4).f0)).f1),.int .i64 ((rd_T63 t637 ((rd_T70 t642 x40_4).f0)).f2)],.int .i64 x39_4] (by rfl) rfl rfl gl ?_
   with_reducible refine(impl_LegEnd.calls k4 t635 t636 ((rd_T63 t637 ((rd_T70 t642 x40_4).f0)).f0) ((rd_T63 t637 ((rd_T70 t642 x40_4).f0)).f1) ((rd_T63 t637 ((rd_T70 t642 x40_4).f0)).f2) x39_4 t694 false _ A107.out).mono ?_
   rintro e w121 ⟨rfl,hb⟩
   have HS2_:=(hb.cell (World.block_lt_of_cell? _ _ (hHeld.2.2.1))).trans (hHeld.2.2.1)
   have HS3_:=(hb.cell (World.block_lt_of_cell? _ _ (hHeld.2.2.2.1))).trans (hHeld.2.2.2.1)
   have HS4_:=(hb.cell (World.block_lt_of_cell? _ _ (hHeld.2.2.2.2.1))).trans (hHeld.2.2.2.2.1)
   have HS5_:=(hb.cell (World.block_lt_of_cell? _ _ (hHeld.2.2.2.2.2.1))).trans (hHeld.2.2.2.2.2.1)
   have HS6_:=(hb.cell (World.block_lt_of_cell? _ _ (hHeld.2.2.2.2.2.2.1))).trans (hHeld.2.2.2.2.2.2.1)
   have HS7_:=(hb.cell (World.block_lt_of_cell? _ _ (hHeld.2.2.2.2.2.2.2))).trans (hHeld.2.2.2.2.2.2.2)
   refine⟨_,rfl,?_⟩
   replace HO_4:=rb HO_4 hb
   replace HO_7:=rb HO_7 hb
   replace BK645:=kb BK645 hb
   replace BK667:=kb BK667 hb
   replace BK668:=kb BK668 hb
   replace BK681:=kb BK681 hb
   replace HB:=ak (below_step (by repeat(first|(with_reducible first|exact HB.out|apply below_alloc|apply pw_below_drewN|apply below_drew1|refine below_set ?_ GE645.out|refine below_set ?_ GE667.out|refine below_set ?_ GE668.out|refine below_set ?_ GE681.out)|exact HB.out)) hb)
   (try clear hb)
   (try clear hb2)
   (try clear hk)
   (try clear hi)
   refine hK.out _ _ ⟨bc BK645 0 rfl,bc BK645 1 rfl,HS2_,HS3_,HS4_,HS5_,HS6_,HS7_⟩ (fun hHeld=>?_)
   clear hK K
   refine norm_ (a':=?_) ?_ ?_
   rotate_left
   ·show Act.put _ (some 290) _=_
    simp only[ap]
    rfl
   refine pq 11 (N:=some 279) (lb 16 4095) HT_ ?_
   refine pq 12 (N:=some 291) (lb 16 8191) HT_ ?_
   refine pq 13 (N:=some 292) (lb 16 16383) HT_ ?_
   refine pq 14 (N:=some 41) (lb 16 32767) HT_ ?_
   refine pq 15 (N:=some 42) (lb 16 65535) HT_ ?_
   refine done_ (done_of HT_.out (by kernel_rfl)) ?_
   try go_wp2
   go_ret
   exact⟨fe,by repeat(first|(with_reducible first|exact HB.out|apply below_alloc|apply pw_below_drewN|apply below_drew1|refine below_set ?_ GE645.out|refine below_set ?_ GE667.out|refine below_set ?_ GE668.out|refine below_set ?_ GE681.out)|exact HB.out)⟩
 subst c108
 rw[if_pos rfl]at H
 by_cases c109: ((rd_T70 t642 x40_4).f1)=x39_4
 rotate_left
 ·rw[if_neg c109]at H
  have c109b0: (((rd_T70 t642 x40_4).f1)==x39_4)=false:=beq_eq_false_iff_ne.mpr c109
  have c109b1: (((rd_T70 t642 x40_4).f1) !=x39_4)=true:=bne_iff_ne.mpr c109
  as_aux_lemma=>
   obtain rfl:=Option.some.inj H
   try go_wp2
   replace HO_4:=ak (R_drew HO_4.out)
   replace HO_7:=ak (R_drew HO_7.out)
   replace BK645:=ak (blk_drew BK645.out)
   replace BK667:=ak (blk_drew BK667.out)
   replace BK668:=ak (blk_drew BK668.out)
   replace BK681:=ak (blk_drew BK681.out)
   replace HB:=ak (below_drew1 HB.out)
   have p692:0≤(x40_4:Int):=od
   have q692:x40_4<(t642.length:Int):=od
   obtain⟨ad692,e692,hx692_0,hx692_1,hx692_2⟩:=at_T70 (R_reads' HO_7.out).2.2 x40_4 p692 q692
   cases e692
   replace p692:=eq_true p692
   replace q692:=eq_true q692
   have p693:0≤(((rd_T70 t642 x40_4).f0):Int):=od
   have q693: ((rd_T70 t642 x40_4).f0)<(t637.length:Int):=od
   obtain⟨ad693,e693,hx693_0,hx693_1,hx693_2⟩:=at_T63 (R_reads' HO_4.out).2.2 ((rd_T70 t642 x40_4).f0) p693 q693
   cases e693
   replace p693:=eq_true p693
   replace q693:=eq_true q693
   refine start_ (n:=16) (S:=fun w'=>w'.cell? ⟨gb645,0,none⟩=some (.int .i64 t635)∧w'.cell? ⟨gb645,1,none⟩=some (.bool t636)∧w'.cell? (ad692.add ((x40_4).toNat*3))=some (.int .i64 ((rd_T70 t642 x40_4).f0))∧w'.cell? ⟨(ad692.add ((x40_4).toNat*3)).block,(ad692.add ((x40_4).toNat*3)).off+1,none⟩=some (.int .i64 ((rd_T70 t642 x40_4).f1))∧w'.cell? ⟨(ad692.add ((x40_4).toNat*3)).block,(ad692.add ((x40_4).toNat*3)).off+2,none⟩=some (.int .i64 ((rd_T70 t642 x40_4).f2))∧w'.cell? (ad693.add ((((rd_T70 t642 x40_4).f0)).toNat*3))=some (.int .i64 ((rd_T63 t637 ((rd_T70 t642 x40_4).f0)).f0))∧w'.cell? ⟨(ad693.add ((((rd_T70 t642 x40_4).f0)).toNat*3)).block,(ad693.add ((((rd_T70 t642 x40_4).f0)).toNat*3)).off+1,none⟩=some (.int .i64 ((rd_T63 t637 ((rd_T70 t642 x40_4).f0)).f1))∧w'.cell? ⟨(ad693.add ((((rd_T70 t642 x40_4).f0)).toNat*3)).block,(ad693.add ((((rd_T70 t642 x40_4).f0)).toNat*3)).off+2,none⟩=some (.int .i64 ((rd_T63 t637 ((rd_T70 t642 x40_4).f0)).f2))) (ds:=[]) (lb 16 0) (by kernel_rfl) rfl rfl ⟨bc BK645 0 rfl,bc BK645 1 rfl,hx692_0,hx692_1,hx692_2,hx693_0,hx693_1,hx693_2⟩ (fun hHeld=>?_);refine with_tabW laws_FnRelays.tab31 laws_FnRelays.bits31 (fun HT_ HW_=>?_)
   generalize wr.drew=w118 at HO_4 HO_7 BK645 BK667 BK668 BK681 HB hx692_0 hx692_1 hx692_2 hx693_0 hx693_1 hx693_2 hHeld⊢
   refine pq 1 (N:=some 281) (lb 16 2) HT_ ?_
   refine pq 2 (N:=some 282) (lb 16 6) HT_ ?_
   refine pq 3 (N:=some 283) (lb 16 14) HT_ ?_
   refine pq 4 (N:=some 284) (lb 16 30) HT_ ?_
   refine pq 5 (N:=some 285) (lb 16 62) HT_ ?_
   refine pq 9 (N:=some 289) (lb 16 574) HT_ ?_
   refine take_ (i:=0) (N:=some 280) (v:=?_) (a':=?_) (lb 16 575) rfl rfl (take_ofW HT_.out HW_.out (by kernel_rfl)) (fun _ _ _ h=>h) (Or.inl ⟨by rfl,?_⟩) hHeld ?_ ?_
   rotate_left
   ·rintro w' ⟨s0,s1,s2,s3,s4,s5,s6,s7⟩
    go_simp
    with_reducible rfl
   rotate_left
   ·simp only[ap]
    rfl
   refine take_ (i:=6) (N:=some 286) (v:=?_) (a':=?_) (lb 16 639) rfl rfl (take_ofW HT_.out HW_.out (by kernel_rfl)) (fun _ _ _ h=>h) (Or.inl ⟨by rfl,?_⟩) hHeld ?_ ?_
   rotate_left
   ·rintro w' ⟨s0,s1,s2,s3,s4,s5,s6,s7⟩
    go_simp
    with_reducible rfl
   rotate_left
   ·simp only[ap]
    rfl
   refine pq 7 (N:=some 287) (lb 16 767) HT_ ?_
   refine take_ (i:=8) (N:=some 288) (v:=?_) (a':=?_) (lb 16 1023) rfl rfl (take_ofW HT_.out HW_.out (by kernel_rfl)) (fun _ _ _ h=>h) (Or.inl ⟨by rfl,?_⟩) hHeld ?_ ?_
   rotate_left
   ·rintro w' ⟨s0,s1,s2,s3,s4,s5,s6,s7⟩
    go_simp
    with_reducible rfl
   rotate_left
   ·simp only[ap]
    rfl
   refine one_ (i:=10) (N:=some 290) (lb 16 2047) rfl rfl (one_of HT_.out (by kernel_rfl)) (by decide) (fun K hK=>?_)
   refine goes_ Try.func50 (by kernel_rfl) rfl #[.agg #[.int .i64 t635,.bool t636],.agg #[.int .i64 ((rd_T63 t637 ((rd_T70 t642 x40_4).f0)).f0),.int .i64 ((rd_T63 t637 ((rd_T70 t642 x40_4).f0)).f1),.int .i64 ((rd_T63 t637 ((rd_T70 t642 x40_4).f0)).f2)],.int .i64 x39_4] (by rfl) rfl rfl gl ?_
   with_reducible refine(impl_LegEnd.calls k4 t635 t636 ((rd_T63 t637 ((rd_T70 t642 x40_4).f0)).f0) ((rd_T63 t637 ((rd_T70 t642 x40_4).f0)).f1) ((rd_T63 t637 ((rd_T70 t642 x40_4).f0)).f2) x39_4 t694 true _ A107.out).mono ?_
   rintro e w119 ⟨rfl,hb⟩
   have HS2_:=(hb.cell (World.block_lt_of_cell? _ _ (hHeld.2.2.1))).trans (hHeld.2.2.1)
   have HS3_:=(hb.cell (World.block_lt_of_cell? _ _ (hHeld.2.2.2.1))).trans (hHeld.2.2.2.1)
   have HS4_:=(hb.cell (World.block_lt_of_cell? _ _ (hHeld.2.2.2.2.1))).trans (hHeld.2.2.2.2.1)
   have HS5_:=(hb.cell (World.block_lt_of_cell? _ _ (hHeld.2.2.2.2.2.1))).trans (hHeld.2.2.2.2.2.1)
   have HS6_:=(hb.cell (World.block_lt_of_cell? _ _ (hHeld.2.2.2.2.2.2.1))).trans (hHeld.2.2.2.2.2.2.1)
   have HS7_:=(hb.cell (World.block_lt_of_cell? _ _ (hHeld.2.2.2.2.2.2.2))).trans (hHeld.2.2.2.2.2.2.2)
   refine⟨_,rfl,?_⟩
   replace HO_4:=rb HO_4 hb
   replace HO_7:=rb HO_7 hb
   replace BK645:=kb BK645 hb
   replace BK667:=kb BK667 hb
   replace BK668:=kb BK668 hb
   replace BK681:=kb BK681 hb
   replace HB:=ak (below_step (by repeat(first|(with_reducible first|exact HB.out|apply below_alloc|apply pw_below_drewN|apply below_drew1|refine below_set ?_ GE645.out|refine below_set ?_ GE667.out|refine below_set ?_ GE668.out|refine below_set ?_ GE681.out)|exact HB.out)) hb)
   (try clear hb)
   (try clear hb2)
   (try clear hk)
   (try clear hi)
   refine hK.out _ _ ⟨bc BK645 0 rfl,bc BK645 1 rfl,HS2_,HS3_,HS4_,HS5_,HS6_,HS7_⟩ (fun hHeld=>?_)
   clear hK K
   refine norm_ (a':=?_) ?_ ?_
   rotate_left
   ·show Act.put _ (some 290) _=_
    simp only[ap]
    rfl
   refine pq 11 (N:=some 279) (lb 16 4095) HT_ ?_
   refine pq 12 (N:=some 291) (lb 16 8191) HT_ ?_
   refine pq 13 (N:=some 292) (lb 16 16383) HT_ ?_
   refine pq 14 (N:=some 41) (lb 16 32767) HT_ ?_
   refine pq 15 (N:=some 42) (lb 16 65535) HT_ ?_
   refine done_ (done_of HT_.out (by kernel_rfl)) ?_
   have p696:0≤(x40_4:Int):=od
   have q696:x40_4<(t642.length:Int):=od
   obtain⟨ad696,e696,hx696_0,hx696_1,hx696_2⟩:=at_T70 (R_reads' HO_7.out).2.2 x40_4 p696 q696
   obtain rfl:ad692=ad696:=(by injection e696)
   replace p696:=eq_true p696
   replace q696:=eq_true q696
   try go_wp2
   go_ret
   exact⟨fe,by repeat(first|(with_reducible first|exact HB.out|apply below_alloc|apply pw_below_drewN|apply below_drew1|refine below_set ?_ GE645.out|refine below_set ?_ GE667.out|refine below_set ?_ GE668.out|refine below_set ?_ GE681.out)|exact HB.out)⟩
 rw[if_pos c109]at H
 have c109b0: (((rd_T70 t642 x40_4).f1)==x39_4)=true:=beq_iff_eq.mpr c109
 have c109b1: (((rd_T70 t642 x40_4).f1) !=x39_4)=false:=bne_eq_false_iff_eq.mpr c109
 clear c109
 by_cases c110: ((rd_T70 t642 x40_4).f2)≤x39_4
 ·rw[if_pos c110]at H
  have c110b0:decide (((rd_T70 t642 x40_4).f2)≤x39_4)=true:=decide_eq_true c110
  clear c110
  as_aux_lemma=>
   obtain rfl:=Option.some.inj H
   try go_wp2
   replace HO_4:=ak (R_drew HO_4.out)
   replace HO_7:=ak (R_drew HO_7.out)
   replace BK645:=ak (blk_drew BK645.out)
   replace BK667:=ak (blk_drew BK667.out)
   replace BK668:=ak (blk_drew BK668.out)
   replace BK681:=ak (blk_drew BK681.out)
   replace HB:=ak (below_drew1 HB.out)
   have p692:0≤(x40_4:Int):=od
   have q692:x40_4<(t642.length:Int):=od
   obtain⟨ad692,e692,hx692_0,hx692_1,hx692_2⟩:=at_T70 (R_reads' HO_7.out).2.2 x40_4 p692 q692
   cases e692
   replace p692:=eq_true p692
   replace q692:=eq_true q692
   have p693:0≤(((rd_T70 t642 x40_4).f0):Int):=od
   have q693: ((rd_T70 t642 x40_4).f0)<(t637.length:Int):=od
   obtain⟨ad693,e693,hx693_0,hx693_1,hx693_2⟩:=at_T63 (R_reads' HO_4.out).2.2 ((rd_T70 t642 x40_4).f0) p693 q693
   cases e693
   replace p693:=eq_true p693
   replace q693:=eq_true q693
   refine start_ (n:=16) (S:=fun w'=>w'.cell? ⟨gb645,0,none⟩=some (.int .i64 t635)∧w'.cell? ⟨gb645,1,none⟩=some (.bool t636)∧w'.cell? (ad692.add ((x40_4).toNat*3))=some (.int .i64 ((rd_T70 t642 x40_4).f0))∧w'.cell? ⟨(ad692.add ((x40_4).toNat*3)).block,(ad692.add ((x40_4).toNat*3)).off+1,none⟩=some (.int .i64 ((rd_T70 t642 x40_4).f1))∧w'.cell? ⟨(ad692.add ((x40_4).toNat*3)).block,(ad692.add ((x40_4).toNat*3)).off+2,none⟩=some (.int .i64 ((rd_T70 t642 x40_4).f2))∧w'.cell? (ad693.add ((((rd_T70 t642 x40_4).f0)).toNat*3))=some (.int .i64 ((rd_T63 t637 ((rd_T70 t642 x40_4).f0)).f0))∧w'.cell? ⟨(ad693.add ((((rd_T70 t642 x40_4).f0)).toNat*3)).block,(ad693.add ((((rd_T70 t642 x40_4).f0)).toNat*3)).off+1,none⟩=some (.int .i64 ((rd_T63 t637 ((rd_T70 t642 x40_4).f0)).f1))∧w'.cell? ⟨(ad693.add ((((rd_T70 t642 x40_4).f0)).toNat*3)).block,(ad693.add ((((rd_T70 t642 x40_4).f0)).toNat*3)).off+2,none⟩=some (.int .i64 ((rd_T63 t637 ((rd_T70 t642 x40_4).f0)).f2))) (ds:=[]) (lb 16 0) (by kernel_rfl) rfl rfl ⟨bc BK645 0 rfl,bc BK645 1 rfl,hx692_0,hx692_1,hx692_2,hx693_0,hx693_1,hx693_2⟩ (fun hHeld=>?_);refine with_tabW laws_FnRelays.tab31 laws_FnRelays.bits31 (fun HT_ HW_=>?_)
   generalize wr.drew=w111 at HO_4 HO_7 BK645 BK667 BK668 BK681 HB hx692_0 hx692_1 hx692_2 hx693_0 hx693_1 hx693_2 hHeld⊢
   refine pq 1 (N:=some 281) (lb 16 2) HT_ ?_
   refine pq 2 (N:=some 282) (lb 16 6) HT_ ?_
   refine pq 3 (N:=some 283) (lb 16 14) HT_ ?_
   refine pq 4 (N:=some 284) (lb 16 30) HT_ ?_
   refine pq 5 (N:=some 285) (lb 16 62) HT_ ?_
   refine pq 9 (N:=some 289) (lb 16 574) HT_ ?_
   refine take_ (i:=0) (N:=some 280) (v:=?_) (a':=?_) (lb 16 575) rfl rfl (take_ofW HT_.out HW_.out (by kernel_rfl)) (fun _ _ _ h=>h) (Or.inl ⟨by rfl,?_⟩) hHeld ?_ ?_
   rotate_left
   ·rintro w' ⟨s0,s1,s2,s3,s4,s5,s6,s7⟩
    go_simp
    with_reducible rfl
   rotate_left
   ·simp only[ap]
    rfl
   refine take_ (i:=6) (N:=some 286) (v:=?_) (a':=?_) (lb 16 639) rfl rfl (take_ofW HT_.out HW_.out (by kernel_rfl)) (fun _ _ _ h=>h) (Or.inl ⟨by rfl,?_⟩) hHeld ?_ ?_
   rotate_left
   ·rintro w' ⟨s0,s1,s2,s3,s4,s5,s6,s7⟩
    go_simp
    with_reducible rfl
   rotate_left
   ·simp only[ap]
    rfl
   refine pq 7 (N:=some 287) (lb 16 767) HT_ ?_
   refine take_ (i:=8) (N:=some 288) (v:=?_) (a':=?_) (lb 16 1023) rfl rfl (take_ofW HT_.out HW_.out (by kernel_rfl)) (fun _ _ _ h=>h) (Or.inl ⟨by rfl,?_⟩) hHeld ?_ ?_
   rotate_left
   ·rintro w' ⟨s0,s1,s2,s3,s4,s5,s6,s7⟩
    go_simp
    with_reducible rfl
   rotate_left
   ·simp only[ap]
    rfl
   refine one_ (i:=10) (N:=some 290) (lb 16 2047) rfl rfl (one_of HT_.out (by kernel_rfl)) (by decide) (fun K hK=>?_)
   refine goes_ Try.func50 (by kernel_rfl) rfl #[.agg #[.int .i64 t635,.bool t636],.agg #[.int .i64 ((rd_T63 t637 ((rd_T70 t642 x40_4).f0)).f0),.int .i64 ((rd_T63 t637 ((rd_T70 t642 x40_4).f0)).f1),.int .i64 ((rd_T63 t637 ((rd_T70 t642 x40_4).f0)).f2)],.int .i64 x39_4] (by rfl) rfl rfl gl ?_
   with_reducible refine(impl_LegEnd.calls k4 t635 t636 ((rd_T63 t637 ((rd_T70 t642 x40_4).f0)).f0) ((rd_T63 t637 ((rd_T70 t642 x40_4).f0)).f1) ((rd_T63 t637 ((rd_T70 t642 x40_4).f0)).f2) x39_4 t694 true _ A107.out).mono ?_
   rintro e w112 ⟨rfl,hb⟩
   have HS2_:=(hb.cell (World.block_lt_of_cell? _ _ (hHeld.2.2.1))).trans (hHeld.2.2.1)
   have HS3_:=(hb.cell (World.block_lt_of_cell? _ _ (hHeld.2.2.2.1))).trans (hHeld.2.2.2.1)
   have HS4_:=(hb.cell (World.block_lt_of_cell? _ _ (hHeld.2.2.2.2.1))).trans (hHeld.2.2.2.2.1)
   have HS5_:=(hb.cell (World.block_lt_of_cell? _ _ (hHeld.2.2.2.2.2.1))).trans (hHeld.2.2.2.2.2.1)
   have HS6_:=(hb.cell (World.block_lt_of_cell? _ _ (hHeld.2.2.2.2.2.2.1))).trans (hHeld.2.2.2.2.2.2.1)
   have HS7_:=(hb.cell (World.block_lt_of_cell? _ _ (hHeld.2.2.2.2.2.2.2))).trans (hHeld.2.2.2.2.2.2.2)
   refine⟨_,rfl,?_⟩
   replace HO_4:=rb HO_4 hb
   replace HO_7:=rb HO_7 hb
   replace BK645:=kb BK645 hb
   replace BK667:=kb BK667 hb
   replace BK668:=kb BK668 hb
   replace BK681:=kb BK681 hb
   replace HB:=ak (below_step (by repeat(first|(with_reducible first|exact HB.out|apply below_alloc|apply pw_below_drewN|apply below_drew1|refine below_set ?_ GE645.out|refine below_set ?_ GE667.out|refine below_set ?_ GE668.out|refine below_set ?_ GE681.out)|exact HB.out)) hb)
   (try clear hb)
   (try clear hb2)
   (try clear hk)
   (try clear hi)
   refine hK.out _ _ ⟨bc BK645 0 rfl,bc BK645 1 rfl,HS2_,HS3_,HS4_,HS5_,HS6_,HS7_⟩ (fun hHeld=>?_)
   clear hK K
   refine norm_ (a':=?_) ?_ ?_
   rotate_left
   ·show Act.put _ (some 290) _=_
    simp only[ap]
    rfl
   refine pq 11 (N:=some 279) (lb 16 4095) HT_ ?_
   refine pq 12 (N:=some 291) (lb 16 8191) HT_ ?_
   refine pq 13 (N:=some 292) (lb 16 16383) HT_ ?_
   refine pq 14 (N:=some 41) (lb 16 32767) HT_ ?_
   refine pq 15 (N:=some 42) (lb 16 65535) HT_ ?_
   refine done_ (done_of HT_.out (by kernel_rfl)) ?_
   have p696:0≤(x40_4:Int):=od
   have q696:x40_4<(t642.length:Int):=od
   obtain⟨ad696,e696,hx696_0,hx696_1,hx696_2⟩:=at_T70 (R_reads' HO_7.out).2.2 x40_4 p696 q696
   obtain rfl:ad692=ad696:=(by injection e696)
   replace p696:=eq_true p696
   replace q696:=eq_true q696
   have p697:0≤(x40_4:Int):=od
   have q697:x40_4<(t642.length:Int):=od
   obtain⟨ad697,e697,hx697_0,hx697_1,hx697_2⟩:=at_T70 (R_reads' HO_7.out).2.2 x40_4 p697 q697
   obtain rfl:ad692=ad697:=(by injection e697)
   replace p697:=eq_true p697
   replace q697:=eq_true q697
   try go_wp2
   go_ret
   exact⟨fe,by repeat(first|(with_reducible first|exact HB.out|apply below_alloc|apply pw_below_drewN|apply below_drew1|refine below_set ?_ GE645.out|refine below_set ?_ GE667.out|refine below_set ?_ GE668.out|refine below_set ?_ GE681.out)|exact HB.out)⟩
 rw[if_neg c110]at H
 have c110b0:decide (((rd_T70 t642 x40_4).f2)≤x39_4)=false:=decide_eq_false c110
 clear c110
 by_cases c113: ((rd_T70 t642 x40_4).f2)>t694
 ·rw[if_pos c113]at H
  have c113b0:decide (t694<((rd_T70 t642 x40_4).f2))=true:=decide_eq_true c113
  clear c113
  as_aux_lemma=>
   obtain rfl:=Option.some.inj H
   try go_wp2
   replace HO_4:=ak (R_drew HO_4.out)
   replace HO_7:=ak (R_drew HO_7.out)
   replace BK645:=ak (blk_drew BK645.out)
   replace BK667:=ak (blk_drew BK667.out)
   replace BK668:=ak (blk_drew BK668.out)
   replace BK681:=ak (blk_drew BK681.out)
   replace HB:=ak (below_drew1 HB.out)
   have p692:0≤(x40_4:Int):=od
   have q692:x40_4<(t642.length:Int):=od
   obtain⟨ad692,e692,hx692_0,hx692_1,hx692_2⟩:=at_T70 (R_reads' HO_7.out).2.2 x40_4 p692 q692
   cases e692
   replace p692:=eq_true p692
   replace q692:=eq_true q692
   have p693:0≤(((rd_T70 t642 x40_4).f0):Int):=od
   have q693: ((rd_T70 t642 x40_4).f0)<(t637.length:Int):=od
   obtain⟨ad693,e693,hx693_0,hx693_1,hx693_2⟩:=at_T63 (R_reads' HO_4.out).2.2 ((rd_T70 t642 x40_4).f0) p693 q693
   cases e693
   replace p693:=eq_true p693
   replace q693:=eq_true q693
   refine start_ (n:=16) (S:=fun w'=>w'.cell? ⟨gb645,0,none⟩=some (.int .i64 t635)∧w'.cell? ⟨gb645,1,none⟩=some (.bool t636)∧w'.cell? (ad692.add ((x40_4).toNat*3))=some (.int .i64 ((rd_T70 t642 x40_4).f0))∧w'.cell? ⟨(ad692.add ((x40_4).toNat*3)).block,(ad692.add ((x40_4).toNat*3)).off+1,none⟩=some (.int .i64 ((rd_T70 t642 x40_4).f1))∧w'.cell? ⟨(ad692.add ((x40_4).toNat*3)).block,(ad692.add ((x40_4).toNat*3)).off+2,none⟩=some (.int .i64 ((rd_T70 t642 x40_4).f2))∧w'.cell? (ad693.add ((((rd_T70 t642 x40_4).f0)).toNat*3))=some (.int .i64 ((rd_T63 t637 ((rd_T70 t642 x40_4).f0)).f0))∧w'.cell? ⟨(ad693.add ((((rd_T70 t642 x40_4).f0)).toNat*3)).block,(ad693.add ((((rd_T70 t642 x40_4).f0)).toNat*3)).off+1,none⟩=some (.int .i64 ((rd_T63 t637 ((rd_T70 t642 x40_4).f0)).f1))∧w'.cell? ⟨(ad693.add ((((rd_T70 t642 x40_4).f0)).toNat*3)).block,(ad693.add ((((rd_T70 t642 x40_4).f0)).toNat*3)).off+2,none⟩=some (.int .i64 ((rd_T63 t637 ((rd_T70 t642 x40_4).f0)).f2))) (ds:=[]) (lb 16 0) (by kernel_rfl) rfl rfl ⟨bc BK645 0 rfl,bc BK645 1 rfl,hx692_0,hx692_1,hx692_2,hx693_0,hx693_1,hx693_2⟩ (fun hHeld=>?_);refine with_tabW laws_FnRelays.tab31 laws_FnRelays.bits31 (fun HT_ HW_=>?_)
   generalize wr.drew=w114 at HO_4 HO_7 BK645 BK667 BK668 BK681 HB hx692_0 hx692_1 hx692_2 hx693_0 hx693_1 hx693_2 hHeld⊢
   refine pq 1 (N:=some 281) (lb 16 2) HT_ ?_
   refine pq 2 (N:=some 282) (lb 16 6) HT_ ?_
   refine pq 3 (N:=some 283) (lb 16 14) HT_ ?_
   refine pq 4 (N:=some 284) (lb 16 30) HT_ ?_
   refine pq 5 (N:=some 285) (lb 16 62) HT_ ?_
   refine pq 9 (N:=some 289) (lb 16 574) HT_ ?_
   refine take_ (i:=0) (N:=some 280) (v:=?_) (a':=?_) (lb 16 575) rfl rfl (take_ofW HT_.out HW_.out (by kernel_rfl)) (fun _ _ _ h=>h) (Or.inl ⟨by rfl,?_⟩) hHeld ?_ ?_
   rotate_left
   ·rintro w' ⟨s0,s1,s2,s3,s4,s5,s6,s7⟩
    go_simp
    with_reducible rfl
   rotate_left
   ·simp only[ap]
    rfl
   refine take_ (i:=6) (N:=some 286) (v:=?_) (a':=?_) (lb 16 639) rfl rfl (take_ofW HT_.out HW_.out (by kernel_rfl)) (fun _ _ _ h=>h) (Or.inl ⟨by rfl,?_⟩) hHeld ?_ ?_
   rotate_left
   ·rintro w' ⟨s0,s1,s2,s3,s4,s5,s6,s7⟩
    go_simp
    with_reducible rfl
   rotate_left
   ·simp only[ap]
    rfl
   refine pq 7 (N:=some 287) (lb 16 767) HT_ ?_
   refine take_ (i:=8) (N:=some 288) (v:=?_) (a':=?_) (lb 16 1023) rfl rfl (take_ofW HT_.out HW_.out (by kernel_rfl)) (fun _ _ _ h=>h) (Or.inl ⟨by rfl,?_⟩) hHeld ?_ ?_
   rotate_left
   ·rintro w' ⟨s0,s1,s2,s3,s4,s5,s6,s7⟩
    go_simp
    with_reducible rfl
   rotate_left
   ·simp only[ap]
    rfl
   refine one_ (i:=10) (N:=some 290) (lb 16 2047) rfl rfl (one_of HT_.out (by kernel_rfl)) (by decide) (fun K hK=>?_)
   refine goes_ Try.func50 (by kernel_rfl) rfl #[.agg #[.int .i64 t635,.bool t636],.agg #[.int .i64 ((rd_T63 t637 ((rd_T70 t642 x40_4).f0)).f0),.int .i64 ((rd_T63 t637 ((rd_T70 t642 x40_4).f0)).f1),.int .i64 ((rd_T63 t637 ((rd_T70 t642 x40_4).f0)).f2)],.int .i64 x39_4] (by rfl) rfl rfl gl ?_
   with_reducible refine(impl_LegEnd.calls k4 t635 t636 ((rd_T63 t637 ((rd_T70 t642 x40_4).f0)).f0) ((rd_T63 t637 ((rd_T70 t642 x40_4).f0)).f1) ((rd_T63 t637 ((rd_T70 t642 x40_4).f0)).f2) x39_4 t694 true _ A107.out).mono ?_
   rintro e w115 ⟨rfl,hb⟩
   have HS2_:=(hb.cell (World.block_lt_of_cell? _ _ (hHeld.2.2.1))).trans (hHeld.2.2.1)
   have HS3_:=(hb.cell (World.block_lt_of_cell? _ _ (hHeld.2.2.2.1))).trans (hHeld.2.2.2.1)
   have HS4_:=(hb.cell (World.block_lt_of_cell? _ _ (hHeld.2.2.2.2.1))).trans (hHeld.2.2.2.2.1)
   have HS5_:=(hb.cell (World.block_lt_of_cell? _ _ (hHeld.2.2.2.2.2.1))).trans (hHeld.2.2.2.2.2.1)
   have HS6_:=(hb.cell (World.block_lt_of_cell? _ _ (hHeld.2.2.2.2.2.2.1))).trans (hHeld.2.2.2.2.2.2.1)
   have HS7_:=(hb.cell (World.block_lt_of_cell? _ _ (hHeld.2.2.2.2.2.2.2))).trans (hHeld.2.2.2.2.2.2.2)
   refine⟨_,rfl,?_⟩
   replace HO_4:=rb HO_4 hb
   replace HO_7:=rb HO_7 hb
   replace BK645:=kb BK645 hb
   replace BK667:=kb BK667 hb
   replace BK668:=kb BK668 hb
   replace BK681:=kb BK681 hb
   replace HB:=ak (below_step (by repeat(first|(with_reducible first|exact HB.out|apply below_alloc|apply pw_below_drewN|apply below_drew1|refine below_set ?_ GE645.out|refine below_set ?_ GE667.out|refine below_set ?_ GE668.out|refine below_set ?_ GE681.out)|exact HB.out)) hb)
   (try clear hb)
   (try clear hb2)
   (try clear hk)
   (try clear hi)
   refine hK.out _ _ ⟨bc BK645 0 rfl,bc BK645 1 rfl,HS2_,HS3_,HS4_,HS5_,HS6_,HS7_⟩ (fun hHeld=>?_)
   clear hK K
   refine norm_ (a':=?_) ?_ ?_
   rotate_left
   ·show Act.put _ (some 290) _=_
    simp only[ap]
    rfl
   refine pq 11 (N:=some 279) (lb 16 4095) HT_ ?_
   refine pq 12 (N:=some 291) (lb 16 8191) HT_ ?_
   refine pq 13 (N:=some 292) (lb 16 16383) HT_ ?_
   refine pq 14 (N:=some 41) (lb 16 32767) HT_ ?_
   refine pq 15 (N:=some 42) (lb 16 65535) HT_ ?_
   refine done_ (done_of HT_.out (by kernel_rfl)) ?_
   have p696:0≤(x40_4:Int):=od
   have q696:x40_4<(t642.length:Int):=od
   obtain⟨ad696,e696,hx696_0,hx696_1,hx696_2⟩:=at_T70 (R_reads' HO_7.out).2.2 x40_4 p696 q696
   obtain rfl:ad692=ad696:=(by injection e696)
   replace p696:=eq_true p696
   replace q696:=eq_true q696
   have p697:0≤(x40_4:Int):=od
   have q697:x40_4<(t642.length:Int):=od
   obtain⟨ad697,e697,hx697_0,hx697_1,hx697_2⟩:=at_T70 (R_reads' HO_7.out).2.2 x40_4 p697 q697
   obtain rfl:ad692=ad697:=(by injection e697)
   replace p697:=eq_true p697
   replace q697:=eq_true q697
   have p698:0≤(x40_4:Int):=od
   have q698:x40_4<(t642.length:Int):=od
   obtain⟨ad698,e698,hx698_0,hx698_1,hx698_2⟩:=at_T70 (R_reads' HO_7.out).2.2 x40_4 p698 q698
   obtain rfl:ad692=ad698:=(by injection e698)
   replace p698:=eq_true p698
   replace q698:=eq_true q698
   try go_wp2
   go_ret
   exact⟨fe,by repeat(first|(with_reducible first|exact HB.out|apply below_alloc|apply pw_below_drewN|apply below_drew1|refine below_set ?_ GE645.out|refine below_set ?_ GE667.out|refine below_set ?_ GE668.out|refine below_set ?_ GE681.out)|exact HB.out)⟩
 rw[if_neg c113]at H
 have c113b0:decide (t694<((rd_T70 t642 x40_4).f2))=false:=decide_eq_false c113
 clear c113
 as_aux_lemma=>
  have H':=Aside0.mk H
  clear H
  try go_wp2
  replace HO_4:=ak (R_drew HO_4.out)
  replace HO_7:=ak (R_drew HO_7.out)
  replace BK645:=ak (blk_drew BK645.out)
  replace BK667:=ak (blk_drew BK667.out)
  replace BK668:=ak (blk_drew BK668.out)
  replace BK681:=ak (blk_drew BK681.out)
  replace HB:=ak (below_drew1 HB.out)
  have p692:0≤(x40_4:Int):=od
  have q692:x40_4<(t642.length:Int):=od
  obtain⟨ad692,e692,hx692_0,hx692_1,hx692_2⟩:=at_T70 (R_reads' HO_7.out).2.2 x40_4 p692 q692
  cases e692
  replace p692:=eq_true p692
  replace q692:=eq_true q692
  have p693:0≤(((rd_T70 t642 x40_4).f0):Int):=od
  have q693: ((rd_T70 t642 x40_4).f0)<(t637.length:Int):=od
  obtain⟨ad693,e693,hx693_0,hx693_1,hx693_2⟩:=at_T63 (R_reads' HO_4.out).2.2 ((rd_T70 t642 x40_4).f0) p693 q693
  cases e693
  replace p693:=eq_true p693
  replace q693:=eq_true q693
  refine start_ (n:=16) (S:=fun w'=>w'.cell? ⟨gb645,0,none⟩=some (.int .i64 t635)∧w'.cell? ⟨gb645,1,none⟩=some (.bool t636)∧w'.cell? (ad692.add ((x40_4).toNat*3))=some (.int .i64 ((rd_T70 t642 x40_4).f0))∧w'.cell? ⟨(ad692.add ((x40_4).toNat*3)).block,(ad692.add ((x40_4).toNat*3)).off+1,none⟩=some (.int .i64 ((rd_T70 t642 x40_4).f1))∧w'.cell? ⟨(ad692.add ((x40_4).toNat*3)).block,(ad692.add ((x40_4).toNat*3)).off+2,none⟩=some (.int .i64 ((rd_T70 t642 x40_4).f2))∧w'.cell? (ad693.add ((((rd_T70 t642 x40_4).f0)).toNat*3))=some (.int .i64 ((rd_T63 t637 ((rd_T70 t642 x40_4).f0)).f0))∧w'.cell? ⟨(ad693.add ((((rd_T70 t642 x40_4).f0)).toNat*3)).block,(ad693.add ((((rd_T70 t642 x40_4).f0)).toNat*3)).off+1,none⟩=some (.int .i64 ((rd_T63 t637 ((rd_T70 t642 x40_4).f0)).f1))∧w'.cell? ⟨(ad693.add ((((rd_T70 t642 x40_4).f0)).toNat*3)).block,(ad693.add ((((rd_T70 t642 x40_4).f0)).toNat*3)).off+2,none⟩=some (.int .i64 ((rd_T63 t637 ((rd_T70 t642 x40_4).f0)).f2))) (ds:=[]) (lb 16 0) (by kernel_rfl) rfl rfl ⟨bc BK645 0 rfl,bc BK645 1 rfl,hx692_0,hx692_1,hx692_2,hx693_0,hx693_1,hx693_2⟩ (fun hHeld=>?_);refine with_tabW laws_FnRelays.tab31 laws_FnRelays.bits31 (fun HT_ HW_=>?_)
  generalize wr.drew=w116 at HO_4 HO_7 BK645 BK667 BK668 BK681 HB hx692_0 hx692_1 hx692_2 hx693_0 hx693_1 hx693_2 hHeld⊢
  refine pq 1 (N:=some 281) (lb 16 2) HT_ ?_
  refine pq 2 (N:=some 282) (lb 16 6) HT_ ?_
  refine pq 3 (N:=some 283) (lb 16 14) HT_ ?_
  refine pq 4 (N:=some 284) (lb 16 30) HT_ ?_
  refine pq 5 (N:=some 285) (lb 16 62) HT_ ?_
  refine pq 9 (N:=some 289) (lb 16 574) HT_ ?_
  refine take_ (i:=0) (N:=some 280) (v:=?_) (a':=?_) (lb 16 575) rfl rfl (take_ofW HT_.out HW_.out (by kernel_rfl)) (fun _ _ _ h=>h) (Or.inl ⟨by rfl,?_⟩) hHeld ?_ ?_
  rotate_left
  ·rintro w' ⟨s0,s1,s2,s3,s4,s5,s6,s7⟩
   go_simp
   with_reducible rfl
  rotate_left
  ·simp only[ap]
   rfl
  refine take_ (i:=6) (N:=some 286) (v:=?_) (a':=?_) (lb 16 639) rfl rfl (take_ofW HT_.out HW_.out (by kernel_rfl)) (fun _ _ _ h=>h) (Or.inl ⟨by rfl,?_⟩) hHeld ?_ ?_
  rotate_left
  ·rintro w' ⟨s0,s1,s2,s3,s4,s5,s6,s7⟩
   go_simp
   with_reducible rfl
  rotate_left
  ·simp only[ap]
   rfl
  refine pq 7 (N:=some 287) (lb 16 767) HT_ ?_
  refine take_ (i:=8) (N:=some 288) (v:=?_) (a':=?_) (lb 16 1023) rfl rfl (take_ofW HT_.out HW_.out (by kernel_rfl)) (fun _ _ _ h=>h) (Or.inl ⟨by rfl,?_⟩) hHeld ?_ ?_
  rotate_left
  ·rintro w' ⟨s0,s1,s2,s3,s4,s5,s6,s7⟩
   go_simp
   with_reducible rfl
  rotate_left
  ·simp only[ap]
   rfl
  refine one_ (i:=10) (N:=some 290) (lb 16 2047) rfl rfl (one_of HT_.out (by kernel_rfl)) (by decide) (fun K hK=>?_)
  refine goes_ Try.func50 (by kernel_rfl) rfl #[.agg #[.int .i64 t635,.bool t636],.agg #[.int .i64 ((rd_T63 t637 ((rd_T70 t642 x40_4).f0)).f0),.int .i64 ((rd_T63 t637 ((rd_T70 t642 x40_4).f0)).f1),.int .i64 ((rd_T63 t637 ((rd_T70 t642 x40_4).f0)).f2)],.int .i64 x39_4] (by rfl) rfl rfl gl ?_
  with_reducible refine(impl_LegEnd.calls k4 t635 t636 ((rd_T63 t637 ((rd_T70 t642 x40_4).f0)).f0) ((rd_T63 t637 ((rd_T70 t642 x40_4).f0)).f1) ((rd_T63 t637 ((rd_T70 t642 x40_4).f0)).f2) x39_4 t694 true _ A107.out).mono ?_
  rintro e w117 ⟨rfl,hb⟩
  have HS2_:=(hb.cell (World.block_lt_of_cell? _ _ (hHeld.2.2.1))).trans (hHeld.2.2.1)
  have HS3_:=(hb.cell (World.block_lt_of_cell? _ _ (hHeld.2.2.2.1))).trans (hHeld.2.2.2.1)
  have HS4_:=(hb.cell (World.block_lt_of_cell? _ _ (hHeld.2.2.2.2.1))).trans (hHeld.2.2.2.2.1)
  have HS5_:=(hb.cell (World.block_lt_of_cell? _ _ (hHeld.2.2.2.2.2.1))).trans (hHeld.2.2.2.2.2.1)
  have HS6_:=(hb.cell (World.block_lt_of_cell? _ _ (hHeld.2.2.2.2.2.2.1))).trans (hHeld.2.2.2.2.2.2.1)
  have HS7_:=(hb.cell (World.block_lt_of_cell? _ _ (hHeld.2.2.2.2.2.2.2))).trans (hHeld.2.2.2.2.2.2.2)
  refine⟨_,rfl,?_⟩
  replace HO_4:=rb HO_4 hb
  replace HO_7:=rb HO_7 hb
  replace BK645:=kb BK645 hb
  replace BK667:=kb BK667 hb
  replace BK668:=kb BK668 hb
  replace BK681:=kb BK681 hb
  replace HB:=ak (below_step (by repeat(first|(with_reducible first|exact HB.out|apply below_alloc|apply pw_below_drewN|apply below_drew1|refine below_set ?_ GE645.out|refine below_set ?_ GE667.out|refine below_set ?_ GE668.out|refine below_set ?_ GE681.out)|exact HB.out)) hb)
  (try clear hb)
  (try clear hb2)
  (try clear hk)
  (try clear hi)
  refine hK.out _ _ ⟨bc BK645 0 rfl,bc BK645 1 rfl,HS2_,HS3_,HS4_,HS5_,HS6_,HS7_⟩ (fun hHeld=>?_)
  clear hK K
  refine norm_ (a':=?_) ?_ ?_
  rotate_left
  ·show Act.put _ (some 290) _=_
   simp only[ap]
   rfl
  refine pq 11 (N:=some 279) (lb 16 4095) HT_ ?_
  refine pq 12 (N:=some 291) (lb 16 8191) HT_ ?_
  refine pq 13 (N:=some 292) (lb 16 16383) HT_ ?_
  refine pq 14 (N:=some 41) (lb 16 32767) HT_ ?_
  refine pq 15 (N:=some 42) (lb 16 65535) HT_ ?_
  refine done_ (done_of HT_.out (by kernel_rfl)) ?_
  have p696:0≤(x40_4:Int):=od
  have q696:x40_4<(t642.length:Int):=od
  obtain⟨ad696,e696,hx696_0,hx696_1,hx696_2⟩:=at_T70 (R_reads' HO_7.out).2.2 x40_4 p696 q696
  obtain rfl:ad692=ad696:=(by injection e696)
  replace p696:=eq_true p696
  replace q696:=eq_true q696
  have p697:0≤(x40_4:Int):=od
  have q697:x40_4<(t642.length:Int):=od
  obtain⟨ad697,e697,hx697_0,hx697_1,hx697_2⟩:=at_T70 (R_reads' HO_7.out).2.2 x40_4 p697 q697
  obtain rfl:ad692=ad697:=(by injection e697)
  replace p697:=eq_true p697
  replace q697:=eq_true q697
  have p698:0≤(x40_4:Int):=od
  have q698:x40_4<(t642.length:Int):=od
  obtain⟨ad698,e698,hx698_0,hx698_1,hx698_2⟩:=at_T70 (R_reads' HO_7.out).2.2 x40_4 p698 q698
  obtain rfl:ad692=ad698:=(by injection e698)
  replace p698:=eq_true p698
  replace q698:=eq_true q698
  have p699:0≤(x40_4:Int):=od
  have q699:x40_4<(t642.length:Int):=od
  obtain⟨ad699,e699,hx699_0,hx699_1,hx699_2⟩:=at_T70 (R_reads' HO_7.out).2.2 x40_4 p699 q699
  obtain rfl:ad692=ad699:=(by injection e699)
  replace p699:=eq_true p699
  replace q699:=eq_true q699
  try go_wp2
  go_roundg k4
  case measure=>have:=HJ18.out;have:=HJ74.out;have:=HJ86.out;have:=HK4.out;omega
  case rel=>exact⟨((rd_T70 t642 x40_4).f2),(wrap64 (x40_4+1)),fd,fd,H',⟨by have:=HJ18.out;have:=HJ74.out;have:=HJ86.out;have:=HK4.out;omega⟩,⟨rm HO_4.out⟩,⟨rm HO_7.out⟩,⟨bm BK645.out⟩,⟨bm BK667.out⟩,⟨bm BK668.out⟩,⟨bm BK681.out⟩,⟨by repeat(first|(with_reducible first|exact HB.out|apply below_alloc|apply pw_below_drewN|apply below_drew1|refine below_set ?_ GE645.out|refine below_set ?_ GE667.out|refine below_set ?_ GE668.out|refine below_set ?_ GE681.out)|exact HB.out)⟩⟩
end
end Go.Proofs.Ythagkpoinjpmfaa.QFnRelays
