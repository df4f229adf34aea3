/- Functions that the law FnReaches comes to, and their walks: no condition but those named. -/
import Derived.Test.YthagkpoinjpmfaaQFnReachesx0
import Derived.Test.YthagkpoinjpmfaaQFnReachesx4
import Derived.Test.YthagkpoinjpmfaaQFnReachesx6
namespace Go.Proofs.Ythagkpoinjpmfaa.QFnReaches
open Go.RowKit Go.Proofs.YthagkpoinjpmfaaW.PrintWords Go.Proofs.YthagkpoinjpmfaaW.PrintLast Go.Proofs.YthagkpoinjpmfaaW.PrintMore Go.Proofs.Ythagkpoinjpmfaa.Short
attribute [local go_sem] run_neq_slice_nil_any max2_int min2_int max_two min_two max_three min_three max_four min_four
set_option linter.unusedVariables false
set_option linter.unusedSimpArgs false
section
open Kd
mutual
def impl_ExtraRange.l0:Nat→List (S63)→Int→Int→Int→Int→Bool→Option (Int × Bool)
 | 0,_,_,_,_,_,_=>none
 | k+1,x1,x2,x3,x23,x259000,x259001=>if x23<49 then(impl_ExtraRange.l1 k x1 x2 x3 x23 (([]:List (S63))) x23 x1 (x1.length:Int) 0 x259000 x259001)else(some (0,false))
def impl_ExtraRange.l1:Nat→List (S63)→Int→Int→Int→List (S63)→Int→List (S63)→Int→Int→Int→Bool→Option (Int × Bool)
 | 0,_,_,_,_,_,_,_,_,_,_,_=>none
 | k+1,x1,x2,x3,x10,x11,x23,x27,x28,x29,x259000,x259001=>if x29<x28 then(if 0≤x29 then(if x29<(x27.length:Int)then(if x11.length<5864062014805 then(impl_ExtraRange.l1 k x1 x2 x3 x10 (x11++[(⟨(rd_T63 x27 x29).f0,wrap64 (((rd_T63 x27 x29).f1)+x10),(rd_T63 x27 x29).f2⟩:S63)]) x23 x27 x28 (wrap64 (x29+1)) x259000 x259001)else(none))else(none))else(none))else((reachOrder3.f k x259000 x259001 x11 x2 x3).bind fun bt271=>(if bt271.2.2=true then(some (x10,true))else(impl_ExtraRange.l0 k x1 x2 x3 (wrap64 (x23+1)) x259000 x259001)))
end
def impl_ExtraRange.f (k:Nat) (a0_0:Int) (a0_1:Bool) (l1:List (S63)) (a2:Int) (a3:Int):Option (Int × Bool):=(impl_isCarried.f k a0_0 a0_1 l1 (([a2,a3]:List Int))).bind fun t262=>(if t262=true then(impl_ExtraRange.l0 k l1 a2 a3 0 a0_0 a0_1)else(some (0,false)))
theorem impl_ExtraRange.mono_l:∀ k,(∀ y0 y1 y2 y3 y4 y5,LeO (impl_ExtraRange.l0 k y0 y1 y2 y3 y4 y5) (impl_ExtraRange.l0 (k+1) y0 y1 y2 y3 y4 y5))∧(∀ y0 y1 y2 y3 y4 y5 y6 y7 y8 y9 y10,LeO (impl_ExtraRange.l1 k y0 y1 y2 y3 y4 y5 y6 y7 y8 y9 y10) (impl_ExtraRange.l1 (k+1) y0 y1 y2 y3 y4 y5 y6 y7 y8 y9 y10))
 | 0=>by
  refine⟨?_,?_⟩<;>(intros;intro r h;simp[impl_ExtraRange.l0,impl_ExtraRange.l1]at h)
 | k+1=>by
  obtain⟨ih0,ih1⟩:=impl_ExtraRange.mono_l k
  refine⟨?_,?_⟩<;>intros<;>(first|unfold impl_ExtraRange.l0|unfold impl_ExtraRange.l1)<;>(repeat' (with_reducible first|exact ih0 ..|exact ih1 ..|exact impl_isCarried.mono ..|exact reachOrder3.mono ..|exact LeO.refl _|exact LeO.none _|refine LeO.ite ?_ ?_|refine LeO.bind ?_ (fun _=>?_)))
theorem impl_ExtraRange.mono:∀ a0 a1 a2 a3 a4 k,LeO (impl_ExtraRange.f k a0 a1 a2 a3 a4) (impl_ExtraRange.f (k+1) a0 a1 a2 a3 a4):=by
 intro a0 a1 a2 a3 a4 k
 obtain⟨ih0,ih1⟩:=impl_ExtraRange.mono_l k
 unfold impl_ExtraRange.f
 repeat' (with_reducible first|exact ih0 ..|exact ih1 ..|exact impl_isCarried.mono ..|exact reachOrder3.mono ..|exact LeO.refl _|exact LeO.none _|refine LeO.ite ?_ ?_|refine LeO.bind ?_ (fun _=>?_))
set_option maxHeartbeats 8000000 in
set_option maxRecDepth 100000 in
theorem impl_ExtraRange.calls (k:Nat) (a0_0:Int) (a0_1:Bool) (A1:Option Addr) (c1:Nat) (l1:List (S63)) (a2:Int) (a3:Int) (r1:Int) (r2:Bool) (w:World) (hr1:Kd.C k63 w A1 l1.length l1) (hc1:l1.length≤c1) (h:impl_ExtraRange.f k a0_0 a0_1 l1 a2 a3=some (r1,r2)):
  Calls Try.prog 22 #[.agg #[.int .i64 a0_0,.bool a0_1],.slice A1 l1.length c1,.int .i64 a2,.int .i64 a3] w fun e w'=>e= .returned (.tuple #[.int .i64 r1,.bool r2])∧Below w.heap.size w w':=by
 have hu28:=Try.underlying28
 have hu40:=Try.underlying40
 have hu63:=Try.underlying63
 have HR1:=Aside0.mk hr1
 have HC1:=Aside0.mk hc1
 clear hr1 hc1
 have HB:=Aside0.mk (Below.refl w.heap.size w)
 unfold impl_ExtraRange.f at h
 have H:=h
 clear h
 generalize hy259: ([a2,a3]:List Int)=y259 at H
 have Ny259:=ak hy259.symm
 clear hy259
 obtain⟨t262,A5,H⟩:=bd H;(try dsimp only at H)
 by_cases c6:t262=true
 rotate_left
 ·replace c6:=Bool.eq_false_iff.mpr c6
  subst c6
  rw[if_neg (show ¬(false=true)by decide)]at H
  simp only[Option.some.injEq,Prod.mk.injEq]at H
  obtain⟨rfl,rfl⟩:=H
  go_enter Try.func22,Try.ntmps22
  go_wp2_with (first|(refine bx 4 #[.int .i64 a0_0,.bool a0_1] 28 ?_;intro gb258 hg w32 hbox hb;have BK258:=ak hbox;have GW258:=gw HB hg;have GE258:=gw HB hg;replace HB:=bs HB hb;clear hb hbox hg;have hcz33_0:=bc BK258 0 rfl;have hcz33_1:=bc BK258 1 rfl;have hfz33_0:=bf BK258 0;have hfz33_1:=bf BK258 1)|((with_reducible refine gate_dst (N:=20) rfl ?_);refine R_lit (Kd.int .i64) _ 3 ?hg (N:=20) ?hd (xs:=([a2,a3]:List Int)) (inner:=[.int .i64 a2,.int .i64 a3]) (ok:=fun _=>True) (okp:=fun _=>True) ?hr ?hp (fun _ hk=>hk) trivial (Below.refl _ _) (Nat.le_refl _) (by simp) ?_;(case hd=>rfl);(case hg=>rfl);(case hr=>first|(go_simp;done)|(go_simp;rfl));(case hp=>exact(Reps.one (show Kd.M (Kd.int .i64) _ _ _ a2 [.int .i64 a2]from rfl) (Reps.one (show Kd.M (Kd.int .i64) _ _ _ a3 [.int .i64 a3]from rfl) (Reps.none _ _))));intro v260 w34 ho35 hb hg_ hnew_;clear hg_ hnew_;(first|rw[←Ny259.out]at ho35|(simp only[Int.reduceToNat]at ho35;rw[←Ny259.out]at ho35));have HO261:=ak (R_lower ho35 (below_size (h1 HB.out GE258.out)));replace BK258:=kb BK258 hb;replace HB:=ak (below_step (h1 HB.out GE258.out) hb);clear hb ho35;obtain⟨Ao36,co36,eo36⟩:=R_slice HO261.out;subst eo36)|(refine gs 21 Try.func63 #[.agg #[.int .i64 a0_0,.bool a0_1],.slice A1 l1.length c1,.slice Ao36 y259.length co36] ?_;(with_reducible refine(impl_isCarried.calls k a0_0 a0_1 _ _ l1 _ _ y259 false _ ?side1 ?side2 ?side3 ?side4 A5.out).mono ?_);(case side1=>exact cm (C_below HR1.out HB.out));(case side2=>exact HC1.out);(case side3=>exact cm (R_reads' HO261.out).2.2);(case side4=>exact(R_reads' HO261.out).2.1);rintro e w37 ⟨rfl,hb⟩;refine⟨_,rfl,?_⟩;replace HO261:=rb HO261 hb;replace BK258:=kb BK258 hb;replace HB:=ak (below_step (h1 HB.out GE258.out) hb);(try clear hb);(try clear hk);(try clear hi)))
  go_ret2
  exact⟨fe,h1 HB.out GE258.out⟩
 subst c6
 rw[if_pos rfl]at H
 have H':=Aside0.mk H
 clear H
 go_enter Try.func22,Try.ntmps22
 go_wp2_with (first|(refine bx 4 #[.int .i64 a0_0,.bool a0_1] 28 ?_;intro gb258 hg w7 hbox hb;have BK258:=ak hbox;have GW258:=gw HB hg;have GE258:=gw HB hg;replace HB:=bs HB hb;clear hb hbox hg;have hcz8_0:=bc BK258 0 rfl;have hcz8_1:=bc BK258 1 rfl;have hfz8_0:=bf BK258 0;have hfz8_1:=bf BK258 1)|((with_reducible refine gate_dst (N:=20) rfl ?_);refine R_lit (Kd.int .i64) _ 3 ?hg (N:=20) ?hd (xs:=([a2,a3]:List Int)) (inner:=[.int .i64 a2,.int .i64 a3]) (ok:=fun _=>True) (okp:=fun _=>True) ?hr ?hp (fun _ hk=>hk) trivial (Below.refl _ _) (Nat.le_refl _) (by simp) ?_;(case hd=>rfl);(case hg=>rfl);(case hr=>first|(go_simp;done)|(go_simp;rfl));(case hp=>exact(Reps.one (show Kd.M (Kd.int .i64) _ _ _ a2 [.int .i64 a2]from rfl) (Reps.one (show Kd.M (Kd.int .i64) _ _ _ a3 [.int .i64 a3]from rfl) (Reps.none _ _))));intro v260 w9 ho10 hb hg_ hnew_;clear hg_ hnew_;(first|rw[←Ny259.out]at ho10|(simp only[Int.reduceToNat]at ho10;rw[←Ny259.out]at ho10));have HO261:=ak (R_lower ho10 (below_size (h1 HB.out GE258.out)));replace BK258:=kb BK258 hb;replace HB:=ak (below_step (h1 HB.out GE258.out) hb);clear hb ho10;obtain⟨Ao11,co11,eo11⟩:=R_slice HO261.out;subst eo11)|(refine gs 21 Try.func63 #[.agg #[.int .i64 a0_0,.bool a0_1],.slice A1 l1.length c1,.slice Ao11 y259.length co11] ?_;(with_reducible refine(impl_isCarried.calls k a0_0 a0_1 _ _ l1 _ _ y259 true _ ?side1 ?side2 ?side3 ?side4 A5.out).mono ?_);(case side1=>exact cm (C_below HR1.out HB.out));(case side2=>exact HC1.out);(case side3=>exact cm (R_reads' HO261.out).2.2);(case side4=>exact(R_reads' HO261.out).2.1);rintro e w12 ⟨rfl,hb⟩;refine⟨_,rfl,?_⟩;replace HO261:=rb HO261 hb;replace BK258:=kb BK258 hb;replace HB:=ak (below_step (h1 HB.out GE258.out) hb);(try clear hb);(try clear hk);(try clear hi)))
 go_loopg [23] k (fun kq v23 w'=>∃ (x23_1:Int),v23= .int .i64 x23_1∧Aside0 (impl_ExtraRange.l0 kq l1 a2 a3 x23_1 a0_0 a0_1=some (r1,r2))∧Aside0 (kq≤k)∧Aside0 (w'.heap[gb258]? =some (.cells #[.int .i64 a0_0,.bool a0_1] 28 (0,0)))∧Aside0 (Below w.heap.size w w'))
 case atStart=>exact⟨(0),fd,H',⟨Nat.le_refl _⟩,⟨bm BK258.out⟩,⟨h1 HB.out GE258.out⟩⟩
 clear H'
 try clear c1
 try clear c2
 try clear p2
 try clear c6
 try clear hcz8_0
 try clear hcz8_1
 try clear hfz8_0
 try clear hfz8_1
 obtain⟨x23_1,rfl,HA,HK1,BK258,HB⟩:=hrel
 obtain _|k1:=gk;·cases HA.out
 obtain⟨H⟩:=HA
 simp only[impl_ExtraRange.l0]at H
 by_cases c13:x23_1<49
 rotate_left
 ·rw[if_neg c13]at H
  have c13b0:decide (x23_1<49)=false:=decide_eq_false c13
  clear c13
  simp only[Option.some.injEq,Prod.mk.injEq]at H
  obtain⟨rfl,rfl⟩:=H
  go_wp2
  go_ret2
  exact⟨fe,h1 HB.out GE258.out⟩
 rw[if_pos c13]at H
 have c13b0:decide (x23_1<49)=true:=decide_eq_true c13
 clear c13
 generalize hy263: ([]:List (S63))=y263 at H
 have Ny263:=ak hy263.symm
 clear hy263
 have H':=Aside0.mk H
 clear H
 go_wp2_with (first|((with_reducible refine gate_dst (N:=26) rfl ?_);refine R_lit k63 _ 63 ?hg (N:=26) ?hd (xs:=([]:List (S63))) (inner:=[]) (ok:=fun _=>True) (okp:=fun _=>True) ?hr ?hp (fun _ hk=>hk) trivial (Below.refl _ _) (Nat.le_refl _) (by simp) ?_;(case hd=>rfl);(case hg=>rfl);(case hr=>first|(go_simp;done)|(go_simp;rfl));(case hp=>exact(Reps.none _ _));intro v264 w14 ho15 hb hg_ hnew_;clear hg_ hnew_;(first|rw[←Ny263.out]at ho15|(simp only[Int.reduceToNat]at ho15;rw[←Ny263.out]at ho15));have HO265:=ak (R_lower ho15 (below_size (h1 HB.out GE258.out)));replace BK258:=kb BK258 hb;replace HB:=ak (below_step (h1 HB.out GE258.out) hb);clear hb ho15))
 go_loopg [11,29] k1 (fun kq v11 v29 w'=>∃ (x11_2:List (S63)) (x29_2:Int),v29= .int .i64 x29_2∧Aside0 (impl_ExtraRange.l1 kq l1 a2 a3 x23_1 x11_2 x23_1 l1 (l1.length:Int) x29_2 a0_0 a0_1=some (r1,r2))∧Aside0 (kq≤k1)∧Aside0 (Kd.R k63 63 w' w.heap.size (fun _=>True) v11 x11_2)∧Aside0 (w'.heap[gb258]? =some (.cells #[.int .i64 a0_0,.bool a0_1] 28 (0,0)))∧Aside0 (Below w.heap.size w w'))
 case atStart=>exact⟨(y263),(0),fd,H',⟨Nat.le_refl _⟩,⟨rm HO265.out⟩,⟨bm BK258.out⟩,⟨h1 HB.out GE258.out⟩⟩
 clear H'
 try clear c1
 try clear c2
 try clear p2
 try clear c6
 try clear c13
 try clear c13b0
 try clear hcz8_0
 try clear hcz8_1
 try clear hfz8_0
 try clear hfz8_1
 try clear p2
 obtain⟨x11_2,x29_2,rfl,HA,HK2,HO_11,BK258,HB⟩:=hrel
 obtain _|k2:=gk;·cases HA.out
 obtain⟨H⟩:=HA
 simp only[impl_ExtraRange.l1]at H
 by_cases c16:x29_2<(l1.length:Int)
 rotate_left
 ·rw[if_neg c16]at H
  have c16b0:decide (x29_2<(l1.length:Int))=false:=decide_eq_false c16
  clear c16
  obtain⟨⟨t271,t274,t275⟩,A24,H⟩:=bd H;(try dsimp only at H)
  by_cases c25:t275=true
  ·subst c25
   rw[if_pos rfl]at H
   simp only[Option.some.injEq,Prod.mk.injEq]at H
   obtain⟨rfl,rfl⟩:=H
   have hcz26_0:=bc BK258 0 rfl
   have hcz26_1:=bc BK258 1 rfl
   have hfz26_0:=bf BK258 0
   have hfz26_1:=bf BK258 1
   obtain⟨Ao27,co27,eo27⟩:=R_slice HO_11.out
   subst eo27
   go_wp2_with (first|(refine gs 51 Try.func68 #[.agg #[.int .i64 a0_0,.bool a0_1],.slice Ao27 x11_2.length co27,.int .i64 a2,.int .i64 a3] ?_;(with_reducible refine(reachOrder3.calls k2 a0_0 a0_1 _ _ x11_2 a2 a3 t271 t274 true _ ?side1 ?side2 A24.out).mono ?_);(case side1=>exact cm (R_reads' HO_11.out).2.2);(case side2=>exact(R_reads' HO_11.out).2.1);rintro e w28 ⟨v272,rfl,ho0,⟨Az_,cz_,ez_,hz_⟩,hb⟩;refine⟨_,rfl,?_⟩;replace HO_11:=rb HO_11 hb;have HO273:=ak (R_lower ho0 (below_size (h1 HB.out GE258.out)));replace BK258:=kb BK258 hb;replace HB:=ak (below_step (h1 HB.out GE258.out) hb);(try clear hb);(try clear hk);(try clear hi);(try clear ho0);subst ez_;(cases Az_<;>simp at hz_)))
   go_ret2
   exact⟨fe,h1 HB.out GE258.out⟩
  replace c25:=Bool.eq_false_iff.mpr c25
  subst c25
  rw[if_neg (show ¬(false=true)by decide)]at H
  have H':=Aside0.mk H
  clear H
  have hcz29_0:=bc BK258 0 rfl
  have hcz29_1:=bc BK258 1 rfl
  have hfz29_0:=bf BK258 0
  have hfz29_1:=bf BK258 1
  obtain⟨Ao30,co30,eo30⟩:=R_slice HO_11.out
  subst eo30
  go_wp2_with (first|(refine gs 51 Try.func68 #[.agg #[.int .i64 a0_0,.bool a0_1],.slice Ao30 x11_2.length co30,.int .i64 a2,.int .i64 a3] ?_;(with_reducible refine(reachOrder3.calls k2 a0_0 a0_1 _ _ x11_2 a2 a3 t271 t274 false _ ?side1 ?side2 A24.out).mono ?_);(case side1=>exact cm (R_reads' HO_11.out).2.2);(case side2=>exact(R_reads' HO_11.out).2.1);rintro e w31 ⟨v272,rfl,ho0,⟨Az_,cz_,ez_,hz_⟩,hb⟩;refine⟨_,rfl,?_⟩;replace HO_11:=rb HO_11 hb;have HO273:=ak (R_lower ho0 (below_size (h1 HB.out GE258.out)));replace BK258:=kb BK258 hb;replace HB:=ak (below_step (h1 HB.out GE258.out) hb);(try clear hb);(try clear hk);(try clear hi);(try clear ho0);subst ez_;(cases Az_<;>simp at hz_)))
  go_roundg k2
  case measure=>have:=HK1.out;have:=HK2.out;omega
  case rel=>exact⟨(wrap64 (x23_1+1)),fd,H',⟨by have:=HK1.out;have:=HK2.out;omega⟩,⟨bm BK258.out⟩,⟨h1 HB.out GE258.out⟩⟩
 rw[if_pos c16]at H
 have c16b0:decide (x29_2<(l1.length:Int))=true:=decide_eq_true c16
 clear c16
 obtain⟨c17,H⟩:=gi H
 have c17b0:decide (0≤x29_2)=true:=decide_eq_true c17
 clear c17
 obtain⟨c18,H⟩:=gi H
 have c18b0:decide (x29_2<(l1.length:Int))=true:=decide_eq_true c18
 clear c18
 obtain⟨c19,H⟩:=gi H
 have LMc19:=Aside0.mk c19
 clear c19
 generalize hy268: (x11_2++[(⟨(rd_T63 l1 x29_2).f0,wrap64 (((rd_T63 l1 x29_2).f1)+x23_1),(rd_T63 l1 x29_2).f2⟩:S63)]:List (S63))=y268 at H
 have Ny268:=ak hy268.symm
 clear hy268
 have H':=Aside0.mk H
 clear H
 have p266:0≤(x29_2:Int):=od
 have q266:x29_2<(l1.length:Int):=od
 obtain⟨ad266,e266,hx266_0,hx266_1,hx266_2⟩:=at_T63 HR1.out x29_2 p266 q266
 cases e266
 replace hx266_0:=hc HB hx266_0
 replace hx266_1:=hc HB hx266_1
 replace hx266_2:=hc HB hx266_2
 replace p266:=eq_true p266
 replace q266:=eq_true q266
 go_wp2_with (first|(refine bx 13 #[.int .i64 0,.int .i64 0,.int .i64 0] 63 ?_;intro gb267 hg w20 hbox hb;replace HO_11:=ak (R_below (R_elderB (rm HO_11.out) gb267 (Nat.le_of_eq hg.symm)) hb);have BK267:=ak hbox;have GW267:=ak ((by rw[hg];exact(below_size (h1 HB.out GE258.out)):w.heap.size≤gb267));have GE267:=ak ((by rw[hg];exact(below_size (h1 HB.out GE258.out)):w.heap.size≤gb267));replace HB:=ak (below_step (h1 HB.out GE258.out) hb);have NB258_267:=nl BK258 hg;have NB267_258:=ng BK258 hg;replace BK258:=kb BK258 hb;clear hb hbox hg;have hnb21:=NB267_258.out;have hnc21:=NB258_267.out;have hcz22_0:=bc BK267 0 rfl;have hcz22_1:=bc BK267 1 rfl;have hcz22_2:=bc BK267 2 rfl;have hfz22_0:=bf BK267 0;have hfz22_1:=bf BK267 1;have hfz22_2:=bf BK267 2)|((with_reducible refine gate_builtin (b:=.append) (xs:=#[.tmp 33,.tmp 43]) rfl ?_);at_builtin;refine R_append k63 (w0:=w) w.heap.size rfl (.tmp 33) (.tmp 43) 30 63 (.agg #[(.int .i64 0),(.int .i64 0),(.int .i64 0)]) 24 rfl Try.underlying30 info63 rfl (by decide) (by omega) u11 x11_2 (⟨(rd_T63 l1 x29_2).f0,wrap64 (((rd_T63 l1 x29_2).f1)+x23_1),(rd_T63 l1 x29_2).f2⟩:S63) [.int .i64 ((rd_T63 l1 x29_2).f0),.int .i64 (wrap64 (((rd_T63 l1 x29_2).f1)+x23_1)),.int .i64 ((rd_T63 l1 x29_2).f2)] (fun k_=>k_≠gb267) (fun _=>False) rfl (by first|(go_simp;done)|(go_simp;rfl)) ?aP (fun _ hk=>hk.elim) ?aF ?aO ?aB ?aS ?aL ?_;(case aP=>exact k63_mkM _ _ _ (⟨(rd_T63 l1 x29_2).f0,wrap64 (((rd_T63 l1 x29_2).f1)+x23_1),(rd_T63 l1 x29_2).f2⟩:S63));(case aB=>exact(h2 HB.out GE258.out GE267.out));(case aF=>exact(fun k_ hk=>Kd.freshB (g:=gb267) (o:=.cells #[.int .i64 ((rd_T63 l1 x29_2).f0),.int .i64 ((rd_T63 l1 x29_2).f1),.int .i64 ((rd_T63 l1 x29_2).f2)] 63 (0,0)) (by(with_reducible repeat(first|apply blk_drewN|apply blk_drew|apply blk_alloc));refine blk_put (cs:=#[.int .i64 ((rd_T63 l1 x29_2).f0),.int .i64 ((rd_T63 l1 x29_2).f1),.int .i64 0]) ?_ 2 _ rfl;(with_reducible repeat(first|apply blk_drewN|apply blk_drew|apply blk_alloc));refine blk_put (cs:=#[.int .i64 ((rd_T63 l1 x29_2).f0),.int .i64 0,.int .i64 0]) ?_ 1 _ rfl;(with_reducible repeat(first|apply blk_drewN|apply blk_drew|apply blk_alloc));refine blk_put (cs:=#[.int .i64 0,.int .i64 0,.int .i64 0]) ?_ 0 _ rfl;exact bm BK267.out) k_ hk));(case aO=>exact(by(with_reducible repeat(first|apply R_alloc|apply R_drewN|apply R_drew));exact R_mono (R_far (p:=⟨gb267,2,none⟩) (R_far (p:=⟨gb267,1,none⟩) (R_far (p:=⟨gb267,0,none⟩) (R_mono HO_11.out (fun k_ hk=>(⟨hk,hk.2⟩:_∧k_≠gb267))) (fun _ hk=>hk.2) (.int .i64 ((rd_T63 l1 x29_2).f0))) (fun _ hk=>hk.2) (.int .i64 ((rd_T63 l1 x29_2).f1))) (fun _ hk=>hk.2) (.int .i64 ((rd_T63 l1 x29_2).f2))) (fun _ hk=>hk.1.2)));(case aS=>exact(below_size (h2 HB.out GE258.out GE267.out)));(case aL=>have:=LMc19.out;omega);intro v269 w23 ho hb hg hat;rw[←Ny268.out]at ho;replace BK258:=ak (blk_grown (g:=gb258) (o:=.cells #[.int .i64 a0_0,.bool a0_1] 28 (0,0)) (by(with_reducible repeat(first|apply blk_drewN|apply blk_drew|apply blk_alloc));refine blk_far ?_ NB258_267.out _;(with_reducible repeat(first|apply blk_drewN|apply blk_drew|apply blk_alloc));refine blk_far ?_ NB258_267.out _;(with_reducible repeat(first|apply blk_drewN|apply blk_drew|apply blk_alloc));refine blk_far ?_ NB258_267.out _;exact bm BK258.out) hg (R_ne HO_11.out BK258.out (by decide)));replace BK267:=ak (blk_grown (g:=gb267) (o:=.cells #[.int .i64 ((rd_T63 l1 x29_2).f0),.int .i64 ((rd_T63 l1 x29_2).f1),.int .i64 ((rd_T63 l1 x29_2).f2)] 63 (0,0)) (by(with_reducible repeat(first|apply blk_drewN|apply blk_drew|apply blk_alloc));refine blk_put (cs:=#[.int .i64 ((rd_T63 l1 x29_2).f0),.int .i64 ((rd_T63 l1 x29_2).f1),.int .i64 0]) ?_ 2 _ rfl;(with_reducible repeat(first|apply blk_drewN|apply blk_drew|apply blk_alloc));refine blk_put (cs:=#[.int .i64 ((rd_T63 l1 x29_2).f0),.int .i64 0,.int .i64 0]) ?_ 1 _ rfl;(with_reducible repeat(first|apply blk_drewN|apply blk_drew|apply blk_alloc));refine blk_put (cs:=#[.int .i64 0,.int .i64 0,.int .i64 0]) ?_ 0 _ rfl;exact bm BK267.out) hg (R_away HO_11.out (fun _ hk=>hk.2)));replace HB:=ak hb;have HO270:=ak ho;clear HO_11;clear ho hb hg hat))
 go_roundg k2
 case measure=>have:=HK1.out;have:=HK2.out;omega
 case rel=>exact⟨(y268),(wrap64 (x29_2+1)),fd,H',⟨by have:=HK1.out;have:=HK2.out;omega⟩,⟨rm (R_mono HO270.out (fun _ hk=>trivial))⟩,⟨bm BK258.out⟩,⟨h2 HB.out GE258.out GE267.out⟩⟩
def spec_l1Own.f (l0:List Int):Option (List Int):=(some (([]:List Int):List Int)).bind fun y276=>(if y276.length+l0.length<17592186044416 then(some (y276++l0))else(none))
set_option maxHeartbeats 8000000 in
set_option maxRecDepth 100000 in
theorem spec_l1Own.calls (A0:Option Addr) (c0:Nat) (l0:List Int) (r:List Int) (w:World) (hr0:Kd.C (Kd.int .i64) w A0 l0.length l0) (hc0:l0.length≤c0) (h:spec_l1Own.f l0=some r):
  Calls Try.prog 80 #[.slice A0 l0.length c0] w fun e w'=>∃ v0_:Value,e= .returned (v0_)∧Kd.R (Kd.int .i64) 3 w' w.heap.size (fun _=>True) v0_ r∧Below w.heap.size w w':=by
 have HR0:=Aside0.mk hr0
 have HC0:=Aside0.mk hc0
 clear hr0 hc0
 have HB:=Aside0.mk (Below.refl w.heap.size w)
 unfold spec_l1Own.f at h
 have H:=h
 clear h
 obtain⟨y276,hy276⟩:∃ y_:List Int,y_=(([]:List Int)):=⟨_,rfl⟩
 replace H: (if y276.length+l0.length<17592186044416 then(some (y276++l0))else(none))=some r:=by subst hy276;first|(with_reducible exact H)|exact H
 have Ny276:=Aside0.mk hy276
 clear hy276
 obtain⟨c2,H⟩:=gi H
 have LMc2:=Aside0.mk c2
 clear c2
 generalize hy279: (y276++l0:List Int)=y279 at H
 have Ny279:=ak hy279.symm
 clear hy279
 obtain rfl:=Option.some.inj H
 go_enter Try.func80,Try.ntmps80
 go_wp2_with (first|((with_reducible refine gate_dst (N:=3) rfl ?_);refine R_lit (Kd.int .i64) _ 3 ?hg (N:=3) ?hd (xs:=([]:List Int)) (inner:=[]) (ok:=fun _=>True) (okp:=fun _=>True) ?hr ?hp (fun _ hk=>hk) trivial (Below.refl _ _) (Nat.le_refl _) (by simp) ?_;(case hd=>rfl);(case hg=>rfl);(case hr=>first|(go_simp;done)|(go_simp;rfl));(case hp=>exact(Reps.none _ _));intro v277 w3 ho4 hb hg_ hnew_;clear hg_ hnew_;(first|rw[←Ny276.out]at ho4|(simp only[Int.reduceToNat]at ho4;rw[←Ny276.out]at ho4));have HO278:=ak (R_lower ho4 (below_size (hm HB.out)));replace HB:=bs HB hb;clear hb ho4)|((with_reducible refine gate_builtin (b:=.append) (xs:=#[.tmp 3,.tmp 4]) rfl ?_);at_builtin;refine R_append_rows (Kd.int .i64) (w0:=w) w.heap.size rfl (.tmp 3) (.tmp 4) 40 3 (.int .i64 0) 8 rfl Try.underlying40 info3 rfl (by decide) (by omega) v277 y276 l0 _ _ _ (fun _=>True) (fun _=>False) rfl rfl ?aO ?aR (fun _ _ h=>h) (fun _ h=>h.elim) ?aF ?aB ?aS ?aL ?_;(case aR=>exact cm (C_below HR0.out HB.out));(case aB=>exact(hm HB.out));(case aF=>exact(fun _ _=>trivial));(case aO=>exact(rm HO278.out));(case aS=>exact(below_size (hm HB.out)));(case aL=>have:=LMc2.out;omega);intro v280 w5 ho hb hg hat;rw[←Ny279.out]at ho;replace HB:=ak hb;have HO281:=ak ho;clear HO278;clear ho hb hg hat))
 go_ret
 exact⟨_,fe,rm HO281.out,hm HB.out⟩
def spec_l1Has.l0:Nat→List Int→Int→Int→Option (Bool)
 | 0,_,_,_=>none
 | k+1,x0,x1,x5=>if x5<(x0.length:Int)then(if 0≤x5 then(if(rd x0 x5)=x1 then(some true)else(spec_l1Has.l0 k x0 x1 (wrap64 (x5+1))))else(none))else(some false)
def spec_l1Has.f (k:Nat) (l0:List Int) (a1:Int):Option (Bool):=spec_l1Has.l0 k l0 a1 0
theorem spec_l1Has.mono_l:∀ k,(∀ y0 y1 y2,LeO (spec_l1Has.l0 k y0 y1 y2) (spec_l1Has.l0 (k+1) y0 y1 y2))
 | 0=>by
  refine ?_<;>(intros;intro r h;simp[spec_l1Has.l0]at h)
 | k+1=>by
  have ih0:=spec_l1Has.mono_l k
  refine ?_<;>intros<;>unfold spec_l1Has.l0<;>(repeat' (with_reducible first|exact ih0 ..|exact LeO.refl _|exact LeO.none _|refine LeO.ite ?_ ?_|refine LeO.bind ?_ (fun _=>?_)))
theorem spec_l1Has.mono:∀ a0 a1 k,LeO (spec_l1Has.f k a0 a1) (spec_l1Has.f (k+1) a0 a1):=by
 intro a0 a1 k
 have ih0:=spec_l1Has.mono_l k
 unfold spec_l1Has.f
 repeat' (with_reducible first|exact ih0 ..|exact LeO.refl _|exact LeO.none _|refine LeO.ite ?_ ?_|refine LeO.bind ?_ (fun _=>?_))
set_option maxHeartbeats 8000000 in
set_option maxRecDepth 100000 in
theorem spec_l1Has.calls (k:Nat) (A0:Option Addr) (c0:Nat) (l0:List Int) (a1:Int) (r:Bool) (w:World) (hr0:Kd.C (Kd.int .i64) w A0 l0.length l0) (hc0:l0.length≤c0) (h:spec_l1Has.f k l0 a1=some r):
  Calls Try.prog 102 #[.slice A0 l0.length c0,.int .i64 a1] w fun e w'=>e= .returned (.bool r)∧Drawn0 w w':=by
 have HR0:=Aside0.mk hr0
 have HC0:=Aside0.mk hc0
 clear hr0 hc0
 unfold spec_l1Has.f at h
 have H:=h
 clear h
 have H':=Aside0.mk H
 clear H
 go_enter Try.func102,Try.ntmps102
 go_wp2
 go_loopg [5] k (fun kq v5 w'=>∃ (x5_1:Int),v5= .int .i64 x5_1∧Aside0 (spec_l1Has.l0 kq l0 a1 x5_1=some r)∧Aside0 (kq≤k)∧Drawn0 w w')
 case atStart=>exact⟨(0),fd,H',⟨Nat.le_refl _⟩,by repeat(first|exact Drawn0.refl _|apply Drawn0.step)⟩
 clear H'
 try clear c1
 try clear p2
 obtain⟨x5_1,rfl,HA,HK1,⟨m1,rfl⟩⟩:=hrel
 obtain _|k1:=gk;·cases HA.out
 obtain⟨H⟩:=HA
 simp only[spec_l1Has.l0]at H
 by_cases c3:x5_1<(l0.length:Int)
 rotate_left
 ·rw[if_neg c3]at H
  have c3b0:decide (x5_1<(l0.length:Int))=false:=decide_eq_false c3
  clear c3
  obtain rfl:=Option.some.inj H
  go_wp2
  go_ret
  exact⟨by first|rfl|(simp;done)|(simp[*];done),by repeat(first|exact Drawn0.refl _|apply Drawn0.step)⟩
 rw[if_pos c3]at H
 have c3b0:decide (x5_1<(l0.length:Int))=true:=decide_eq_true c3
 clear c3
 obtain⟨c4,H⟩:=gi H
 have c4b0:decide (0≤x5_1)=true:=decide_eq_true c4
 clear c4
 by_cases c5: (rd l0 x5_1)=a1
 ·rw[if_pos c5]at H
  have c5b0: ((rd l0 x5_1)==a1)=true:=beq_iff_eq.mpr c5
  have c5b1: ((rd l0 x5_1) !=a1)=false:=bne_eq_false_iff_eq.mpr c5
  clear c5
  obtain rfl:=Option.some.inj H
  have p282:0≤(x5_1:Int):=od
  have q282:x5_1<(l0.length:Int):=od
  obtain⟨ad282,e282,hx282_0⟩:=Kd.at_int HR0.out x5_1 p282 q282
  cases e282
  replace p282:=eq_true p282
  replace q282:=eq_true q282
  go_wp2
  go_ret
  exact⟨by first|rfl|(simp;done)|(simp[*];done),by repeat(first|exact Drawn0.refl _|apply Drawn0.step)⟩
 rw[if_neg c5]at H
 have c5b0: ((rd l0 x5_1)==a1)=false:=beq_eq_false_iff_ne.mpr c5
 have c5b1: ((rd l0 x5_1) !=a1)=true:=bne_iff_ne.mpr c5
 have H':=Aside0.mk H
 clear H
 have p282:0≤(x5_1:Int):=od
 have q282:x5_1<(l0.length:Int):=od
 obtain⟨ad282,e282,hx282_0⟩:=Kd.at_int HR0.out x5_1 p282 q282
 cases e282
 replace p282:=eq_true p282
 replace q282:=eq_true q282
 go_wp2
 go_roundg k1
 case measure=>have:=HK1.out;omega
 case rel=>exact⟨(wrap64 (x5_1+1)),fd,H',⟨by have:=HK1.out;omega⟩,by repeat(first|exact Drawn0.refl _|apply Drawn0.step)⟩
mutual
def spec_l7Orders.l0:Nat→Int→Int→List (List Int)→Int→Option ((List (List Int)))
 | 0,_,_,_,_=>none
 | k+1,x0,x1,x5,x6=>if x6<x1 then(spec_l7Orders.l1 k x0 x1 x5 x6 (([]:List (List Int))) 0)else(some x5)
def spec_l7Orders.l1:Nat→Int→Int→List (List Int)→Int→List (List Int)→Int→Option ((List (List Int)))
 | 0,_,_,_,_,_,_=>none
 | k+1,x0,x1,x5,x6,x7,x8=>if x8<(x5.length:Int)then(spec_l7Orders.l2 k x0 x1 x5 x6 x7 x8 0)else(spec_l7Orders.l0 k x0 x1 x7 (wrap64 (x6+1)))
def spec_l7Orders.l2:Nat→Int→Int→List (List Int)→Int→List (List Int)→Int→Int→Option ((List (List Int)))
 | 0,_,_,_,_,_,_,_=>none
 | k+1,x0,x1,x5,x6,x7,x8,x9=>if x9<x0 then(if 0≤x8 then(if x8<(x5.length:Int)then((spec_l1Has.f k (rd_L2 x5 x8) x9).bind fun t293=>(if t293=true then(spec_l7Orders.l2 k x0 x1 x5 x6 x7 x8 (wrap64 (x9+1)))else((spec_l1Own.f (rd_L2 x5 x8)).bind fun t295=>(if t295.length<17592186044416 then(if x7.length<5864062014805 then(spec_l7Orders.l2 k x0 x1 x5 x6 (x7++[(t295++[x9])]) x8 (wrap64 (x9+1)))else(none))else(none)))))else(none))else(none))else(spec_l7Orders.l1 k x0 x1 x5 x6 x7 (wrap64 (x8+1)))
end
def spec_l7Orders.f (k:Nat) (a0:Int) (a1:Int):Option ((List (List Int))):=spec_l7Orders.l0 k a0 a1 (([(([]:List Int))]:List (List Int))) 0
theorem spec_l7Orders.mono_l:∀ k,(∀ y0 y1 y2 y3,LeO (spec_l7Orders.l0 k y0 y1 y2 y3) (spec_l7Orders.l0 (k+1) y0 y1 y2 y3))∧(∀ y0 y1 y2 y3 y4 y5,LeO (spec_l7Orders.l1 k y0 y1 y2 y3 y4 y5) (spec_l7Orders.l1 (k+1) y0 y1 y2 y3 y4 y5))∧(∀ y0 y1 y2 y3 y4 y5 y6,LeO (spec_l7Orders.l2 k y0 y1 y2 y3 y4 y5 y6) (spec_l7Orders.l2 (k+1) y0 y1 y2 y3 y4 y5 y6))
 | 0=>by
  refine⟨?_,?_,?_⟩<;>(intros;intro r h;simp[spec_l7Orders.l0,spec_l7Orders.l1,spec_l7Orders.l2]at h)
 | k+1=>by
  obtain⟨ih0,ih1,ih2⟩:=spec_l7Orders.mono_l k
  refine⟨?_,?_,?_⟩<;>intros<;>(first|unfold spec_l7Orders.l0|unfold spec_l7Orders.l1|unfold spec_l7Orders.l2)<;>(repeat' (with_reducible first|exact ih0 ..|exact ih1 ..|exact ih2 ..|exact spec_l1Has.mono ..|exact LeO.refl _|exact LeO.none _|refine LeO.ite ?_ ?_|refine LeO.bind ?_ (fun _=>?_)))
theorem spec_l7Orders.mono:∀ a0 a1 k,LeO (spec_l7Orders.f k a0 a1) (spec_l7Orders.f (k+1) a0 a1):=by
 intro a0 a1 k
 obtain⟨ih0,ih1,ih2⟩:=spec_l7Orders.mono_l k
 unfold spec_l7Orders.f
 repeat' (with_reducible first|exact ih0 ..|exact ih1 ..|exact ih2 ..|exact spec_l1Has.mono ..|exact LeO.refl _|exact LeO.none _|refine LeO.ite ?_ ?_|refine LeO.bind ?_ (fun _=>?_))
set_option maxHeartbeats 8000000 in
set_option maxRecDepth 100000 in
theorem spec_l7Orders.calls (k:Nat) (a0:Int) (a1:Int) (r:List (List Int)) (w:World) (h:spec_l7Orders.f k a0 a1=some r):
  Calls Try.prog 71 #[.int .i64 a0,.int .i64 a1] w fun e w'=>∃ v0_:Value,e= .returned (v0_)∧Kd.N (Kd.slice 3 (Kd.int .i64)) 40 w' w.heap.size (fun k_=>(w.heap.size≤k_)) v0_ r∧Below w.heap.size w w':=by
 have HB:=Aside0.mk (Below.refl w.heap.size w)
 unfold spec_l7Orders.f at h
 have H:=h
 clear h
 generalize hy283: ([]:List Int)=y283 at H
 have Ny283:=ak hy283.symm
 clear hy283
 generalize hy286: ([y283]:List (List Int))=y286 at H
 have Ny286:=ak hy286.symm
 clear hy286
 have H':=Aside0.mk H
 clear H
 go_enter Try.func71,Try.ntmps71
 go_wp2_with (first|((with_reducible refine gate_dst (N:=10) rfl ?_);refine R_lit (Kd.int .i64) _ 3 ?hg (N:=10) ?hd (xs:=([]:List Int)) (inner:=[]) (ok:=fun _=>True) (okp:=fun _=>True) ?hr ?hp (fun _ hk=>hk) trivial (Below.refl _ _) (Nat.le_refl _) (by simp) ?_;(case hd=>rfl);(case hg=>rfl);(case hr=>first|(go_simp;done)|(go_simp;rfl));(case hp=>exact(Reps.none _ _));intro v284 w3 ho4 hb hg_ hnew_;clear hg_ hnew_;(first|rw[←Ny283.out]at ho4|(simp only[Int.reduceToNat]at ho4;rw[←Ny283.out]at ho4));have HO285:=ak (R_lower (R_newM (M:=fun k_=>(w.heap.size≤k_)) ho4 (below_size (hm HB.out)) (fun k_ h_=>h_)) (below_size (hm HB.out)));replace HB:=bs HB hb;clear hb ho4;obtain⟨Ao5,co5,eo5⟩:=R_slice HO285.out;subst eo5)|((with_reducible refine gate_dst (N:=11) rfl ?_);refine Kd.N_lit (Kd.slice 3 (Kd.int .i64)) _ 40 ?hg (N':=11) ?hd (xs:=([y283]:List (List Int))) (inner:=[.slice Ao5 y283.length co5]) (ok:=(fun k_=>(w.heap.size≤k_))) (okp:=(fun k_=>(w.heap.size≤k_))) ?hr ?hp (fun _ hk=>hk) ((show ∀ k_,w3.heap.size≤k_→(fun k_=>(w.heap.size≤k_)) k_ from fun k_ hk=>(Nat.le_trans (below_size (hm HB.out)) hk)) _ (Nat.le_refl _)) (Below.refl _ _) (Nat.le_refl _) (by simp) ?_;(case hd=>rfl);(case hg=>rfl);(case hr=>first|(go_simp;done)|(go_simp;rfl));(case hp=>exact(Reps.one (show Kd.FK (Kd.slice 3 (Kd.int .i64)) _ _ y283 [.slice Ao5 y283.length co5]from(Kd.FK_slice_mk (R_reads' (R_mono (ok':=(fun k_=>(w.heap.size≤k_))) (HO285.out) (fun k_ hk=>hk.1))).2.1 (R_F (R_mono (ok':=(fun k_=>(w.heap.size≤k_))) (HO285.out) (fun k_ hk=>hk.1))))) (Reps.none _ _)));intro v287 w6 ho7 hb hg_ hnew_;clear hg_ hnew_;(first|rw[←Ny286.out]at ho7|(simp only[Int.reduceToNat]at ho7;rw[←Ny286.out]at ho7));have HO288:=ak (Kd.N_lower ho7 (below_size (hm HB.out)));replace HB:=bs HB hb;clear HO285;clear hb ho7))
 go_loopg [5,6] k (fun kq v5 v6 w'=>∃ (x5_1:List (List Int)) (x6_1:Int),v6= .int .i64 x6_1∧Aside0 (spec_l7Orders.l0 kq a0 a1 x5_1 x6_1=some r)∧Aside0 (kq≤k)∧Aside0 (Kd.N (Kd.slice 3 (Kd.int .i64)) 40 w' w.heap.size (fun k_=>(w.heap.size≤k_)) v5 x5_1)∧Aside0 (Below w.heap.size w w'))
 case atStart=>exact⟨(y286),(0),fd,H',⟨Nat.le_refl _⟩,⟨nm HO288.out⟩,⟨hm HB.out⟩⟩
 clear H'
 try clear p2
 try clear c7
 obtain⟨x5_1,x6_1,rfl,HA,HK1,HO_5,HB⟩:=hrel
 obtain _|k1:=gk;·cases HA.out
 obtain⟨H⟩:=HA
 simp only[spec_l7Orders.l0]at H
 by_cases c8:x6_1<a1
 rotate_left
 ·rw[if_neg c8]at H
  have c8b0:decide (x6_1<a1)=false:=decide_eq_false c8
  clear c8
  obtain rfl:=Option.some.inj H
  go_wp2
  go_ret
  exact⟨_,fe,nm HO_5.out,hm HB.out⟩
 rw[if_pos c8]at H
 have c8b0:decide (x6_1<a1)=true:=decide_eq_true c8
 clear c8
 generalize hy289: ([]:List (List Int))=y289 at H
 have Ny289:=ak hy289.symm
 clear hy289
 have H':=Aside0.mk H
 clear H
 go_wp2_with (first|((with_reducible refine gate_dst (N:=17) rfl ?_);refine Kd.N_lit (Kd.slice 3 (Kd.int .i64)) _ 40 ?hg (N':=17) ?hd (xs:=([]:List (List Int))) (inner:=[]) (ok:=(fun k_=>(w.heap.size≤k_)∧ob k_ u5)) (okp:=(fun k_=>(w.heap.size≤k_)∧ob k_ u5)) ?hr ?hp (fun _ hk=>hk) ((show ∀ k_,wr.heap.size≤k_→(fun k_=>(w.heap.size≤k_)∧ob k_ u5) k_ from fun k_ hk=>⟨(Nat.le_trans (below_size (hm HB.out)) hk),Kd.fresh' (Kd.N_lt (nm HO_5.out)) k_ hk⟩) _ (Nat.le_refl _)) (Below.refl _ _) (Nat.le_refl _) (by simp) ?_;(case hd=>rfl);(case hg=>rfl);(case hr=>first|(go_simp;done)|(go_simp;rfl));(case hp=>exact(Reps.none _ _));intro v290 w9 ho10 hb hg_ hnew_;clear hg_ hnew_;(first|rw[←Ny289.out]at ho10|(simp only[Int.reduceToNat]at ho10;rw[←Ny289.out]at ho10));replace HO_5:=ak (Kd.N_elder' (nm HO_5.out) (Kd.N_base ho10) hb);have HO291:=ak (Kd.N_lower ho10 (below_size (hm HB.out)));replace HB:=bs HB hb;clear hb ho10))
 go_loopg [7,8] k1 (fun kq v7 v8 w'=>∃ (x7_2:List (List Int)) (x8_2:Int),v8= .int .i64 x8_2∧Aside0 (spec_l7Orders.l1 kq a0 a1 x5_1 x6_1 x7_2 x8_2=some r)∧Aside0 (kq≤k1)∧Aside0 (Kd.N (Kd.slice 3 (Kd.int .i64)) 40 w' w.heap.size (fun k_=>(w.heap.size≤k_)∧ob k_ v7) u5 x5_1)∧Aside0 (Kd.N (Kd.slice 3 (Kd.int .i64)) 40 w' w.heap.size (fun k_=>(w.heap.size≤k_)∧ob k_ u5) v7 x7_2)∧Aside0 (Below w.heap.size w w'))
 case atStart=>exact⟨(y289),(0),fd,H',⟨Nat.le_refl _⟩,⟨nm HO_5.out⟩,⟨nm HO291.out⟩,⟨hm HB.out⟩⟩
 clear H'
 try clear p2
 try clear c7
 try clear c8
 try clear c8b0
 try clear p2
 obtain⟨x7_2,x8_2,rfl,HA,HK2,HO_5,HO_7,HB⟩:=hrel
 obtain _|k2:=gk;·cases HA.out
 obtain⟨H⟩:=HA
 simp only[spec_l7Orders.l1]at H
 by_cases c11:x8_2<(x5_1.length:Int)
 rotate_left
 ·rw[if_neg c11]at H
  have c11b0:decide (x8_2<(x5_1.length:Int))=false:=decide_eq_false c11
  clear c11
  have H':=Aside0.mk H
  clear H
  obtain⟨Ao25,co25,eo25⟩:=Kd.N_slice HO_5.out
  subst eo25
  go_wp2
  go_roundg k2
  case measure=>have:=HK1.out;have:=HK2.out;omega
  case rel=>exact⟨(x7_2),(wrap64 (x6_1+1)),fd,H',⟨by have:=HK1.out;have:=HK2.out;omega⟩,⟨nm (Kd.N_mono HO_7.out (fun _ hk=>hk.1))⟩,⟨hm HB.out⟩⟩
 rw[if_pos c11]at H
 have c11b0:decide (x8_2<(x5_1.length:Int))=true:=decide_eq_true c11
 clear c11
 have H':=Aside0.mk H
 clear H
 obtain⟨Ao12,co12,eo12⟩:=Kd.N_slice HO_5.out
 subst eo12
 go_wp2
 go_loopg [7,9] k2 (fun kq v7 v9 w'=>∃ (x7_3:List (List Int)) (x9_3:Int),v9= .int .i64 x9_3∧Aside0 (spec_l7Orders.l2 kq a0 a1 x5_1 x6_1 x7_3 x8_2 x9_3=some r)∧Aside0 (kq≤k2)∧Aside0 (Kd.N (Kd.slice 3 (Kd.int .i64)) 40 w' w.heap.size (fun k_=>(w.heap.size≤k_)∧ob k_ v7) (.slice Ao12 x5_1.length co12) x5_1)∧Aside0 (Kd.N (Kd.slice 3 (Kd.int .i64)) 40 w' w.heap.size (fun k_=>(w.heap.size≤k_)∧ob k_ (.slice Ao12 x5_1.length co12)) v7 x7_3)∧Aside0 (Below w.heap.size w w'))
 case atStart=>exact⟨(x7_2),(0),fd,H',⟨Nat.le_refl _⟩,⟨nm HO_5.out⟩,⟨nm HO_7.out⟩,⟨hm HB.out⟩⟩
 clear H'
 try clear c1
 try clear p2
 try clear c7
 try clear c8
 try clear c8b0
 try clear c11
 try clear c11b0
 try clear p2
 obtain⟨x7_3,x9_3,rfl,HA,HK3,HO_5,HO_7,HB⟩:=hrel
 obtain _|k3:=gk;·cases HA.out
 obtain⟨H⟩:=HA
 simp only[spec_l7Orders.l2]at H
 by_cases c13:x9_3<a0
 rotate_left
 ·rw[if_neg c13]at H
  have c13b0:decide (x9_3<a0)=false:=decide_eq_false c13
  clear c13
  have H':=Aside0.mk H
  clear H
  go_wp2
  go_roundg k3
  case measure=>have:=HK1.out;have:=HK2.out;have:=HK3.out;omega
  case rel=>exact⟨(x7_3),(wrap64 (x8_2+1)),fd,H',⟨by have:=HK1.out;have:=HK2.out;have:=HK3.out;omega⟩,⟨nm HO_5.out⟩,⟨nm HO_7.out⟩,⟨hm HB.out⟩⟩
 rw[if_pos c13]at H
 have c13b0:decide (x9_3<a0)=true:=decide_eq_true c13
 clear c13
 obtain⟨c14,H⟩:=gi H
 have c14b0:decide (0≤x8_2)=true:=decide_eq_true c14
 clear c14
 obtain⟨c15,H⟩:=gi H
 have c15b0:decide (x8_2<(x5_1.length:Int))=true:=decide_eq_true c15
 clear c15
 obtain⟨t293,A16,H⟩:=bd H;(try dsimp only at H)
 by_cases c17:t293=true
 ·subst c17
  rw[if_pos rfl]at H
  have H':=Aside0.mk H
  clear H
  have p292:0≤(x8_2:Int):=od
  have q292:x8_2<(x5_1.length:Int):=od
  obtain⟨ad292,A292_0,c292_0,e292,hx292_0,hl292_0,hi292_0⟩:=at_L2 (Kd.N_reads' HO_5.out).2.2 x8_2 p292 q292
  cases e292
  obtain⟨ce292,hce292,hMe292,hcc292⟩:=Kd.N_get HO_5.out [] x8_2 p292 (by first|exact q292|exact od|(have e_:=(Kd.N_reads' HO_5.out).1;omega))
  obtain⟨ua292_0,uc292_0,rfl,ul292_0,ge292_0⟩:=Kd.FK_slice_open hMe292
  have hv292_0:=hcc292 0 _ rfl
  rw[Nat.add_zero,show((Kd.slice 3 (Kd.int .i64))).sz=1 from rfl,Nat.mul_one]at hv292_0
  replace hv292_0:=Option.some.inj (hv292_0.symm.trans hx292_0)
  injection hv292_0 with hva_ hvn_ hvc_
  rw[hva_]at ge292_0
  rw[hvc_]at ul292_0
  have HL292_0:=Aside0.mk (show Kd.V (Kd.int .i64) 3 _ w.heap.size _ _ (rd_L2 x5_1 x8_2)from Kd.V_mk ul292_0 ge292_0)
  clear hva_ hvn_ hvc_ ge292_0 ul292_0
  clear hcc292 hce292
  have HR292_0:=Aside0.mk hi292_0
  have HC292_0:=Aside0.mk hl292_0
  clear hi292_0 hl292_0
  replace p292:=eq_true p292
  replace q292:=eq_true q292
  go_wp2_with (first|(refine gs 34 Try.func102 #[.slice A292_0 (rd_L2 x5_1 x8_2).length c292_0,.int .i64 x9_3] ?_;(with_reducible refine(spec_l1Has.calls k3 _ _ (rd_L2 x5_1 x8_2) x9_3 true _ ?side1 ?side2 A16.out).mono ?_);(case side1=>repeat(first|exact(by repeat(first|(with_reducible exact HR292_0.out)|(with_reducible refine C_alloc ?_ _)|(with_reducible refine C_drewN ?_ _)|(with_reducible refine C_drew ?_)|exact HR292_0.out))|(with_reducible refine C_alloc ?_ _)|(with_reducible refine C_drewN ?_ _)|(with_reducible refine C_drew ?_)));(case side2=>exact HC292_0.out);rintro e w' ⟨rfl,⟨nd,rfl⟩⟩;refine⟨_,rfl,?_⟩))
  go_roundg k3
  case measure=>have:=HK1.out;have:=HK2.out;have:=HK3.out;omega
  case rel=>exact⟨(x7_3),(wrap64 (x9_3+1)),fd,H',⟨by have:=HK1.out;have:=HK2.out;have:=HK3.out;omega⟩,⟨nm HO_5.out⟩,⟨nm HO_7.out⟩,⟨hm HB.out⟩⟩
 replace c17:=Bool.eq_false_iff.mpr c17
 subst c17
 rw[if_neg (show ¬(false=true)by decide)]at H
 obtain⟨t295,A18,H⟩:=bd H;(try dsimp only at H)
 obtain⟨c19,H⟩:=gi H
 have LMc19:=Aside0.mk c19
 clear c19
 generalize hy298: (t295++[x9_3]:List Int)=y298 at H
 have Ny298:=ak hy298.symm
 clear hy298
 obtain⟨c20,H⟩:=gi H
 have LMc20:=Aside0.mk c20
 clear c20
 generalize hy301: (x7_3++[y298]:List (List Int))=y301 at H
 have Ny301:=ak hy301.symm
 clear hy301
 have H':=Aside0.mk H
 clear H
 have p292:0≤(x8_2:Int):=od
 have q292:x8_2<(x5_1.length:Int):=od
 obtain⟨ad292,A292_0,c292_0,e292,hx292_0,hl292_0,hi292_0⟩:=at_L2 (Kd.N_reads' HO_5.out).2.2 x8_2 p292 q292
 cases e292
 obtain⟨ce292,hce292,hMe292,hcc292⟩:=Kd.N_get HO_5.out [] x8_2 p292 (by first|exact q292|exact od|(have e_:=(Kd.N_reads' HO_5.out).1;omega))
 obtain⟨ua292_0,uc292_0,rfl,ul292_0,ge292_0⟩:=Kd.FK_slice_open hMe292
 have hv292_0:=hcc292 0 _ rfl
 rw[Nat.add_zero,show((Kd.slice 3 (Kd.int .i64))).sz=1 from rfl,Nat.mul_one]at hv292_0
 replace hv292_0:=Option.some.inj (hv292_0.symm.trans hx292_0)
 injection hv292_0 with hva_ hvn_ hvc_
 rw[hva_]at ge292_0
 rw[hvc_]at ul292_0
 have HL292_0:=Aside0.mk (show Kd.V (Kd.int .i64) 3 _ w.heap.size _ _ (rd_L2 x5_1 x8_2)from Kd.V_mk ul292_0 ge292_0)
 clear hva_ hvn_ hvc_ ge292_0 ul292_0
 clear hcc292 hce292
 have HR292_0:=Aside0.mk hi292_0
 have HC292_0:=Aside0.mk hl292_0
 clear hi292_0 hl292_0
 replace p292:=eq_true p292
 replace q292:=eq_true q292
 go_wp2_with (first|(refine gs 34 Try.func102 #[.slice A292_0 (rd_L2 x5_1 x8_2).length c292_0,.int .i64 x9_3] ?_;(with_reducible refine(spec_l1Has.calls k3 _ _ (rd_L2 x5_1 x8_2) x9_3 false _ ?side1 ?side2 A16.out).mono ?_);(case side1=>repeat(first|exact(by repeat(first|(with_reducible exact HR292_0.out)|(with_reducible refine C_alloc ?_ _)|(with_reducible refine C_drewN ?_ _)|(with_reducible refine C_drew ?_)|exact HR292_0.out))|(with_reducible refine C_alloc ?_ _)|(with_reducible refine C_drewN ?_ _)|(with_reducible refine C_drew ?_)));(case side2=>exact HC292_0.out);rintro e w' ⟨rfl,⟨nd,rfl⟩⟩;refine⟨_,rfl,?_⟩;have p294:0≤(x8_2:Int):=od;have q294:x8_2<(x5_1.length:Int):=od;obtain⟨ad294,A294_0,c294_0,e294,hx294_0,hl294_0,hi294_0⟩:=at_L2 (Kd.N_reads' HO_5.out).2.2 x8_2 p294 q294;obtain rfl:ad292=ad294:=(by injection e294);obtain⟨ce294,hce294,hMe294,hcc294⟩:=Kd.N_get HO_5.out [] x8_2 p294 (by first|exact q294|exact od|(have e_:=(Kd.N_reads' HO_5.out).1;omega));obtain⟨ua294_0,uc294_0,rfl,ul294_0,ge294_0⟩:=Kd.FK_slice_open hMe294;have hv294_0:=hcc294 0 _ rfl;rw[Nat.add_zero,show((Kd.slice 3 (Kd.int .i64))).sz=1 from rfl,Nat.mul_one]at hv294_0;replace hv294_0:=Option.some.inj (hv294_0.symm.trans hx294_0);injection hv294_0 with hva_ hvn_ hvc_;rw[hva_]at ge294_0;rw[hvc_]at ul294_0;have HL294_0:=Aside0.mk (show Kd.V (Kd.int .i64) 3 _ w.heap.size _ _ (rd_L2 x5_1 x8_2)from Kd.V_mk ul294_0 ge294_0);clear hva_ hvn_ hvc_ ge294_0 ul294_0;clear hcc294 hce294;have HR294_0:=Aside0.mk hi294_0;have HC294_0:=Aside0.mk hl294_0;clear hi294_0 hl294_0;replace p294:=eq_true p294;replace q294:=eq_true q294;have ea_:=Option.some.inj (hx292_0.symm.trans hx294_0);injection ea_ with ea_ en_ ec_;subst ea_;subst ec_;clear en_)|(refine gs 41 Try.func80 #[.slice A292_0 (rd_L2 x5_1 x8_2).length c292_0] ?_;(with_reducible refine(spec_l1Own.calls _ _ (rd_L2 x5_1 x8_2) t295 _ ?side1 ?side2 A18.out).mono ?_);(case side1=>repeat(first|exact(by repeat(first|(with_reducible exact HR294_0.out)|(with_reducible refine C_alloc ?_ _)|(with_reducible refine C_drewN ?_ _)|(with_reducible refine C_drew ?_)|exact HR294_0.out))|(with_reducible refine C_alloc ?_ _)|(with_reducible refine C_drewN ?_ _)|(with_reducible refine C_drew ?_)));(case side2=>exact HC294_0.out);rintro e w21 ⟨v296,rfl,ho0,hb⟩;refine⟨_,rfl,?_⟩;replace HO_5:=ak (Kd.N_elder' (nm HO_5.out) (R_base ho0) hb);replace HO_7:=ak (Kd.N_elder' (nm HO_7.out) (R_base ho0) hb);replace HL292_0:=ak (Kd.V_elder' (vm HL292_0.out) (R_base ho0) hb);replace HL294_0:=ak (Kd.V_elder' (vm HL294_0.out) (R_base ho0) hb);have HO297:=ak (R_lower (R_newM (M:=fun k_=>(w.heap.size≤k_)) ho0 (below_size (hm HB.out)) (fun k_ h_=>h_)) (below_size (hm HB.out)));replace HR292_0:=ak (C_below (by repeat(first|(with_reducible exact HR292_0.out)|(with_reducible refine C_alloc ?_ _)|(with_reducible refine C_drewN ?_ _)|(with_reducible refine C_drew ?_)|exact HR292_0.out)) hb);replace HR294_0:=ak (C_below (by repeat(first|(with_reducible exact HR294_0.out)|(with_reducible refine C_alloc ?_ _)|(with_reducible refine C_drewN ?_ _)|(with_reducible refine C_drew ?_)|exact HR294_0.out)) hb);replace HB:=bs HB hb;(try clear hb);(try clear hk);(try clear hi);(try clear ho0))|((with_reducible refine gate_builtin (b:=.append) (xs:=#[.tmp 41,.tmp 43]) rfl ?_);at_builtin;refine R_append (Kd.int .i64) (w0:=w) w.heap.size rfl (.tmp 41) (.tmp 43) 40 3 (.int .i64 0) 8 rfl Try.underlying40 info3 rfl (by decide) (by omega) v296 t295 x9_3 [.int .i64 x9_3] (fun k_=>(w.heap.size≤k_)) (fun _=>False) rfl rfl ?aP (fun _ hk=>hk.elim) ?aF ?aO ?aB ?aS ?aL ?_;(case aP=>exact rfl);(case aB=>exact(hm HB.out));(case aF=>exact(fun k_ hk=>(Nat.le_trans (below_size (hm HB.out)) hk)));(case aO=>exact(rm (R_mono HO297.out (fun _ hk=>hk.1))));(case aS=>exact(below_size (hm HB.out)));(case aL=>have:=LMc19.out;omega);intro v299 w22 ho hb hg hat;rw[←Ny298.out]at ho;replace HO_5:=ak (Kd.N_afterv (ok:=(fun k_=>(w.heap.size≤k_)∧ob k_ u7)) (nm HO_5.out) hg hat);replace HO_7:=ak (Kd.N_afterv (ok:=(fun k_=>(w.heap.size≤k_)∧some k_≠(.slice (some ad292) x5_1.length co12:Value).ownBlock)) (nm HO_7.out) hg hat);replace HL294_0:=ak (Kd.V_afterv (ok:=(fun k_=>(w.heap.size≤k_)∧some k_≠(.slice (some ad292) x5_1.length co12:Value).ownBlock∧ob k_ u7)) (by(with_reducible repeat(first|apply Kd.V_alloc|apply Kd.V_drewN|apply Kd.V_drew));(first|exact Kd.V_mono HL294_0.out (fun _ hk=>⟨⟨hk.1.1.1,⟨hk.1.2,hk.1.1.2⟩⟩,hk.2⟩)|exact Kd.V_mono HL292_0.out (fun _ hk=>hk.1)|exact Kd.V_mono HL292_0.out (fun _ hk=>hk.1.1)|exact Kd.V_mono HL292_0.out (fun _ hk=>hk.1.1.1)|exact Kd.V_mono HL292_0.out (fun _ hk=>hk.1.1.1.1))) hg hat);replace HL292_0:=ak (Kd.V_afterv (ok:=(fun k_=>(w.heap.size≤k_)∧some k_≠(.slice (some ad292) x5_1.length co12:Value).ownBlock∧ob k_ u7)) (vm (Kd.V_mono HL292_0.out (fun _ hk=>⟨⟨hk.1.1.1,⟨hk.1.2,hk.1.1.2⟩⟩,hk.2⟩))) hg hat);replace HB:=ak hb;have HO300:=ak ho;clear HO297;clear ho hb hg hat;obtain⟨Ao24,co24,eo24⟩:=R_slice HO300.out;subst eo24)|((with_reducible refine gate_builtin (b:=.append) (xs:=#[.tmp 36,.tmp 45]) rfl ?_);at_builtin;refine Kd.N_append (Kd.slice 3 (Kd.int .i64)) (w0:=w) w.heap.size rfl (.tmp 36) (.tmp 45) 89 40 (.slice none 0 0) 24 rfl Try.underlying89 info40 rfl (by decide) (by omega) u7 x7_3 y298 [.slice Ao24 y298.length co24] (fun k_=>(w.heap.size≤k_)∧some k_≠(.slice (some ad292) x5_1.length co12:Value).ownBlock) (fun k_=>((fun k_=>(w.heap.size≤k_)∧some k_≠(.slice (some ad292) x5_1.length co12:Value).ownBlock)) k_∧ob k_ u7) rfl rfl ?aP (fun _ hk=>hk) ?aF ?aO ?aB ?aS ?aL ?_;(case aP=>exact(Kd.FK_slice_mk (R_reads' (R_mono (ok':=(fun k_=>((fun k_=>(w.heap.size≤k_)∧some k_≠(.slice (some ad292) x5_1.length co12:Value).ownBlock)) k_∧ob k_ u7)) (R_apart' (R_apart' (HO300.out) (Kd.N_typed HO_5.out) (by decide)) (Kd.N_typed HO_7.out) (by decide)) (fun k_ hk=>⟨⟨hk.1.1,hk.1.2⟩,hk.2⟩))).2.1 (R_F (R_mono (ok':=(fun k_=>((fun k_=>(w.heap.size≤k_)∧some k_≠(.slice (some ad292) x5_1.length co12:Value).ownBlock)) k_∧ob k_ u7)) (R_apart' (R_apart' (HO300.out) (Kd.N_typed HO_5.out) (by decide)) (Kd.N_typed HO_7.out) (by decide)) (fun k_ hk=>⟨⟨hk.1.1,hk.1.2⟩,hk.2⟩)))));(case aB=>exact(hm HB.out));(case aF=>exact(fun k_ hk=>⟨(Nat.le_trans (below_size (hm HB.out)) hk),Kd.fresh' (Kd.N_lt (nm HO_5.out)) k_ hk⟩));(case aO=>exact(nm (Kd.N_mono HO_7.out (fun _ hk=>⟨hk.1.1,hk.1.2⟩))));(case aS=>exact(below_size (hm HB.out)));(case aL=>have:=LMc20.out;omega);intro v302 w23 ho hb hg hat;rw[←Ny301.out]at ho;replace HO_5:=ak (Kd.N_afterv (ok:=(fun k_=>(w.heap.size≤k_)∧ob k_ (.slice Ao24 y298.length co24))) (nm (Kd.N_mono HO_5.out (fun _ hk=>⟨⟨hk.1.1,hk.2⟩,hk.1.2⟩))) hg hat);replace HL294_0:=ak (Kd.V_afterv (ok:=(fun k_=>(w.heap.size≤k_)∧some k_≠(.slice (some ad292) x5_1.length co12:Value).ownBlock∧ob k_ (.slice Ao24 y298.length co24))) (by(with_reducible repeat(first|apply Kd.V_alloc|apply Kd.V_drewN|apply Kd.V_drew));(first|exact Kd.V_mono HL294_0.out (fun _ hk=>⟨⟨hk.1.1,⟨hk.1.2.1,hk.2⟩⟩,hk.1.2.2⟩)|exact Kd.V_mono HL292_0.out (fun _ hk=>hk.1)|exact Kd.V_mono HL292_0.out (fun _ hk=>hk.1.1)|exact Kd.V_mono HL292_0.out (fun _ hk=>hk.1.1.1)|exact Kd.V_mono HL292_0.out (fun _ hk=>hk.1.1.1.1))) hg hat);replace HL292_0:=ak (Kd.V_afterv (ok:=(fun k_=>(w.heap.size≤k_)∧some k_≠(.slice (some ad292) x5_1.length co12:Value).ownBlock∧ob k_ (.slice Ao24 y298.length co24))) (vm (Kd.V_mono HL292_0.out (fun _ hk=>⟨⟨hk.1.1,⟨hk.1.2.1,hk.2⟩⟩,hk.1.2.2⟩))) hg hat);replace HB:=ak hb;have HO303:=ak ho;clear HO_7 HO300;clear ho hb hg hat))
 go_roundg k3
 case measure=>have:=HK1.out;have:=HK2.out;have:=HK3.out;omega
 case rel=>exact⟨(y301),(wrap64 (x9_3+1)),fd,H',⟨by have:=HK1.out;have:=HK2.out;have:=HK3.out;omega⟩,⟨nm (Kd.N_mono HO_5.out (fun _ hk=>⟨hk.1.1,hk.2⟩))⟩,⟨nm HO303.out⟩,⟨hm HB.out⟩⟩
end
end Go.Proofs.Ythagkpoinjpmfaa.QFnReaches
