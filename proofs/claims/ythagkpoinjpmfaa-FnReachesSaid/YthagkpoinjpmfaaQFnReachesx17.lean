/- Functions that the law FnReaches comes to, and their walks: no condition but those named. -/
import Derived.Test.YthagkpoinjpmfaaQFnReachesx0
import Derived.Test.YthagkpoinjpmfaaQFnReachesx1
import Derived.Test.YthagkpoinjpmfaaQFnReachesx2
import Derived.Test.YthagkpoinjpmfaaQFnReachesx3
import Derived.Test.YthagkpoinjpmfaaQFnReachesx4
import Derived.Test.YthagkpoinjpmfaaQFnReachesx5
import Derived.Test.YthagkpoinjpmfaaQFnReachesx8
namespace Go.Proofs.Ythagkpoinjpmfaa.QFnReaches
open Go.RowKit Go.Proofs.YthagkpoinjpmfaaW.PrintWords Go.Proofs.YthagkpoinjpmfaaW.PrintLast Go.Proofs.YthagkpoinjpmfaaW.PrintMore Go.Proofs.Ythagkpoinjpmfaa.Short
attribute [local go_sem] max2_int min2_int max_two min_two max_three min_three max_four min_four
set_option linter.unusedVariables false
set_option linter.unusedSimpArgs false
section
open Kd
mutual
def impl_OrderReach.j0:Nat→List (S63)→List Int→Int→Bool→Int→Bool→Option (Int × Bool)
 | 0,_,_,_,_,_,_=>none
 | k+1,x1,x2,x3,x25,x693000,x693001=>if x25=true then(some (0,false))else(impl_OrderReach.l0 k x1 x2 x3 x2 (x2.length:Int) 0 x693000 x693001)
def impl_OrderReach.l0:Nat→List (S63)→List Int→Int→List Int→Int→Int→Int→Bool→Option (Int × Bool)
 | 0,_,_,_,_,_,_,_,_=>none
 | k+1,x1,x2,x3,x26,x27,x28,x693000,x693001=>if x28<x27 then(if 0≤x28 then(if x28<(x26.length:Int)then(if x28≤(x2.length:Int)then((slices_Contains_int_int.f k (x2.take (x28:Int).toNat) (rd x26 x28)).bind fun t700=>(if t700=true then(some (0,false))else(impl_OrderReach.l0 k x1 x2 x3 x26 x27 (wrap64 (x28+1)) x693000 x693001)))else(none))else(none))else(none))else((impl_Road_orderReach.f k x693000 x693001 x1 x2 x3).bind fun t701=>(some (t701,true)))
end
def impl_OrderReach.f (k:Nat) (a0_0:Int) (a0_1:Bool) (l1:List (S63)) (l2:List Int) (a3:Int):Option (Int × Bool):=(impl_isCarried.f k a0_0 a0_1 l1 (([a3]:List Int))).bind fun t696=>(if t696=true then((impl_allWithin.f k l2 0 (wrap64 ((l1.length:Int)-1))).bind fun t697=>(impl_OrderReach.j0 k l1 l2 a3 (!t697) a0_0 a0_1))else(impl_OrderReach.j0 k l1 l2 a3 true a0_0 a0_1))
theorem impl_OrderReach.mono_l:∀ k,(∀ y0 y1 y2 y3 y4 y5,LeO (impl_OrderReach.j0 k y0 y1 y2 y3 y4 y5) (impl_OrderReach.j0 (k+1) y0 y1 y2 y3 y4 y5))∧(∀ y0 y1 y2 y3 y4 y5 y6 y7,LeO (impl_OrderReach.l0 k y0 y1 y2 y3 y4 y5 y6 y7) (impl_OrderReach.l0 (k+1) y0 y1 y2 y3 y4 y5 y6 y7))
 | 0=>by
  refine⟨?_,?_⟩<;>(intros;intro r h;simp[impl_OrderReach.j0,impl_OrderReach.l0]at h)
 | k+1=>by
  obtain⟨ih0,ih1⟩:=impl_OrderReach.mono_l k
  refine⟨?_,?_⟩<;>intros<;>(first|unfold impl_OrderReach.j0|unfold impl_OrderReach.l0)<;>(repeat' (with_reducible first|exact ih0 ..|exact ih1 ..|exact impl_Road_orderReach.mono ..|exact impl_allWithin.mono ..|exact impl_isCarried.mono ..|exact slices_Contains_int_int.mono ..|exact LeO.refl _|exact LeO.none _|refine LeO.ite ?_ ?_|refine LeO.bind ?_ (fun _=>?_)))
theorem impl_OrderReach.mono:∀ a0 a1 a2 a3 a4 k,LeO (impl_OrderReach.f k a0 a1 a2 a3 a4) (impl_OrderReach.f (k+1) a0 a1 a2 a3 a4):=by
 intro a0 a1 a2 a3 a4 k
 obtain⟨ih0,ih1⟩:=impl_OrderReach.mono_l k
 unfold impl_OrderReach.f
 repeat' (with_reducible first|exact ih0 ..|exact ih1 ..|exact impl_Road_orderReach.mono ..|exact impl_allWithin.mono ..|exact impl_isCarried.mono ..|exact slices_Contains_int_int.mono ..|exact LeO.refl _|exact LeO.none _|refine LeO.ite ?_ ?_|refine LeO.bind ?_ (fun _=>?_))
set_option maxHeartbeats 8000000 in
set_option maxRecDepth 100000 in
theorem impl_OrderReach.calls (k:Nat) (a0_0:Int) (a0_1:Bool) (A1:Option Addr) (c1:Nat) (l1:List (S63)) (A2:Option Addr) (c2:Nat) (l2:List Int) (a3:Int) (r1:Int) (r2:Bool) (w:World) (hr1:Kd.C k63 w A1 l1.length l1) (hc1:l1.length≤c1) (hr2:Kd.C (Kd.int .i64) w A2 l2.length l2) (hc2:l2.length≤c2) (h:impl_OrderReach.f k a0_0 a0_1 l1 l2 a3=some (r1,r2)):
  Calls Try.prog 42 #[.agg #[.int .i64 a0_0,.bool a0_1],.slice A1 l1.length c1,.slice A2 l2.length c2,.int .i64 a3] w fun e w'=>e= .returned (.tuple #[.int .i64 r1,.bool r2])∧Below w.heap.size w w':=by
 have hu28:=Try.underlying28
 have HR1:=Aside0.mk hr1
 have HC1:=Aside0.mk hc1
 clear hr1 hc1
 have HR2:=Aside0.mk hr2
 have HC2:=Aside0.mk hc2
 clear hr2 hc2
 have HB:=Aside0.mk (Below.refl w.heap.size w)
 unfold impl_OrderReach.f at h
 have H:=h
 clear h
 have HC5:=Aside0.mk H
 clear H
 go_enter Try.func42,Try.ntmps42
 go_upto_region 1 with(first|((with_reducible refine gate_dst (N:=4) rfl ?_);(try(refine gate_guard (by rfl) ?_;dsimp only));refine box_event ?hg (N:=4) ?hd (cs:=#[.int .i64 a0_0,.bool a0_1]) (t:=28) ?hr ?_;(case hd=>rfl);(case hg=>rfl);(case hr=>first|(go_simp;done)|(go_simp;rfl));intro gb692 hg w6 hbox hb;have BK692:=ak hbox;have GW692:=gw HB hg;have GE692:=gw HB hg;replace HB:=bs HB hb;clear hb hbox hg))
 (try simp only[ap])
 go_cut [25] (fun v25 wc=>∃ (kq:Nat) (x25_4:Bool),v25= .bool x25_4∧Aside0 (impl_OrderReach.j0 kq l1 l2 a3 x25_4 a0_0 a0_1=some (r1,r2))∧Aside0 (kq≤k)∧Aside0 (wc.heap[gb692]? =some (.cells #[.int .i64 a0_0,.bool a0_1] 28 (0,0)))∧Aside0 (Below w.heap.size w wc))
 case first=>
  have H:=HC5.out
  clear HC5
  generalize hy693: ([a3]:List Int)=y693 at H
  have Ny693:=ak hy693.symm
  clear hy693
  obtain⟨t696,A7,H⟩:=bd H;(try dsimp only at H)
  by_cases c8:t696=true
  rotate_left
  ·replace c8:=Bool.eq_false_iff.mpr c8
   subst c8
   rw[if_neg (show ¬(false=true)by decide)]at H
   have H':=Aside0.mk H
   clear H
   have hcz15_0:=bc BK692 0 rfl
   have hcz15_1:=bc BK692 1 rfl
   have hfz15_0:=bf BK692 0
   have hfz15_1:=bf BK692 1
   go_wp2_with (first|((with_reducible refine gate_dst (N:=15) rfl ?_);(try(refine gate_guard (by rfl) ?_;dsimp only));refine R_lit (Kd.int .i64) _ 3 ?hg (N:=15) ?hd (xs:=([a3]:List Int)) (inner:=[.int .i64 a3]) (ok:=fun _=>True) (okp:=fun _=>True) ?hr ?hp (fun _ hk=>hk) trivial (Below.refl _ _) (Nat.le_refl _) (by simp) ?_;(case hd=>rfl);(case hg=>rfl);(case hr=>first|(go_simp;done)|(go_simp;rfl));(case hp=>exact(Reps.one (show Kd.M (Kd.int .i64) _ _ _ a3 [.int .i64 a3]from rfl) (Reps.none _ _)));intro v694 w16 ho17 hb hg_ hnew_;clear hg_ hnew_;(first|rw[←Ny693.out]at ho17|(simp only[Int.reduceToNat]at ho17;rw[←Ny693.out]at ho17));have HO695:=ak (R_lower ho17 (below_size (h1 HB.out GE692.out)));replace BK692:=kb BK692 hb;replace HB:=ak (below_step (h1 HB.out GE692.out) hb);clear hb ho17;obtain⟨Ao18,co18,eo18⟩:=R_slice HO695.out;subst eo18)|(refine gs 16 Try.func63 #[.agg #[.int .i64 a0_0,.bool a0_1],.slice A1 l1.length c1,.slice Ao18 y693.length co18] ?_;(with_reducible refine(impl_isCarried.calls k a0_0 a0_1 _ _ l1 _ _ y693 false _ ?side1 ?side2 ?side3 ?side4 A7.out).mono ?_);(case side1=>exact cm (C_below HR1.out HB.out));(case side2=>exact HC1.out);(case side3=>exact cm (R_reads' HO695.out).2.2);(case side4=>exact(R_reads' HO695.out).2.1);rintro e w19 ⟨rfl,hb⟩;refine⟨_,rfl,?_⟩;replace HO695:=rb HO695 hb;replace BK692:=kb BK692 hb;replace HB:=ak (below_step (h1 HB.out GE692.out) hb);(try clear hb);(try clear hk);(try clear hi)))
   go_meet
   case rel=>exact⟨_,(true),fd,H',⟨by first|exact Nat.le_refl _|omega⟩,⟨bm BK692.out⟩,⟨h1 HB.out GE692.out⟩⟩
  subst c8
  rw[if_pos rfl]at H
  obtain⟨t697,A9,H⟩:=bd H;(try dsimp only at H)
  have H':=Aside0.mk H
  clear H
  have hcz10_0:=bc BK692 0 rfl
  have hcz10_1:=bc BK692 1 rfl
  have hfz10_0:=bf BK692 0
  have hfz10_1:=bf BK692 1
  go_wp2_with (first|((with_reducible refine gate_dst (N:=15) rfl ?_);(try(refine gate_guard (by rfl) ?_;dsimp only));refine R_lit (Kd.int .i64) _ 3 ?hg (N:=15) ?hd (xs:=([a3]:List Int)) (inner:=[.int .i64 a3]) (ok:=fun _=>True) (okp:=fun _=>True) ?hr ?hp (fun _ hk=>hk) trivial (Below.refl _ _) (Nat.le_refl _) (by simp) ?_;(case hd=>rfl);(case hg=>rfl);(case hr=>first|(go_simp;done)|(go_simp;rfl));(case hp=>exact(Reps.one (show Kd.M (Kd.int .i64) _ _ _ a3 [.int .i64 a3]from rfl) (Reps.none _ _)));intro v694 w11 ho12 hb hg_ hnew_;clear hg_ hnew_;(first|rw[←Ny693.out]at ho12|(simp only[Int.reduceToNat]at ho12;rw[←Ny693.out]at ho12));have HO695:=ak (R_lower ho12 (below_size (h1 HB.out GE692.out)));replace BK692:=kb BK692 hb;replace HB:=ak (below_step (h1 HB.out GE692.out) hb);clear hb ho12;obtain⟨Ao13,co13,eo13⟩:=R_slice HO695.out;subst eo13)|(refine gs 16 Try.func63 #[.agg #[.int .i64 a0_0,.bool a0_1],.slice A1 l1.length c1,.slice Ao13 y693.length co13] ?_;(with_reducible refine(impl_isCarried.calls k a0_0 a0_1 _ _ l1 _ _ y693 true _ ?side1 ?side2 ?side3 ?side4 A7.out).mono ?_);(case side1=>exact cm (C_below HR1.out HB.out));(case side2=>exact HC1.out);(case side3=>exact cm (R_reads' HO695.out).2.2);(case side4=>exact(R_reads' HO695.out).2.1);rintro e w14 ⟨rfl,hb⟩;refine⟨_,rfl,?_⟩;replace HO695:=rb HO695 hb;replace BK692:=kb BK692 hb;replace HB:=ak (below_step (h1 HB.out GE692.out) hb);(try clear hb);(try clear hk);(try clear hi))|(go_at_call 83;(try simp only[Go.IntWalk.i64_left]);(with_reducible refine(impl_allWithin.calls k _ _ l2 0 (wrap64 ((l1.length:Int)-1)) t697 _ ?side1 ?side2 A9.out).mono ?_);(case side1=>exact cm (C_below HR2.out HB.out));(case side2=>exact HC2.out);rintro e w' ⟨rfl,⟨nd,rfl⟩⟩))
  go_meet
  case rel=>exact⟨_,(!t697),fd,H',⟨by first|exact Nat.le_refl _|omega⟩,⟨bm BK692.out⟩,⟨h1 HB.out GE692.out⟩⟩
 clear HC5
 try clear c1
 try clear c2
 try clear p2
 try clear c4
 try clear c6
 try clear p6
 try clear c8
 try clear hcz10_0
 try clear hcz10_1
 try clear hcz15_0
 try clear hcz15_1
 try clear hfz10_0
 try clear hfz10_1
 try clear hfz15_0
 try clear hfz15_1
 obtain⟨kq,x25_4,rfl,HA,HJ4,BK692,HB⟩:=hcut
 obtain _|kj4:=kq;·cases HA.out
 obtain⟨H⟩:=HA
 simp only[impl_OrderReach.j0]at H
 by_cases c20:x25_4=true
 ·subst c20
  rw[if_pos rfl]at H
  simp only[Option.some.injEq,Prod.mk.injEq]at H
  obtain⟨rfl,rfl⟩:=H
  go_wp2
  go_ret2
  exact⟨fe,h1 HB.out GE692.out⟩
 replace c20:=Bool.eq_false_iff.mpr c20
 subst c20
 rw[if_neg (show ¬(false=true)by decide)]at H
 have H':=Aside0.mk H
 clear H
 go_wp2
 go_loopg [28] kj4 (fun kq v28 w'=>∃ (x28_2:Int),v28= .int .i64 x28_2∧Aside0 (impl_OrderReach.l0 kq l1 l2 a3 l2 (l2.length:Int) x28_2 a0_0 a0_1=some (r1,r2))∧Aside0 (kq≤kj4)∧Aside0 (w'.heap[gb692]? =some (.cells #[.int .i64 a0_0,.bool a0_1] 28 (0,0)))∧Aside0 (Below w.heap.size w w'))
 case atStart=>exact⟨(0),fd,H',⟨Nat.le_refl _⟩,⟨bm BK692.out⟩,⟨h1 HB.out GE692.out⟩⟩
 clear H'
 try clear c1
 try clear c2
 try clear p2
 try clear c4
 try clear c6
 try clear p6
 try clear c8
 try clear c20
 try clear hcz10_0
 try clear hcz10_1
 try clear hcz15_0
 try clear hcz15_1
 try clear hfz10_0
 try clear hfz10_1
 try clear hfz15_0
 try clear hfz15_1
 try clear p2
 try clear p6
 obtain⟨x28_2,rfl,HA,HK2,BK692,HB⟩:=hrel
 obtain _|k2:=gk;·cases HA.out
 obtain⟨H⟩:=HA
 simp only[impl_OrderReach.l0]at H
 by_cases c21:x28_2<(l2.length:Int)
 rotate_left
 ·rw[if_neg c21]at H
  have c21b0:decide (x28_2<(l2.length:Int))=false:=decide_eq_false c21
  clear c21
  obtain⟨t701,A30,H⟩:=bd H;(try dsimp only at H)
  simp only[Option.some.injEq,Prod.mk.injEq]at H
  obtain⟨rfl,rfl⟩:=H
  have hcz31_0:=bc BK692 0 rfl
  have hcz31_1:=bc BK692 1 rfl
  have hfz31_0:=bf BK692 0
  have hfz31_1:=bf BK692 1
  go_wp2_with (first|(refine gs 43 Try.func85 #[.agg #[.int .i64 a0_0,.bool a0_1],.slice A1 l1.length c1,.slice A2 l2.length c2,.int .i64 a3] ?_;(with_reducible refine(impl_Road_orderReach.calls k2 a0_0 a0_1 _ _ l1 _ _ l2 a3 t701 _ ?side1 ?side2 ?side3 ?side4 A30.out).mono ?_);(case side1=>exact cm (C_below HR1.out HB.out));(case side2=>exact HC1.out);(case side3=>exact cm (C_below HR2.out HB.out));(case side4=>exact HC2.out);rintro e w32 ⟨rfl,hb⟩;refine⟨_,rfl,?_⟩;replace BK692:=kb BK692 hb;replace HB:=ak (below_step (h1 HB.out GE692.out) hb);(try clear hb);(try clear hk);(try clear hi)))
  go_ret2
  exact⟨fe,h1 HB.out GE692.out⟩
 rw[if_pos c21]at H
 have c21b0:decide (x28_2<(l2.length:Int))=true:=decide_eq_true c21
 clear c21
 obtain⟨c22,H⟩:=gi H
 have c22b0:decide (0≤x28_2)=true:=decide_eq_true c22
 clear c22
 obtain⟨c23,H⟩:=gi H
 have c23b0:decide (x28_2<(l2.length:Int))=true:=decide_eq_true c23
 clear c23
 have c24b0:=eq_true (od:0≤x28_2)
 obtain⟨c25,H⟩:=gi H
 have c25b0:=eq_true c25
 have c25b1:decide (x28_2≤(l2.length:Int))=true:=decide_eq_true c25
 clear c25
 obtain⟨t700,A26,H⟩:=bd H;(try dsimp only at H)
 by_cases c27:t700=true
 ·subst c27
  rw[if_pos rfl]at H
  simp only[Option.some.injEq,Prod.mk.injEq]at H
  obtain⟨rfl,rfl⟩:=H
  have p698:0≤(x28_2:Int):=od
  have q698:x28_2<(l2.length:Int):=od
  obtain⟨ad698,e698,hx698_0⟩:=Kd.at_int HR2.out x28_2 p698 q698
  cases e698
  replace hx698_0:=hc HB hx698_0
  replace p698:=eq_true p698
  replace q698:=eq_true q698
  obtain⟨i028,hi028,_,hsz28,_⟩:=info_parts info3
  obtain⟨hcut28,hA28,hC28⟩:=print_take_of (P:=Try.prog) (Value.int .i64) 0 40 3 .i64 Try.underlying40 hi028 hsz28 (some ad698) c2 l2 x28_2 (od) (od) HC2.out
  have HR699:=Aside0.mk (C_of_reads (h1:=fun _=>rfl) (hA28 _ (Kd.reads_of_C HR2.out)))
  have HC699:=Aside0.mk hC28
  clear hA28 hC28 hi028 hsz28
  go_wp2_with (first|((with_reducible refine gate_callee (f:=84) rfl ?_);refine goesL_ (some 37) rfl rfl Try.func84 (by kernel_rfl) rfl #[.slice (some ad698) (l2.take (x28_2:Int).toNat).length c2,.int .i64 (rd l2 x28_2)] rfl (by(try simp only[List.map_toArray,List.map_cons,List.map_nil]);first|done|(rw[show(l2.take (x28_2:Int).toNat).length=x28_2.toNat from(by rw[List.length_take];have h_: (x28_2:Int)≤(l2.length:Int):=od;omega)]<;>rfl)|rfl|(simp only[List.length_drop,List.length_take];rfl)) ?_;(with_reducible refine(slices_Contains_int_int.calls k2 _ _ (l2.take (x28_2:Int).toNat) (rd l2 x28_2) true _ ?side1 ?side2 A26.out).mono ?_);(case side1=>exact cm (C_below HR699.out HB.out));(case side2=>exact HC699.out);rintro e w' ⟨rfl,⟨nd,rfl⟩⟩;refine⟨_,rfl,?_⟩))
  go_ret2
  exact⟨fe,h1 HB.out GE692.out⟩
 replace c27:=Bool.eq_false_iff.mpr c27
 subst c27
 rw[if_neg (show ¬(false=true)by decide)]at H
 have H':=Aside0.mk H
 clear H
 have p698:0≤(x28_2:Int):=od
 have q698:x28_2<(l2.length:Int):=od
 obtain⟨ad698,e698,hx698_0⟩:=Kd.at_int HR2.out x28_2 p698 q698
 cases e698
 replace hx698_0:=hc HB hx698_0
 replace p698:=eq_true p698
 replace q698:=eq_true q698
 obtain⟨i029,hi029,_,hsz29,_⟩:=info_parts info3
 obtain⟨hcut29,hA29,hC29⟩:=print_take_of (P:=Try.prog) (Value.int .i64) 0 40 3 .i64 Try.underlying40 hi029 hsz29 (some ad698) c2 l2 x28_2 (od) (od) HC2.out
 have HR699:=Aside0.mk (C_of_reads (h1:=fun _=>rfl) (hA29 _ (Kd.reads_of_C HR2.out)))
 have HC699:=Aside0.mk hC29
 clear hA29 hC29 hi029 hsz29
 go_wp2_with (first|((with_reducible refine gate_callee (f:=84) rfl ?_);refine goesL_ (some 37) rfl rfl Try.func84 (by kernel_rfl) rfl #[.slice (some ad698) (l2.take (x28_2:Int).toNat).length c2,.int .i64 (rd l2 x28_2)] rfl (by(try simp only[List.map_toArray,List.map_cons,List.map_nil]);first|done|(rw[show(l2.take (x28_2:Int).toNat).length=x28_2.toNat from(by rw[List.length_take];have h_: (x28_2:Int)≤(l2.length:Int):=od;omega)]<;>rfl)|rfl|(simp only[List.length_drop,List.length_take];rfl)) ?_;(with_reducible refine(slices_Contains_int_int.calls k2 _ _ (l2.take (x28_2:Int).toNat) (rd l2 x28_2) false _ ?side1 ?side2 A26.out).mono ?_);(case side1=>exact cm (C_below HR699.out HB.out));(case side2=>exact HC699.out);rintro e w' ⟨rfl,⟨nd,rfl⟩⟩;refine⟨_,rfl,?_⟩))
 go_roundg k2
 case measure=>have:=HJ4.out;have:=HK2.out;omega
 case rel=>exact⟨(wrap64 (x28_2+1)),fd,H',⟨by have:=HJ4.out;have:=HK2.out;omega⟩,⟨bm BK692.out⟩,⟨h1 HB.out GE692.out⟩⟩
def spec_l7Order.l0:Nat→Int→List Int→Int→Option (Bool)
 | 0,_,_,_=>none
 | k+1,x0,x1,x5=>if x5<(x1.length:Int)then(if 0≤x5 then((spec_l1In.f (rd x1 x5) 0 (wrap64 (x0-1))).bind fun t703=>(if t703=true then(if x5≤(x1.length:Int)then((spec_l1Has.f k (x1.take (x5:Int).toNat) (rd x1 x5)).bind fun t706=>(if t706=true then(some false)else(spec_l7Order.l0 k x0 x1 (wrap64 (x5+1)))))else(none))else(some false)))else(none))else(some true)
def spec_l7Order.f (k:Nat) (a0:Int) (l1:List Int):Option (Bool):=spec_l7Order.l0 k a0 l1 0
theorem spec_l7Order.mono_l:∀ k,(∀ y0 y1 y2,LeO (spec_l7Order.l0 k y0 y1 y2) (spec_l7Order.l0 (k+1) y0 y1 y2))
 | 0=>by
  refine ?_<;>(intros;intro r h;simp[spec_l7Order.l0]at h)
 | k+1=>by
  have ih0:=spec_l7Order.mono_l k
  refine ?_<;>intros<;>unfold spec_l7Order.l0<;>(repeat' (with_reducible first|exact ih0 ..|exact spec_l1Has.mono ..|exact LeO.refl _|exact LeO.none _|refine LeO.ite ?_ ?_|refine LeO.bind ?_ (fun _=>?_)))
theorem spec_l7Order.mono:∀ a0 a1 k,LeO (spec_l7Order.f k a0 a1) (spec_l7Order.f (k+1) a0 a1):=by
 intro a0 a1 k
 have ih0:=spec_l7Order.mono_l k
 unfold spec_l7Order.f
 repeat' (with_reducible first|exact ih0 ..|exact spec_l1Has.mono ..|exact LeO.refl _|exact LeO.none _|refine LeO.ite ?_ ?_|refine LeO.bind ?_ (fun _=>?_))
set_option maxHeartbeats 8000000 in
set_option maxRecDepth 100000 in
theorem spec_l7Order.calls (k:Nat) (a0:Int) (A1:Option Addr) (c1:Nat) (l1:List Int) (r:Bool) (w:World) (hr1:Kd.C (Kd.int .i64) w A1 l1.length l1) (hc1:l1.length≤c1) (h:spec_l7Order.f k a0 l1=some r):
  Calls Try.prog 86 #[.int .i64 a0,.slice A1 l1.length c1] w fun e w'=>e= .returned (.bool r)∧Drawn0 w w':=by
 have HR1:=Aside0.mk hr1
 have HC1:=Aside0.mk hc1
 clear hr1 hc1
 unfold spec_l7Order.f at h
 have H:=h
 clear h
 have H':=Aside0.mk H
 clear H
 go_enter Try.func86,Try.ntmps86
 go_wp2
 repeat(go_quiet (fail);try go_wp2)
 go_loopg [5] k (fun kq v5 w'=>∃ (x5_1:Int),v5= .int .i64 x5_1∧Aside0 (spec_l7Order.l0 kq a0 l1 x5_1=some r)∧Aside0 (kq≤k)∧Drawn0 w w')
 case atStart=>exact⟨(0),fd,H',⟨Nat.le_refl _⟩,by repeat(first|exact Drawn0.refl _|apply Drawn0.step)⟩
 clear H'
 try clear c1
 try clear p2
 obtain⟨x5_1,rfl,HA,HK1,⟨m1,rfl⟩⟩:=hrel
 obtain _|k1:=gk;·cases HA.out
 obtain⟨H⟩:=HA
 simp only[spec_l7Order.l0]at H
 by_cases c3:x5_1<(l1.length:Int)
 rotate_left
 ·rw[if_neg c3]at H
  have c3b0:decide (x5_1<(l1.length:Int))=false:=decide_eq_false c3
  clear c3
  obtain rfl:=Option.some.inj H
  go_wp2
  repeat(go_quiet (fail);try go_wp2)
  go_ret
  exact⟨by first|rfl|(simp;done)|(simp[*];done),by repeat(first|exact Drawn0.refl _|apply Drawn0.step)⟩
 rw[if_pos c3]at H
 have c3b0:decide (x5_1<(l1.length:Int))=true:=decide_eq_true c3
 clear c3
 obtain⟨c4,H⟩:=gi H
 have c4b0:decide (0≤x5_1)=true:=decide_eq_true c4
 clear c4
 obtain⟨t703,A5,H⟩:=bd H;(try dsimp only at H)
 by_cases c6:t703=true
 rotate_left
 ·replace c6:=Bool.eq_false_iff.mpr c6
  subst c6
  rw[if_neg (show ¬(false=true)by decide)]at H
  obtain rfl:=Option.some.inj H
  have p702:0≤(x5_1:Int):=od
  have q702:x5_1<(l1.length:Int):=od
  obtain⟨ad702,e702,hx702_0⟩:=Kd.at_int HR1.out x5_1 p702 q702
  cases e702
  replace p702:=eq_true p702
  replace q702:=eq_true q702
  have go_:=trivial;repeat((first|clear go_|go_quiet (first|(go_at_call 100;(try simp only[Go.IntWalk.i64_left]);(with_reducible refine(spec_l1In.calls (rd l1 x5_1) 0 (wrap64 (a0-1)) false _ A5.out).mono ?_);rintro e w' ⟨rfl,⟨nd,rfl⟩⟩;(try first|exact⟨rfl,_,World.drewN_drewN _ _ _⟩|exact⟨rfl,_,Eq.trans (World.drewN_drewN _ _ _) (congrArg (World.drewN _) (Nat.add_assoc _ _ _))⟩))));try go_wp2_with (first|(go_at_call 100;(try simp only[Go.IntWalk.i64_left]);(with_reducible refine(spec_l1In.calls (rd l1 x5_1) 0 (wrap64 (a0-1)) false _ A5.out).mono ?_);rintro e w' ⟨rfl,⟨nd,rfl⟩⟩;(try first|exact⟨rfl,_,World.drewN_drewN _ _ _⟩|exact⟨rfl,_,Eq.trans (World.drewN_drewN _ _ _) (congrArg (World.drewN _) (Nat.add_assoc _ _ _))⟩))))
  go_ret
  exact⟨by first|rfl|(simp;done)|(simp[*];done),by repeat(first|exact Drawn0.refl _|apply Drawn0.step)⟩
 subst c6
 rw[if_pos rfl]at H
 have c7b0:=eq_true (od:0≤x5_1)
 obtain⟨c8,H⟩:=gi H
 have c8b0:=eq_true c8
 have c8b1:decide (x5_1≤(l1.length:Int))=true:=decide_eq_true c8
 clear c8
 obtain⟨t706,A9,H⟩:=bd H;(try dsimp only at H)
 by_cases c10:t706=true
 ·subst c10
  rw[if_pos rfl]at H
  obtain rfl:=Option.some.inj H
  have p702:0≤(x5_1:Int):=od
  have q702:x5_1<(l1.length:Int):=od
  obtain⟨ad702,e702,hx702_0⟩:=Kd.at_int HR1.out x5_1 p702 q702
  cases e702
  replace p702:=eq_true p702
  replace q702:=eq_true q702
  have go_:=trivial;repeat((first|clear go_|go_quiet (first|(go_at_call 100;(try simp only[Go.IntWalk.i64_left]);(with_reducible refine(spec_l1In.calls (rd l1 x5_1) 0 (wrap64 (a0-1)) true _ A5.out).mono ?_);rintro e w' ⟨rfl,⟨nd,rfl⟩⟩;(try first|exact⟨rfl,_,World.drewN_drewN _ _ _⟩|exact⟨rfl,_,Eq.trans (World.drewN_drewN _ _ _) (congrArg (World.drewN _) (Nat.add_assoc _ _ _))⟩);obtain⟨i011,hi011,_,hsz11,_⟩:=info_parts info3;obtain⟨hcut11,hA11,hC11⟩:=print_take_of (P:=Try.prog) (Value.int .i64) 0 40 3 .i64 Try.underlying40 hi011 hsz11 (some ad702) c1 l1 x5_1 (od) (od) HC1.out;have HR704:=Aside0.mk (C_of_reads (h1:=fun _=>rfl) (hA11 _ (Kd.reads_of_C HR1.out)));have HC704:=Aside0.mk hC11;clear hA11 hC11 hi011 hsz11;have p705:0≤(x5_1:Int):=od;have q705:x5_1<(l1.length:Int):=od;obtain⟨ad705,e705,hx705_0⟩:=Kd.at_int HR1.out x5_1 p705 q705;obtain rfl:ad702=ad705:=(by injection e705);replace p705:=eq_true p705;replace q705:=eq_true q705)|(go_at_call 102;obtain⟨i011,hi011,_,hsz11,_⟩:=info_parts info3;obtain⟨hcut11,hA11,hC11⟩:=print_take_of (P:=Try.prog) (Value.int .i64) 0 40 3 .i64 Try.underlying40 hi011 hsz11 (some ad702) c1 l1 x5_1 (od) (od) HC1.out;have HR704:=Aside0.mk (C_of_reads (h1:=fun _=>rfl) (hA11 _ (Kd.reads_of_C HR1.out)));have HC704:=Aside0.mk hC11;clear hA11 hC11 hi011 hsz11;have hle_: (x5_1:Int).toNat≤l1.length:=Int.toNat_le.mpr (Int.le_of_lt (of_decide_eq_true c3b0));rw[((List.length_take (i:=(x5_1:Int).toNat) (l:=l1)).trans (Nat.min_eq_left hle_)).symm];(with_reducible refine(spec_l1Has.calls k1 _ _ (l1.take (x5_1:Int).toNat) (rd l1 x5_1) true _ ?side1 ?side2 A9.out).mono ?_);(case side1=>repeat(first|exact HR704.out|(with_reducible refine C_alloc ?_ _)|(with_reducible refine C_drewN ?_ _)|(with_reducible refine C_drew ?_)));(case side2=>exact HC704.out);rintro e w' ⟨rfl,⟨nd,rfl⟩⟩;(try first|exact⟨rfl,_,World.drewN_drewN _ _ _⟩|exact⟨rfl,_,Eq.trans (World.drewN_drewN _ _ _) (congrArg (World.drewN _) (Nat.add_assoc _ _ _))⟩))));try go_wp2_with (first|(go_at_call 100;(try simp only[Go.IntWalk.i64_left]);(with_reducible refine(spec_l1In.calls (rd l1 x5_1) 0 (wrap64 (a0-1)) true _ A5.out).mono ?_);rintro e w' ⟨rfl,⟨nd,rfl⟩⟩;(try first|exact⟨rfl,_,World.drewN_drewN _ _ _⟩|exact⟨rfl,_,Eq.trans (World.drewN_drewN _ _ _) (congrArg (World.drewN _) (Nat.add_assoc _ _ _))⟩);obtain⟨i011,hi011,_,hsz11,_⟩:=info_parts info3;obtain⟨hcut11,hA11,hC11⟩:=print_take_of (P:=Try.prog) (Value.int .i64) 0 40 3 .i64 Try.underlying40 hi011 hsz11 (some ad702) c1 l1 x5_1 (od) (od) HC1.out;have HR704:=Aside0.mk (C_of_reads (h1:=fun _=>rfl) (hA11 _ (Kd.reads_of_C HR1.out)));have HC704:=Aside0.mk hC11;clear hA11 hC11 hi011 hsz11;have p705:0≤(x5_1:Int):=od;have q705:x5_1<(l1.length:Int):=od;obtain⟨ad705,e705,hx705_0⟩:=Kd.at_int HR1.out x5_1 p705 q705;obtain rfl:ad702=ad705:=(by injection e705);replace p705:=eq_true p705;replace q705:=eq_true q705)|(go_at_call 102;obtain⟨i011,hi011,_,hsz11,_⟩:=info_parts info3;obtain⟨hcut11,hA11,hC11⟩:=print_take_of (P:=Try.prog) (Value.int .i64) 0 40 3 .i64 Try.underlying40 hi011 hsz11 (some ad702) c1 l1 x5_1 (od) (od) HC1.out;have HR704:=Aside0.mk (C_of_reads (h1:=fun _=>rfl) (hA11 _ (Kd.reads_of_C HR1.out)));have HC704:=Aside0.mk hC11;clear hA11 hC11 hi011 hsz11;have hle_: (x5_1:Int).toNat≤l1.length:=Int.toNat_le.mpr (Int.le_of_lt (of_decide_eq_true c3b0));rw[((List.length_take (i:=(x5_1:Int).toNat) (l:=l1)).trans (Nat.min_eq_left hle_)).symm];(with_reducible refine(spec_l1Has.calls k1 _ _ (l1.take (x5_1:Int).toNat) (rd l1 x5_1) true _ ?side1 ?side2 A9.out).mono ?_);(case side1=>repeat(first|exact HR704.out|(with_reducible refine C_alloc ?_ _)|(with_reducible refine C_drewN ?_ _)|(with_reducible refine C_drew ?_)));(case side2=>exact HC704.out);rintro e w' ⟨rfl,⟨nd,rfl⟩⟩;(try first|exact⟨rfl,_,World.drewN_drewN _ _ _⟩|exact⟨rfl,_,Eq.trans (World.drewN_drewN _ _ _) (congrArg (World.drewN _) (Nat.add_assoc _ _ _))⟩))))
  go_ret
  exact⟨by first|rfl|(simp;done)|(simp[*];done),by repeat(first|exact Drawn0.refl _|apply Drawn0.step)⟩
 replace c10:=Bool.eq_false_iff.mpr c10
 subst c10
 rw[if_neg (show ¬(false=true)by decide)]at H
 have H':=Aside0.mk H
 clear H
 have p702:0≤(x5_1:Int):=od
 have q702:x5_1<(l1.length:Int):=od
 obtain⟨ad702,e702,hx702_0⟩:=Kd.at_int HR1.out x5_1 p702 q702
 cases e702
 replace p702:=eq_true p702
 replace q702:=eq_true q702
 have go_:=trivial;repeat((first|clear go_|go_quiet (first|(go_at_call 100;(try simp only[Go.IntWalk.i64_left]);(with_reducible refine(spec_l1In.calls (rd l1 x5_1) 0 (wrap64 (a0-1)) true _ A5.out).mono ?_);rintro e w' ⟨rfl,⟨nd,rfl⟩⟩;(try first|exact⟨rfl,_,World.drewN_drewN _ _ _⟩|exact⟨rfl,_,Eq.trans (World.drewN_drewN _ _ _) (congrArg (World.drewN _) (Nat.add_assoc _ _ _))⟩);obtain⟨i012,hi012,_,hsz12,_⟩:=info_parts info3;obtain⟨hcut12,hA12,hC12⟩:=print_take_of (P:=Try.prog) (Value.int .i64) 0 40 3 .i64 Try.underlying40 hi012 hsz12 (some ad702) c1 l1 x5_1 (od) (od) HC1.out;have HR704:=Aside0.mk (C_of_reads (h1:=fun _=>rfl) (hA12 _ (Kd.reads_of_C HR1.out)));have HC704:=Aside0.mk hC12;clear hA12 hC12 hi012 hsz12;have p705:0≤(x5_1:Int):=od;have q705:x5_1<(l1.length:Int):=od;obtain⟨ad705,e705,hx705_0⟩:=Kd.at_int HR1.out x5_1 p705 q705;obtain rfl:ad702=ad705:=(by injection e705);replace p705:=eq_true p705;replace q705:=eq_true q705)|(go_at_call 102;obtain⟨i011,hi011,_,hsz11,_⟩:=info_parts info3;obtain⟨hcut11,hA11,hC11⟩:=print_take_of (P:=Try.prog) (Value.int .i64) 0 40 3 .i64 Try.underlying40 hi011 hsz11 (some ad702) c1 l1 x5_1 (od) (od) HC1.out;have HR704:=Aside0.mk (C_of_reads (h1:=fun _=>rfl) (hA11 _ (Kd.reads_of_C HR1.out)));have HC704:=Aside0.mk hC11;clear hA11 hC11 hi011 hsz11;have hle_: (x5_1:Int).toNat≤l1.length:=Int.toNat_le.mpr (Int.le_of_lt (of_decide_eq_true c3b0));rw[((List.length_take (i:=(x5_1:Int).toNat) (l:=l1)).trans (Nat.min_eq_left hle_)).symm];(with_reducible refine(spec_l1Has.calls k1 _ _ (l1.take (x5_1:Int).toNat) (rd l1 x5_1) false _ ?side1 ?side2 A9.out).mono ?_);(case side1=>repeat(first|exact HR704.out|(with_reducible refine C_alloc ?_ _)|(with_reducible refine C_drewN ?_ _)|(with_reducible refine C_drew ?_)));(case side2=>exact HC704.out);rintro e w' ⟨rfl,⟨nd,rfl⟩⟩;(try first|exact⟨rfl,_,World.drewN_drewN _ _ _⟩|exact⟨rfl,_,Eq.trans (World.drewN_drewN _ _ _) (congrArg (World.drewN _) (Nat.add_assoc _ _ _))⟩))));try go_wp2_with (first|(go_at_call 100;(try simp only[Go.IntWalk.i64_left]);(with_reducible refine(spec_l1In.calls (rd l1 x5_1) 0 (wrap64 (a0-1)) true _ A5.out).mono ?_);rintro e w' ⟨rfl,⟨nd,rfl⟩⟩;(try first|exact⟨rfl,_,World.drewN_drewN _ _ _⟩|exact⟨rfl,_,Eq.trans (World.drewN_drewN _ _ _) (congrArg (World.drewN _) (Nat.add_assoc _ _ _))⟩);obtain⟨i012,hi012,_,hsz12,_⟩:=info_parts info3;obtain⟨hcut12,hA12,hC12⟩:=print_take_of (P:=Try.prog) (Value.int .i64) 0 40 3 .i64 Try.underlying40 hi012 hsz12 (some ad702) c1 l1 x5_1 (od) (od) HC1.out;have HR704:=Aside0.mk (C_of_reads (h1:=fun _=>rfl) (hA12 _ (Kd.reads_of_C HR1.out)));have HC704:=Aside0.mk hC12;clear hA12 hC12 hi012 hsz12;have p705:0≤(x5_1:Int):=od;have q705:x5_1<(l1.length:Int):=od;obtain⟨ad705,e705,hx705_0⟩:=Kd.at_int HR1.out x5_1 p705 q705;obtain rfl:ad702=ad705:=(by injection e705);replace p705:=eq_true p705;replace q705:=eq_true q705)|(go_at_call 102;obtain⟨i011,hi011,_,hsz11,_⟩:=info_parts info3;obtain⟨hcut11,hA11,hC11⟩:=print_take_of (P:=Try.prog) (Value.int .i64) 0 40 3 .i64 Try.underlying40 hi011 hsz11 (some ad702) c1 l1 x5_1 (od) (od) HC1.out;have HR704:=Aside0.mk (C_of_reads (h1:=fun _=>rfl) (hA11 _ (Kd.reads_of_C HR1.out)));have HC704:=Aside0.mk hC11;clear hA11 hC11 hi011 hsz11;have hle_: (x5_1:Int).toNat≤l1.length:=Int.toNat_le.mpr (Int.le_of_lt (of_decide_eq_true c3b0));rw[((List.length_take (i:=(x5_1:Int).toNat) (l:=l1)).trans (Nat.min_eq_left hle_)).symm];(with_reducible refine(spec_l1Has.calls k1 _ _ (l1.take (x5_1:Int).toNat) (rd l1 x5_1) false _ ?side1 ?side2 A9.out).mono ?_);(case side1=>repeat(first|exact HR704.out|(with_reducible refine C_alloc ?_ _)|(with_reducible refine C_drewN ?_ _)|(with_reducible refine C_drew ?_)));(case side2=>exact HC704.out);rintro e w' ⟨rfl,⟨nd,rfl⟩⟩;(try first|exact⟨rfl,_,World.drewN_drewN _ _ _⟩|exact⟨rfl,_,Eq.trans (World.drewN_drewN _ _ _) (congrArg (World.drewN _) (Nat.add_assoc _ _ _))⟩))))
 go_roundg k1
 case measure=>have:=HK1.out;omega
 case rel=>exact⟨(wrap64 (x5_1+1)),fd,H',⟨by have:=HK1.out;omega⟩,by repeat(first|exact Drawn0.refl _|apply Drawn0.step)⟩
def spec_OrderReach.f (k:Nat) (a0_0:Int) (a0_1:Bool) (l1:List (S63)) (l2:List Int) (a3:Int):Option (Int × Bool):=(spec_l7Carriers.f k a0_0 a0_1 l1).bind fun t708=>(if t708=true then((spec_l7Order.f k (l1.length:Int) l2).bind fun t709=>(if t709=true then((spec_l2Place.f a0_0 a0_1 a3).bind fun t710=>(if t710=true then((spec_l7Reach.f k a0_0 a0_1 l1 l2 a3).bind fun t711=>(some (t711,true)))else(some (0,false))))else(some (0,false))))else(some (0,false)))
theorem spec_OrderReach.mono:∀ a0 a1 a2 a3 a4 k,LeO (spec_OrderReach.f k a0 a1 a2 a3 a4) (spec_OrderReach.f (k+1) a0 a1 a2 a3 a4):=by
 intro a0 a1 a2 a3 a4 k
 unfold spec_OrderReach.f
 repeat' (with_reducible first|exact spec_l7Carriers.mono ..|exact spec_l7Order.mono ..|exact spec_l7Reach.mono ..|exact LeO.refl _|exact LeO.none _|refine LeO.ite ?_ ?_|refine LeO.bind ?_ (fun _=>?_))
set_option maxHeartbeats 8000000 in
set_option maxRecDepth 100000 in
theorem spec_OrderReach.calls (k:Nat) (a0_0:Int) (a0_1:Bool) (A1:Option Addr) (c1:Nat) (l1:List (S63)) (A2:Option Addr) (c2:Nat) (l2:List Int) (a3:Int) (r1:Int) (r2:Bool) (w:World) (hr1:Kd.C k63 w A1 l1.length l1) (hc1:l1.length≤c1) (hr2:Kd.C (Kd.int .i64) w A2 l2.length l2) (hc2:l2.length≤c2) (h:spec_OrderReach.f k a0_0 a0_1 l1 l2 a3=some (r1,r2)):
  Calls Try.prog 43 #[.agg #[.int .i64 a0_0,.bool a0_1],.slice A1 l1.length c1,.slice A2 l2.length c2,.int .i64 a3] w fun e w'=>e= .returned (.tuple #[.int .i64 r1,.bool r2])∧Below w.heap.size w w':=by
 have hu28:=Try.underlying28
 have HR1:=Aside0.mk hr1
 have HC1:=Aside0.mk hc1
 clear hr1 hc1
 have HR2:=Aside0.mk hr2
 have HC2:=Aside0.mk hc2
 clear hr2 hc2
 have HB:=Aside0.mk (Below.refl w.heap.size w)
 unfold spec_OrderReach.f at h
 have H:=h
 clear h
 obtain⟨t708,A5,H⟩:=bd H;(try dsimp only at H)
 by_cases c6:t708=true
 rotate_left
 ·replace c6:=Bool.eq_false_iff.mpr c6
  subst c6
  rw[if_neg (show ¬(false=true)by decide)]at H
  simp only[Option.some.injEq,Prod.mk.injEq]at H
  obtain⟨rfl,rfl⟩:=H
  go_enter Try.func43,Try.ntmps43
  go_wp2_with (first|((with_reducible refine gate_dst (N:=4) rfl ?_);(try(refine gate_guard (by rfl) ?_;dsimp only));refine box_event ?hg (N:=4) ?hd (cs:=#[.int .i64 a0_0,.bool a0_1]) (t:=28) ?hr ?_;(case hd=>rfl);(case hg=>rfl);(case hr=>first|(go_simp;done)|(go_simp;rfl));intro gb707 hg w27 hbox hb;have BK707:=ak hbox;have GW707:=gw HB hg;have GE707:=gw HB hg;replace HB:=bs HB hb;clear hb hbox hg;have hcz28_0:=bc BK707 0 rfl;have hcz28_1:=bc BK707 1 rfl;have hfz28_0:=bf BK707 0;have hfz28_1:=bf BK707 1)|(refine gs 12 Try.func77 #[.agg #[.int .i64 a0_0,.bool a0_1],.slice A1 l1.length c1] ?_;(with_reducible refine(spec_l7Carriers.calls k a0_0 a0_1 _ _ l1 false _ ?side1 ?side2 A5.out).mono ?_);(case side1=>exact cm (C_below HR1.out HB.out));(case side2=>exact HC1.out);rintro e w29 ⟨rfl,hb⟩;refine⟨_,rfl,?_⟩;replace BK707:=kb BK707 hb;replace HB:=ak (below_step (h1 HB.out GE707.out) hb);(try clear hb);(try clear hk);(try clear hi)))
  go_ret2
  exact⟨fe,h1 HB.out GE707.out⟩
 subst c6
 rw[if_pos rfl]at H
 obtain⟨t709,A7,H⟩:=bd H;(try dsimp only at H)
 by_cases c8:t709=true
 rotate_left
 ·replace c8:=Bool.eq_false_iff.mpr c8
  subst c8
  rw[if_neg (show ¬(false=true)by decide)]at H
  simp only[Option.some.injEq,Prod.mk.injEq]at H
  obtain⟨rfl,rfl⟩:=H
  go_enter Try.func43,Try.ntmps43
  go_wp2_with (first|((with_reducible refine gate_dst (N:=4) rfl ?_);(try(refine gate_guard (by rfl) ?_;dsimp only));refine box_event ?hg (N:=4) ?hd (cs:=#[.int .i64 a0_0,.bool a0_1]) (t:=28) ?hr ?_;(case hd=>rfl);(case hg=>rfl);(case hr=>first|(go_simp;done)|(go_simp;rfl));intro gb707 hg w24 hbox hb;have BK707:=ak hbox;have GW707:=gw HB hg;have GE707:=gw HB hg;replace HB:=bs HB hb;clear hb hbox hg;have hcz25_0:=bc BK707 0 rfl;have hcz25_1:=bc BK707 1 rfl;have hfz25_0:=bf BK707 0;have hfz25_1:=bf BK707 1)|(refine gs 12 Try.func77 #[.agg #[.int .i64 a0_0,.bool a0_1],.slice A1 l1.length c1] ?_;(with_reducible refine(spec_l7Carriers.calls k a0_0 a0_1 _ _ l1 true _ ?side1 ?side2 A5.out).mono ?_);(case side1=>exact cm (C_below HR1.out HB.out));(case side2=>exact HC1.out);rintro e w26 ⟨rfl,hb⟩;refine⟨_,rfl,?_⟩;replace BK707:=kb BK707 hb;replace HB:=ak (below_step (h1 HB.out GE707.out) hb);(try clear hb);(try clear hk);(try clear hi))|(go_at_call 86;(with_reducible refine(spec_l7Order.calls k (l1.length:Int) _ _ l2 false _ ?side1 ?side2 A7.out).mono ?_);(case side1=>exact cm (C_below HR2.out HB.out));(case side2=>exact HC2.out);rintro e w' ⟨rfl,⟨nd,rfl⟩⟩))
  go_ret2
  exact⟨fe,h1 HB.out GE707.out⟩
 subst c8
 rw[if_pos rfl]at H
 obtain⟨t710,A9,H⟩:=bd H;(try dsimp only at H)
 by_cases c10:t710=true
 rotate_left
 ·replace c10:=Bool.eq_false_iff.mpr c10
  subst c10
  rw[if_neg (show ¬(false=true)by decide)]at H
  simp only[Option.some.injEq,Prod.mk.injEq]at H
  obtain⟨rfl,rfl⟩:=H
  go_enter Try.func43,Try.ntmps43
  go_wp2_with (first|((with_reducible refine gate_dst (N:=4) rfl ?_);(try(refine gate_guard (by rfl) ?_;dsimp only));refine box_event ?hg (N:=4) ?hd (cs:=#[.int .i64 a0_0,.bool a0_1]) (t:=28) ?hr ?_;(case hd=>rfl);(case hg=>rfl);(case hr=>first|(go_simp;done)|(go_simp;rfl));intro gb707 hg w19 hbox hb;have BK707:=ak hbox;have GW707:=gw HB hg;have GE707:=gw HB hg;replace HB:=bs HB hb;clear hb hbox hg;have hcz20_0:=bc BK707 0 rfl;have hcz20_1:=bc BK707 1 rfl;have hfz20_0:=bf BK707 0;have hfz20_1:=bf BK707 1)|(refine gs 12 Try.func77 #[.agg #[.int .i64 a0_0,.bool a0_1],.slice A1 l1.length c1] ?_;(with_reducible refine(spec_l7Carriers.calls k a0_0 a0_1 _ _ l1 true _ ?side1 ?side2 A5.out).mono ?_);(case side1=>exact cm (C_below HR1.out HB.out));(case side2=>exact HC1.out);rintro e w21 ⟨rfl,hb⟩;refine⟨_,rfl,?_⟩;replace BK707:=kb BK707 hb;replace HB:=ak (below_step (h1 HB.out GE707.out) hb);(try clear hb);(try clear hk);(try clear hi))|(go_at_call 86;(with_reducible refine(spec_l7Order.calls k (l1.length:Int) _ _ l2 true _ ?side1 ?side2 A7.out).mono ?_);(case side1=>exact cm (C_below HR2.out HB.out));(case side2=>exact HC2.out);rintro e w' ⟨rfl,⟨nd,rfl⟩⟩;have hcz22_0:=bc BK707 0 rfl;have hcz22_1:=bc BK707 1 rfl;have hfz22_0:=bf BK707 0;have hfz22_1:=bf BK707 1)|(go_at_call 78;(with_reducible refine(spec_l2Place.calls a0_0 a0_1 a3 false _ A9.out).mono ?_);rintro e w23 ⟨rfl,hb⟩;replace BK707:=kb BK707 hb;replace HB:=ak (below_step (h1 HB.out GE707.out) hb);(try clear hb);(try clear hk);(try clear hi)))
  go_ret2
  exact⟨fe,h1 HB.out GE707.out⟩
 subst c10
 rw[if_pos rfl]at H
 obtain⟨t711,A11,H⟩:=bd H;(try dsimp only at H)
 simp only[Option.some.injEq,Prod.mk.injEq]at H
 obtain⟨rfl,rfl⟩:=H
 go_enter Try.func43,Try.ntmps43
 go_wp2_with (first|((with_reducible refine gate_dst (N:=4) rfl ?_);(try(refine gate_guard (by rfl) ?_;dsimp only));refine box_event ?hg (N:=4) ?hd (cs:=#[.int .i64 a0_0,.bool a0_1]) (t:=28) ?hr ?_;(case hd=>rfl);(case hg=>rfl);(case hr=>first|(go_simp;done)|(go_simp;rfl));intro gb707 hg w12 hbox hb;have BK707:=ak hbox;have GW707:=gw HB hg;have GE707:=gw HB hg;replace HB:=bs HB hb;clear hb hbox hg;have hcz13_0:=bc BK707 0 rfl;have hcz13_1:=bc BK707 1 rfl;have hfz13_0:=bf BK707 0;have hfz13_1:=bf BK707 1)|(refine gs 12 Try.func77 #[.agg #[.int .i64 a0_0,.bool a0_1],.slice A1 l1.length c1] ?_;(with_reducible refine(spec_l7Carriers.calls k a0_0 a0_1 _ _ l1 true _ ?side1 ?side2 A5.out).mono ?_);(case side1=>exact cm (C_below HR1.out HB.out));(case side2=>exact HC1.out);rintro e w14 ⟨rfl,hb⟩;refine⟨_,rfl,?_⟩;replace BK707:=kb BK707 hb;replace HB:=ak (below_step (h1 HB.out GE707.out) hb);(try clear hb);(try clear hk);(try clear hi))|(go_at_call 86;(with_reducible refine(spec_l7Order.calls k (l1.length:Int) _ _ l2 true _ ?side1 ?side2 A7.out).mono ?_);(case side1=>exact cm (C_below HR2.out HB.out));(case side2=>exact HC2.out);rintro e w' ⟨rfl,⟨nd,rfl⟩⟩;have hcz15_0:=bc BK707 0 rfl;have hcz15_1:=bc BK707 1 rfl;have hfz15_0:=bf BK707 0;have hfz15_1:=bf BK707 1)|(go_at_call 78;(with_reducible refine(spec_l2Place.calls a0_0 a0_1 a3 true _ A9.out).mono ?_);rintro e w16 ⟨rfl,hb⟩;replace BK707:=kb BK707 hb;replace HB:=ak (below_step (h1 HB.out GE707.out) hb);(try clear hb);(try clear hk);(try clear hi);have hcz17_0:=bc BK707 0 rfl;have hcz17_1:=bc BK707 1 rfl;have hfz17_0:=bf BK707 0;have hfz17_1:=bf BK707 1)|(refine gs 31 Try.func72 #[.agg #[.int .i64 a0_0,.bool a0_1],.slice A1 l1.length c1,.slice A2 l2.length c2,.int .i64 a3] ?_;(with_reducible refine(spec_l7Reach.calls k a0_0 a0_1 _ _ l1 _ _ l2 a3 t711 _ ?side1 ?side2 ?side3 ?side4 A11.out).mono ?_);(case side1=>exact cm (C_below HR1.out HB.out));(case side2=>exact HC1.out);(case side3=>exact cm (C_below HR2.out HB.out));(case side4=>exact HC2.out);rintro e w18 ⟨rfl,hb⟩;refine⟨_,rfl,?_⟩;replace BK707:=kb BK707 hb;replace HB:=ak (below_step (h1 HB.out GE707.out) hb);(try clear hb);(try clear hk);(try clear hi)))
 go_ret2
 exact⟨fe,h1 HB.out GE707.out⟩
def laws_vInts.l0:Nat→List Int→List Int→Int→Option (Bool)
 | 0,_,_,_=>none
 | k+1,x0,x1,x5=>if x5<(x0.length:Int)then(if 0≤x5 then(if x5<(x1.length:Int)then(if(rd x0 x5)=(rd x1 x5)then(laws_vInts.l0 k x0 x1 (wrap64 (x5+1)))else(some false))else(none))else(none))else(some true)
def laws_vInts.f (k:Nat) (l0:List Int) (l1:List Int):Option (Bool):=if(l0.length:Int)=(l1.length:Int)then(laws_vInts.l0 k l0 l1 0)else(some false)
theorem laws_vInts.mono_l:∀ k,(∀ y0 y1 y2,LeO (laws_vInts.l0 k y0 y1 y2) (laws_vInts.l0 (k+1) y0 y1 y2))
 | 0=>by
  refine ?_<;>(intros;intro r h;simp[laws_vInts.l0]at h)
 | k+1=>by
  have ih0:=laws_vInts.mono_l k
  refine ?_<;>intros<;>unfold laws_vInts.l0<;>(repeat' (with_reducible first|exact ih0 ..|exact LeO.refl _|exact LeO.none _|refine LeO.ite ?_ ?_|refine LeO.bind ?_ (fun _=>?_)))
theorem laws_vInts.mono:∀ a0 a1 k,LeO (laws_vInts.f k a0 a1) (laws_vInts.f (k+1) a0 a1):=by
 intro a0 a1 k
 have ih0:=laws_vInts.mono_l k
 unfold laws_vInts.f
 repeat' (with_reducible first|exact ih0 ..|exact LeO.refl _|exact LeO.none _|refine LeO.ite ?_ ?_|refine LeO.bind ?_ (fun _=>?_))
set_option maxHeartbeats 8000000 in
set_option maxRecDepth 100000 in
theorem laws_vInts.calls (k:Nat) (A0:Option Addr) (c0:Nat) (l0:List Int) (A1:Option Addr) (c1:Nat) (l1:List Int) (r:Bool) (w:World) (hr0:Kd.C (Kd.int .i64) w A0 l0.length l0) (hc0:l0.length≤c0) (hr1:Kd.C (Kd.int .i64) w A1 l1.length l1) (hc1:l1.length≤c1) (h:laws_vInts.f k l0 l1=some r):
  Calls Try.prog 44 #[.slice A0 l0.length c0,.slice A1 l1.length c1] w fun e w'=>e= .returned (.bool r)∧Drawn0 w w':=by
 have HR0:=Aside0.mk hr0
 have HC0:=Aside0.mk hc0
 clear hr0 hc0
 have HR1:=Aside0.mk hr1
 have HC1:=Aside0.mk hc1
 clear hr1 hc1
 unfold laws_vInts.f at h
 have H:=h
 clear h
 by_cases c3: (l0.length:Int)=(l1.length:Int)
 rotate_left
 ·rw[if_neg c3]at H
  have c3b0: ((l0.length:Int)==(l1.length:Int))=false:=beq_eq_false_iff_ne.mpr c3
  have c3b1: ((l0.length:Int) !=(l1.length:Int))=true:=bne_iff_ne.mpr c3
  have c3b2: (l0.length==l1.length)=false:=by first|simpa using c3|(simp at c3⊢;omega)
  obtain rfl:=Option.some.inj H
  go_enter Try.func44,Try.ntmps44
  go_wp2
  repeat(go_quiet (fail);try go_wp2)
  go_ret
  exact⟨by first|rfl|(simp;done)|(simp[*];done),by repeat(first|exact Drawn0.refl _|apply Drawn0.step)⟩
 rw[if_pos c3]at H
 have c3b0: ((l0.length:Int)==(l1.length:Int))=true:=beq_iff_eq.mpr c3
 have c3b1: ((l0.length:Int) !=(l1.length:Int))=false:=bne_eq_false_iff_eq.mpr c3
 have c3b2: (l0.length==l1.length)=true:=by first|simpa using c3|(simp at c3⊢;omega)
 clear c3
 have H':=Aside0.mk H
 clear H
 go_enter Try.func44,Try.ntmps44
 go_wp2
 repeat(go_quiet (fail);try go_wp2)
 go_loopg [5] k (fun kq v5 w'=>∃ (x5_1:Int),v5= .int .i64 x5_1∧Aside0 (laws_vInts.l0 kq l0 l1 x5_1=some r)∧Aside0 (kq≤k)∧Drawn0 w w')
 case atStart=>exact⟨(0),fd,H',⟨Nat.le_refl _⟩,by repeat(first|exact Drawn0.refl _|apply Drawn0.step)⟩
 clear H'
 try clear c1
 try clear p2
 try clear c3
 try clear c3b0
 try clear c3b1
 try clear c3b2
 obtain⟨x5_1,rfl,HA,HK1,⟨m1,rfl⟩⟩:=hrel
 obtain _|k1:=gk;·cases HA.out
 obtain⟨H⟩:=HA
 simp only[laws_vInts.l0]at H
 by_cases c4:x5_1<(l0.length:Int)
 rotate_left
 ·rw[if_neg c4]at H
  have c4b0:decide (x5_1<(l0.length:Int))=false:=decide_eq_false c4
  clear c4
  obtain rfl:=Option.some.inj H
  go_wp2
  repeat(go_quiet (fail);try go_wp2)
  go_ret
  exact⟨by first|rfl|(simp;done)|(simp[*];done),by repeat(first|exact Drawn0.refl _|apply Drawn0.step)⟩
 rw[if_pos c4]at H
 have c4b0:decide (x5_1<(l0.length:Int))=true:=decide_eq_true c4
 clear c4
 obtain⟨c5,H⟩:=gi H
 have c5b0:decide (0≤x5_1)=true:=decide_eq_true c5
 clear c5
 obtain⟨c6,H⟩:=gi H
 have c6b0:decide (x5_1<(l1.length:Int))=true:=decide_eq_true c6
 clear c6
 by_cases c7: (rd l0 x5_1)=(rd l1 x5_1)
 rotate_left
 ·rw[if_neg c7]at H
  have c7b0: ((rd l0 x5_1)==(rd l1 x5_1))=false:=beq_eq_false_iff_ne.mpr c7
  have c7b1: ((rd l0 x5_1) !=(rd l1 x5_1))=true:=bne_iff_ne.mpr c7
  obtain rfl:=Option.some.inj H
  have p712:0≤(x5_1:Int):=od
  have q712:x5_1<(l0.length:Int):=od
  obtain⟨ad712,e712,hx712_0⟩:=Kd.at_int HR0.out x5_1 p712 q712
  cases e712
  replace p712:=eq_true p712
  replace q712:=eq_true q712
  have p713:0≤(x5_1:Int):=od
  have q713:x5_1<(l1.length:Int):=od
  obtain⟨ad713,e713,hx713_0⟩:=Kd.at_int HR1.out x5_1 p713 q713
  cases e713
  replace p713:=eq_true p713
  replace q713:=eq_true q713
  go_wp2
  repeat(go_quiet (fail);try go_wp2)
  go_ret
  exact⟨by first|rfl|(simp;done)|(simp[*];done),by repeat(first|exact Drawn0.refl _|apply Drawn0.step)⟩
 rw[if_pos c7]at H
 have c7b0: ((rd l0 x5_1)==(rd l1 x5_1))=true:=beq_iff_eq.mpr c7
 have c7b1: ((rd l0 x5_1) !=(rd l1 x5_1))=false:=bne_eq_false_iff_eq.mpr c7
 clear c7
 have H':=Aside0.mk H
 clear H
 have p712:0≤(x5_1:Int):=od
 have q712:x5_1<(l0.length:Int):=od
 obtain⟨ad712,e712,hx712_0⟩:=Kd.at_int HR0.out x5_1 p712 q712
 cases e712
 replace p712:=eq_true p712
 replace q712:=eq_true q712
 have p713:0≤(x5_1:Int):=od
 have q713:x5_1<(l1.length:Int):=od
 obtain⟨ad713,e713,hx713_0⟩:=Kd.at_int HR1.out x5_1 p713 q713
 cases e713
 replace p713:=eq_true p713
 replace q713:=eq_true q713
 go_wp2
 repeat(go_quiet (fail);try go_wp2)
 go_roundg k1
 case measure=>have:=HK1.out;omega
 case rel=>exact⟨(wrap64 (x5_1+1)),fd,H',⟨by have:=HK1.out;omega⟩,by repeat(first|exact Drawn0.refl _|apply Drawn0.step)⟩
def impl_GapOf.f (k:Nat) (a0_0:Int) (a0_1:Bool) (a1:Int) (a2:Int):Option (Int × Bool):=(impl_IsRoad.f a0_0 a0_1).bind fun t715=>(if t715=true then((impl_Road_has.f k a0_0 a0_1 (([a1,a2]:List Int))).bind fun t719=>(if t719=true then((impl_Road_gap.f a0_0 a0_1 a1 a2).bind fun t720=>(some (t720,true)))else(some (0,false))))else(some (0,false)))
theorem impl_GapOf.mono:∀ a0 a1 a2 a3 k,LeO (impl_GapOf.f k a0 a1 a2 a3) (impl_GapOf.f (k+1) a0 a1 a2 a3):=by
 intro a0 a1 a2 a3 k
 unfold impl_GapOf.f
 repeat' (with_reducible first|exact impl_Road_has.mono ..|exact LeO.refl _|exact LeO.none _|refine LeO.ite ?_ ?_|refine LeO.bind ?_ (fun _=>?_))
set_option maxHeartbeats 8000000 in
set_option maxRecDepth 100000 in
theorem impl_GapOf.calls (k:Nat) (a0_0:Int) (a0_1:Bool) (a1:Int) (a2:Int) (r1:Int) (r2:Bool) (w:World) (h:impl_GapOf.f k a0_0 a0_1 a1 a2=some (r1,r2)):
  Calls Try.prog 45 #[.agg #[.int .i64 a0_0,.bool a0_1],.int .i64 a1,.int .i64 a2] w fun e w'=>e= .returned (.tuple #[.int .i64 r1,.bool r2])∧Below w.heap.size w w':=by
 have hu28:=Try.underlying28
 have HB:=Aside0.mk (Below.refl w.heap.size w)
 unfold impl_GapOf.f at h
 have H:=h
 clear h
 obtain⟨t715,A4,H⟩:=bd H;(try dsimp only at H)
 by_cases c5:t715=true
 rotate_left
 ·replace c5:=Bool.eq_false_iff.mpr c5
  subst c5
  rw[if_neg (show ¬(false=true)by decide)]at H
  simp only[Option.some.injEq,Prod.mk.injEq]at H
  obtain⟨rfl,rfl⟩:=H
  go_enter Try.func45,Try.ntmps45
  go_wp2_with (first|((with_reducible refine gate_dst (N:=3) rfl ?_);(try(refine gate_guard (by rfl) ?_;dsimp only));refine box_event ?hg (N:=3) ?hd (cs:=#[.int .i64 a0_0,.bool a0_1]) (t:=28) ?hr ?_;(case hd=>rfl);(case hg=>rfl);(case hr=>first|(go_simp;done)|(go_simp;rfl));intro gb714 hg w27 hbox hb;have BK714:=ak hbox;have GW714:=gw HB hg;have GE714:=gw HB hg;replace HB:=bs HB hb;clear hb hbox hg;have hcz28_0:=bc BK714 0 rfl;have hcz28_1:=bc BK714 1 rfl;have hfz28_0:=bf BK714 0;have hfz28_1:=bf BK714 1)|(refine gs 9 Try.func87 #[.agg #[.int .i64 a0_0,.bool a0_1]] ?_;(with_reducible refine(impl_IsRoad.calls a0_0 a0_1 false _ A4.out).mono ?_);rintro e w29 ⟨rfl,hb⟩;refine⟨_,rfl,?_⟩;replace BK714:=kb BK714 hb;replace HB:=ak (below_step (h1 HB.out GE714.out) hb);(try clear hb);(try clear hk);(try clear hi)))
  go_ret2
  exact⟨fe,h1 HB.out GE714.out⟩
 subst c5
 rw[if_pos rfl]at H
 generalize hy716: ([a1,a2]:List Int)=y716 at H
 have Ny716:=ak hy716.symm
 clear hy716
 obtain⟨t719,A6,H⟩:=bd H;(try dsimp only at H)
 by_cases c7:t719=true
 rotate_left
 ·replace c7:=Bool.eq_false_iff.mpr c7
  subst c7
  rw[if_neg (show ¬(false=true)by decide)]at H
  simp only[Option.some.injEq,Prod.mk.injEq]at H
  obtain⟨rfl,rfl⟩:=H
  go_enter Try.func45,Try.ntmps45
  go_wp2_with (first|((with_reducible refine gate_dst (N:=3) rfl ?_);(try(refine gate_guard (by rfl) ?_;dsimp only));refine box_event ?hg (N:=3) ?hd (cs:=#[.int .i64 a0_0,.bool a0_1]) (t:=28) ?hr ?_;(case hd=>rfl);(case hg=>rfl);(case hr=>first|(go_simp;done)|(go_simp;rfl));intro gb714 hg w19 hbox hb;have BK714:=ak hbox;have GW714:=gw HB hg;have GE714:=gw HB hg;replace HB:=bs HB hb;clear hb hbox hg;have hcz20_0:=bc BK714 0 rfl;have hcz20_1:=bc BK714 1 rfl;have hfz20_0:=bf BK714 0;have hfz20_1:=bf BK714 1)|(refine gs 9 Try.func87 #[.agg #[.int .i64 a0_0,.bool a0_1]] ?_;(with_reducible refine(impl_IsRoad.calls a0_0 a0_1 true _ A4.out).mono ?_);rintro e w21 ⟨rfl,hb⟩;refine⟨_,rfl,?_⟩;replace BK714:=kb BK714 hb;replace HB:=ak (below_step (h1 HB.out GE714.out) hb);(try clear hb);(try clear hk);(try clear hi);have hcz22_0:=bc BK714 0 rfl;have hcz22_1:=bc BK714 1 rfl;have hfz22_0:=bf BK714 0;have hfz22_1:=bf BK714 1)|((with_reducible refine gate_dst (N:=15) rfl ?_);(try(refine gate_guard (by rfl) ?_;dsimp only));refine R_lit (Kd.int .i64) _ 3 ?hg (N:=15) ?hd (xs:=([a1,a2]:List Int)) (inner:=[.int .i64 a1,.int .i64 a2]) (ok:=fun _=>True) (okp:=fun _=>True) ?hr ?hp (fun _ hk=>hk) trivial (Below.refl _ _) (Nat.le_refl _) (by simp) ?_;(case hd=>rfl);(case hg=>rfl);(case hr=>first|(go_simp;done)|(go_simp;rfl));(case hp=>exact(Reps.one (show Kd.M (Kd.int .i64) _ _ _ a1 [.int .i64 a1]from rfl) (Reps.one (show Kd.M (Kd.int .i64) _ _ _ a2 [.int .i64 a2]from rfl) (Reps.none _ _))));intro v717 w23 ho24 hb hg_ hnew_;clear hg_ hnew_;(first|rw[←Ny716.out]at ho24|(simp only[Int.reduceToNat]at ho24;rw[←Ny716.out]at ho24));have HO718:=ak (R_lower ho24 (below_size (h1 HB.out GE714.out)));replace BK714:=kb BK714 hb;replace HB:=ak (below_step (h1 HB.out GE714.out) hb);clear hb ho24;obtain⟨Ao25,co25,eo25⟩:=R_slice HO718.out;subst eo25)|(go_at_call 88;(with_reducible refine(impl_Road_has.calls k a0_0 a0_1 _ _ y716 false _ ?side1 ?side2 A6.out).mono ?_);(case side1=>exact cm (R_reads' HO718.out).2.2);(case side2=>exact(R_reads' HO718.out).2.1);rintro e w26 ⟨rfl,hb⟩;replace HO718:=rb HO718 hb;replace BK714:=kb BK714 hb;replace HB:=ak (below_step (h1 HB.out GE714.out) hb);(try clear hb);(try clear hk);(try clear hi)))
  go_ret2
  exact⟨fe,h1 HB.out GE714.out⟩
 subst c7
 rw[if_pos rfl]at H
 obtain⟨t720,A8,H⟩:=bd H;(try dsimp only at H)
 simp only[Option.some.injEq,Prod.mk.injEq]at H
 obtain⟨rfl,rfl⟩:=H
 go_enter Try.func45,Try.ntmps45
 go_wp2_with (first|((with_reducible refine gate_dst (N:=3) rfl ?_);(try(refine gate_guard (by rfl) ?_;dsimp only));refine box_event ?hg (N:=3) ?hd (cs:=#[.int .i64 a0_0,.bool a0_1]) (t:=28) ?hr ?_;(case hd=>rfl);(case hg=>rfl);(case hr=>first|(go_simp;done)|(go_simp;rfl));intro gb714 hg w9 hbox hb;have BK714:=ak hbox;have GW714:=gw HB hg;have GE714:=gw HB hg;replace HB:=bs HB hb;clear hb hbox hg;have hcz10_0:=bc BK714 0 rfl;have hcz10_1:=bc BK714 1 rfl;have hfz10_0:=bf BK714 0;have hfz10_1:=bf BK714 1)|(refine gs 9 Try.func87 #[.agg #[.int .i64 a0_0,.bool a0_1]] ?_;(with_reducible refine(impl_IsRoad.calls a0_0 a0_1 true _ A4.out).mono ?_);rintro e w11 ⟨rfl,hb⟩;refine⟨_,rfl,?_⟩;replace BK714:=kb BK714 hb;replace HB:=ak (below_step (h1 HB.out GE714.out) hb);(try clear hb);(try clear hk);(try clear hi);have hcz12_0:=bc BK714 0 rfl;have hcz12_1:=bc BK714 1 rfl;have hfz12_0:=bf BK714 0;have hfz12_1:=bf BK714 1)|((with_reducible refine gate_dst (N:=15) rfl ?_);(try(refine gate_guard (by rfl) ?_;dsimp only));refine R_lit (Kd.int .i64) _ 3 ?hg (N:=15) ?hd (xs:=([a1,a2]:List Int)) (inner:=[.int .i64 a1,.int .i64 a2]) (ok:=fun _=>True) (okp:=fun _=>True) ?hr ?hp (fun _ hk=>hk) trivial (Below.refl _ _) (Nat.le_refl _) (by simp) ?_;(case hd=>rfl);(case hg=>rfl);(case hr=>first|(go_simp;done)|(go_simp;rfl));(case hp=>exact(Reps.one (show Kd.M (Kd.int .i64) _ _ _ a1 [.int .i64 a1]from rfl) (Reps.one (show Kd.M (Kd.int .i64) _ _ _ a2 [.int .i64 a2]from rfl) (Reps.none _ _))));intro v717 w13 ho14 hb hg_ hnew_;clear hg_ hnew_;(first|rw[←Ny716.out]at ho14|(simp only[Int.reduceToNat]at ho14;rw[←Ny716.out]at ho14));have HO718:=ak (R_lower ho14 (below_size (h1 HB.out GE714.out)));replace BK714:=kb BK714 hb;replace HB:=ak (below_step (h1 HB.out GE714.out) hb);clear hb ho14;obtain⟨Ao15,co15,eo15⟩:=R_slice HO718.out;subst eo15)|(go_at_call 88;(with_reducible refine(impl_Road_has.calls k a0_0 a0_1 _ _ y716 true _ ?side1 ?side2 A6.out).mono ?_);(case side1=>exact cm (R_reads' HO718.out).2.2);(case side2=>exact(R_reads' HO718.out).2.1);rintro e w16 ⟨rfl,hb⟩;replace HO718:=rb HO718 hb;replace BK714:=kb BK714 hb;replace HB:=ak (below_step (h1 HB.out GE714.out) hb);(try clear hb);(try clear hk);(try clear hi);have hcz17_0:=bc BK714 0 rfl;have hcz17_1:=bc BK714 1 rfl;have hfz17_0:=bf BK714 0;have hfz17_1:=bf BK714 1)|(refine gs 22 Try.func89 #[.agg #[.int .i64 a0_0,.bool a0_1],.int .i64 a1,.int .i64 a2] ?_;(with_reducible refine(impl_Road_gap.calls a0_0 a0_1 a1 a2 t720 _ A8.out).mono ?_);rintro e w18 ⟨rfl,hb⟩;refine⟨_,rfl,?_⟩;replace HO718:=rb HO718 hb;replace BK714:=kb BK714 hb;replace HB:=ak (below_step (h1 HB.out GE714.out) hb);(try clear hb);(try clear hk);(try clear hi)))
 go_ret2
 exact⟨fe,h1 HB.out GE714.out⟩
end
end Go.Proofs.Ythagkpoinjpmfaa.QFnReaches
