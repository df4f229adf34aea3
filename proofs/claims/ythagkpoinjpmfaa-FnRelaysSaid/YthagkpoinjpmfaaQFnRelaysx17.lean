/- Functions that the law FnRelays comes to, and their walks: no condition but those named. -/
import Derived.Test.YthagkpoinjpmfaaQFnRelaysx0
import Derived.Test.YthagkpoinjpmfaaQFnRelaysx1
import Derived.Test.YthagkpoinjpmfaaQFnRelaysx2
import Derived.Test.YthagkpoinjpmfaaQFnRelaysx3
import Derived.Test.YthagkpoinjpmfaaQFnRelaysx4
import Derived.Test.YthagkpoinjpmfaaQFnRelaysx12
import Derived.Test.YthagkpoinjpmfaaQFnRelaysx13
import Derived.Test.YthagkpoinjpmfaaQFnRelaysx14
namespace Go.Proofs.Ythagkpoinjpmfaa.QFnRelays
open Go.RowKit Go.Proofs.YthagkpoinjpmfaaW.PrintWords Go.Proofs.YthagkpoinjpmfaaW.PrintLast Go.Proofs.YthagkpoinjpmfaaW.PrintMore Go.Proofs.Ythagkpoinjpmfaa.Short
attribute [local go_sem] max2_int min2_int max_two min_two max_three min_three max_four min_four
set_option linter.unusedVariables false
set_option linter.unusedSimpArgs false
section
open Kd
def impl_LegEnd.j0:Nat→Int→Bool→Int→Bool→Int→Int→Int→Option (Int × Bool)
 | 0,_,_,_,_,_,_,_=>none
 | k+1,x2,x26,x598000,x598001,x599000,x599001,x599002=>if x26=true then(some (0,false))else((impl_Road_legEnd.f x598000 x598001 x599000 x599001 x599002 x2).bind fun bt608=>(if bt608.2=true then(some (bt608.1,true))else(some (0,false))))
def impl_LegEnd.f (k:Nat) (a0_0:Int) (a0_1:Bool) (a1_0:Int) (a1_1:Int) (a1_2:Int) (a2:Int):Option (Int × Bool):=(impl_isLine.f a0_0 a0_1).bind fun t599=>(if t599=true then((impl_Road_areCarriers.f k a0_0 a0_1 (([(⟨a1_0,a1_1,a1_2⟩:S63)]:List (S63)))).bind fun t603=>(if t603=true then((impl_Road_has.f k a0_0 a0_1 (([a2]:List Int))).bind fun t607=>(impl_LegEnd.j0 k a2 (!t607) a0_0 a0_1 a1_0 a1_1 a1_2))else(impl_LegEnd.j0 k a2 true a0_0 a0_1 a1_0 a1_1 a1_2)))else(impl_LegEnd.j0 k a2 true a0_0 a0_1 a1_0 a1_1 a1_2))
theorem impl_LegEnd.mono_l:∀ k,(∀ y0 y1 y2 y3 y4 y5 y6,LeO (impl_LegEnd.j0 k y0 y1 y2 y3 y4 y5 y6) (impl_LegEnd.j0 (k+1) y0 y1 y2 y3 y4 y5 y6))
 | 0=>by
  refine ?_<;>(intros;intro r h;simp[impl_LegEnd.j0]at h)
 | k+1=>by
  have ih0:=impl_LegEnd.mono_l k
  refine ?_<;>intros<;>unfold impl_LegEnd.j0<;>(repeat' (with_reducible first|exact ih0 ..|exact impl_Road_areCarriers.mono ..|exact impl_Road_has.mono ..|exact LeO.refl _|exact LeO.none _|refine LeO.ite ?_ ?_|refine LeO.bind ?_ (fun _=>?_)))
theorem impl_LegEnd.mono:∀ a0 a1 a2 a3 a4 a5 k,LeO (impl_LegEnd.f k a0 a1 a2 a3 a4 a5) (impl_LegEnd.f (k+1) a0 a1 a2 a3 a4 a5):=by
 intro a0 a1 a2 a3 a4 a5 k
 have ih0:=impl_LegEnd.mono_l k
 unfold impl_LegEnd.f
 repeat' (with_reducible first|exact ih0 ..|exact impl_Road_areCarriers.mono ..|exact impl_Road_has.mono ..|exact LeO.refl _|exact LeO.none _|refine LeO.ite ?_ ?_|refine LeO.bind ?_ (fun _=>?_))
set_option maxHeartbeats 8000000 in
set_option maxRecDepth 100000 in
theorem impl_LegEnd.calls (k:Nat) (a0_0:Int) (a0_1:Bool) (a1_0:Int) (a1_1:Int) (a1_2:Int) (a2:Int) (r1:Int) (r2:Bool) (w:World) (h:impl_LegEnd.f k a0_0 a0_1 a1_0 a1_1 a1_2 a2=some (r1,r2)):
  Calls Try.prog 50 #[.agg #[.int .i64 a0_0,.bool a0_1],.agg #[.int .i64 a1_0,.int .i64 a1_1,.int .i64 a1_2],.int .i64 a2] w fun e w'=>e= .returned (.tuple #[.int .i64 r1,.bool r2])∧Below w.heap.size w w':=by
 have hu28:=Try.underlying28
 have hu63:=Try.underlying63
 have HB:=Aside0.mk (Below.refl w.heap.size w)
 unfold impl_LegEnd.f at h
 have H:=h
 clear h
 have HC4:=Aside0.mk H
 clear H
 go_enter Try.func50,Try.ntmps50
 go_upto_region 1 with(first|((with_reducible refine gate_dst (N:=3) rfl ?_);(try(refine gate_guard (by rfl) ?_;dsimp only));refine box_event ?hg (N:=3) ?hd (cs:=#[.int .i64 a0_0,.bool a0_1]) (t:=28) ?hr ?_;(case hd=>rfl);(case hg=>rfl);(case hr=>first|(go_simp;done)|(go_simp;rfl));intro gb597 hg w5 hbox hb;have BK597:=ak hbox;have GW597:=gw HB hg;have GE597:=gw HB hg;replace HB:=bs HB hb;clear hb hbox hg)|((with_reducible refine gate_dst (N:=4) rfl ?_);(try(refine gate_guard (by rfl) ?_;dsimp only));refine box_event ?hg (N:=4) ?hd (cs:=#[.int .i64 a1_0,.int .i64 a1_1,.int .i64 a1_2]) (t:=63) ?hr ?_;(case hd=>rfl);(case hg=>rfl);(case hr=>first|(go_simp;done)|(go_simp;rfl));intro gb598 hg w6 hbox hb;have BK598:=ak hbox;have GW598:=ak ((by rw[hg];exact(below_size (h1 HB.out GE597.out)):w.heap.size≤gb598));have GE598:=ak ((by rw[hg];exact(below_size (h1 HB.out GE597.out)):w.heap.size≤gb598));replace HB:=ak (below_step (h1 HB.out GE597.out) hb);have NB597_598:=nl BK597 hg;have NB598_597:=ng BK597 hg;replace BK597:=kb BK597 hb;clear hb hbox hg))
 (try simp only[ap])
 go_cut [26] (fun v26 wc=>∃ (kq:Nat) (x26_3:Bool),v26= .bool x26_3∧Aside0 (impl_LegEnd.j0 kq a2 x26_3 a0_0 a0_1 a1_0 a1_1 a1_2=some (r1,r2))∧Aside0 (kq≤k)∧Aside0 (wc.heap[gb597]? =some (.cells #[.int .i64 a0_0,.bool a0_1] 28 (0,0)))∧Aside0 (wc.heap[gb598]? =some (.cells #[.int .i64 a1_0,.int .i64 a1_1,.int .i64 a1_2] 63 (0,0)))∧Aside0 (Below w.heap.size w wc))
 case first=>
  have H:=HC4.out
  clear HC4
  obtain⟨t599,A7,H⟩:=bd H;(try dsimp only at H)
  by_cases c8:t599=true
  rotate_left
  ·replace c8:=Bool.eq_false_iff.mpr c8
   subst c8
   rw[if_neg (show ¬(false=true)by decide)]at H
   have H':=Aside0.mk H
   clear H
   have hnb35:=NB597_598.out
   have hnc35:=NB598_597.out
   have hcz36_0:=bc BK597 0 rfl
   have hcz36_1:=bc BK597 1 rfl
   have hfz36_0:=bf BK597 0
   have hfz36_1:=bf BK597 1
   go_wp2_with (first|(refine gs 11 Try.func94 #[.agg #[.int .i64 a0_0,.bool a0_1]] ?_;(with_reducible refine(impl_isLine.calls a0_0 a0_1 false _ A7.out).mono ?_);rintro e w37 ⟨rfl,hb⟩;refine⟨_,rfl,?_⟩;replace BK597:=kb BK597 hb;replace BK598:=kb BK598 hb;replace HB:=ak (below_step (h2 HB.out GE597.out GE598.out) hb);(try clear hb);(try clear hk);(try clear hi)))
   go_meet
   case rel=>exact⟨_,(true),fd,H',⟨by first|exact Nat.le_refl _|omega⟩,⟨bm BK597.out⟩,⟨bm BK598.out⟩,⟨h2 HB.out GE597.out GE598.out⟩⟩
  subst c8
  rw[if_pos rfl]at H
  generalize hy600: ([(⟨a1_0,a1_1,a1_2⟩:S63)]:List (S63))=y600 at H
  have Ny600:=ak hy600.symm
  clear hy600
  obtain⟨t603,A9,H⟩:=bd H;(try dsimp only at H)
  by_cases c10:t603=true
  rotate_left
  ·replace c10:=Bool.eq_false_iff.mpr c10
   subst c10
   rw[if_neg (show ¬(false=true)by decide)]at H
   have H':=Aside0.mk H
   clear H
   have hnb26:=NB597_598.out
   have hnc26:=NB598_597.out
   have hcz27_0:=bc BK597 0 rfl
   have hcz27_1:=bc BK597 1 rfl
   have hfz27_0:=bf BK597 0
   have hfz27_1:=bf BK597 1
   go_wp2_with (first|(refine gs 11 Try.func94 #[.agg #[.int .i64 a0_0,.bool a0_1]] ?_;(with_reducible refine(impl_isLine.calls a0_0 a0_1 true _ A7.out).mono ?_);rintro e w28 ⟨rfl,hb⟩;refine⟨_,rfl,?_⟩;replace BK597:=kb BK597 hb;replace BK598:=kb BK598 hb;replace HB:=ak (below_step (h2 HB.out GE597.out GE598.out) hb);(try clear hb);(try clear hk);(try clear hi);have hcz29_0:=bc BK597 0 rfl;have hcz29_1:=bc BK597 1 rfl;have hfz29_0:=bf BK597 0;have hfz29_1:=bf BK597 1;have hcz30_0:=bc BK598 0 rfl;have hcz30_1:=bc BK598 1 rfl;have hcz30_2:=bc BK598 2 rfl;have hfz30_0:=bf BK598 0;have hfz30_1:=bf BK598 1;have hfz30_2:=bf BK598 2)|((with_reducible refine gate_dst (N:=16) rfl ?_);(try(refine gate_guard (by rfl) ?_;dsimp only));refine R_lit k63 _ 63 ?hg (N:=16) ?hd (xs:=([(⟨a1_0,a1_1,a1_2⟩:S63)]:List (S63))) (inner:=[.int .i64 a1_0,.int .i64 a1_1,.int .i64 a1_2]) (ok:=fun _=>True) (okp:=fun _=>True) ?hr ?hp (fun _ hk=>hk) trivial (Below.refl _ _) (Nat.le_refl _) (by simp) ?_;(case hd=>rfl);(case hg=>rfl);(case hr=>first|(go_simp;done)|(go_simp;rfl));(case hp=>exact(Reps.c3 (show Kd.M k63 _ _ _ (⟨a1_0,a1_1,a1_2⟩:S63) [.int .i64 a1_0,.int .i64 a1_1,.int .i64 a1_2]from(k63_mkM _ _ _ (⟨a1_0,a1_1,a1_2⟩:S63))) (Reps.none _ _)));intro v601 w31 ho32 hb hg_ hnew_;clear hg_ hnew_;(first|rw[←Ny600.out]at ho32|(simp only[Int.reduceToNat]at ho32;rw[←Ny600.out]at ho32));have HO602:=ak (R_lower (R_newB ho32 (g:=gb598) (o:=.cells #[.int .i64 a1_0,.int .i64 a1_1,.int .i64 a1_2] 63 (0,0)) (bm BK598.out)) (below_size (h2 HB.out GE597.out GE598.out)));replace BK597:=kb BK597 hb;replace BK598:=kb BK598 hb;replace HB:=ak (below_step (h2 HB.out GE597.out GE598.out) hb);clear hb ho32;obtain⟨Ao33,co33,eo33⟩:=R_slice HO602.out;subst eo33)|(go_at_call 95;(with_reducible refine(impl_Road_areCarriers.calls k a0_0 a0_1 _ _ y600 false _ ?side1 ?side2 A9.out).mono ?_);(case side1=>exact cm (R_reads' HO602.out).2.2);(case side2=>exact(R_reads' HO602.out).2.1);rintro e w34 ⟨rfl,hb⟩;replace HO602:=rb HO602 hb;replace BK597:=kb BK597 hb;replace BK598:=kb BK598 hb;replace HB:=ak (below_step (h2 HB.out GE597.out GE598.out) hb);(try clear hb);(try clear hk);(try clear hi)))
   go_meet
   case rel=>exact⟨_,(true),fd,H',⟨by first|exact Nat.le_refl _|omega⟩,⟨bm BK597.out⟩,⟨bm BK598.out⟩,⟨h2 HB.out GE597.out GE598.out⟩⟩
  subst c10
  rw[if_pos rfl]at H
  generalize hy604: ([a2]:List Int)=y604 at H
  have Ny604:=ak hy604.symm
  clear hy604
  obtain⟨t607,A11,H⟩:=bd H;(try dsimp only at H)
  have H':=Aside0.mk H
  clear H
  have hnb12:=NB597_598.out
  have hnc12:=NB598_597.out
  have hcz13_0:=bc BK597 0 rfl
  have hcz13_1:=bc BK597 1 rfl
  have hfz13_0:=bf BK597 0
  have hfz13_1:=bf BK597 1
  go_wp2_with (first|(refine gs 11 Try.func94 #[.agg #[.int .i64 a0_0,.bool a0_1]] ?_;(with_reducible refine(impl_isLine.calls a0_0 a0_1 true _ A7.out).mono ?_);rintro e w14 ⟨rfl,hb⟩;refine⟨_,rfl,?_⟩;replace BK597:=kb BK597 hb;replace BK598:=kb BK598 hb;replace HB:=ak (below_step (h2 HB.out GE597.out GE598.out) hb);(try clear hb);(try clear hk);(try clear hi);have hcz15_0:=bc BK597 0 rfl;have hcz15_1:=bc BK597 1 rfl;have hfz15_0:=bf BK597 0;have hfz15_1:=bf BK597 1;have hcz16_0:=bc BK598 0 rfl;have hcz16_1:=bc BK598 1 rfl;have hcz16_2:=bc BK598 2 rfl;have hfz16_0:=bf BK598 0;have hfz16_1:=bf BK598 1;have hfz16_2:=bf BK598 2)|((with_reducible refine gate_dst (N:=16) rfl ?_);(try(refine gate_guard (by rfl) ?_;dsimp only));refine R_lit k63 _ 63 ?hg (N:=16) ?hd (xs:=([(⟨a1_0,a1_1,a1_2⟩:S63)]:List (S63))) (inner:=[.int .i64 a1_0,.int .i64 a1_1,.int .i64 a1_2]) (ok:=fun _=>True) (okp:=fun _=>True) ?hr ?hp (fun _ hk=>hk) trivial (Below.refl _ _) (Nat.le_refl _) (by simp) ?_;(case hd=>rfl);(case hg=>rfl);(case hr=>first|(go_simp;done)|(go_simp;rfl));(case hp=>exact(Reps.c3 (show Kd.M k63 _ _ _ (⟨a1_0,a1_1,a1_2⟩:S63) [.int .i64 a1_0,.int .i64 a1_1,.int .i64 a1_2]from(k63_mkM _ _ _ (⟨a1_0,a1_1,a1_2⟩:S63))) (Reps.none _ _)));intro v601 w17 ho18 hb hg_ hnew_;clear hg_ hnew_;(first|rw[←Ny600.out]at ho18|(simp only[Int.reduceToNat]at ho18;rw[←Ny600.out]at ho18));have HO602:=ak (R_lower (R_newB ho18 (g:=gb598) (o:=.cells #[.int .i64 a1_0,.int .i64 a1_1,.int .i64 a1_2] 63 (0,0)) (bm BK598.out)) (below_size (h2 HB.out GE597.out GE598.out)));replace BK597:=kb BK597 hb;replace BK598:=kb BK598 hb;replace HB:=ak (below_step (h2 HB.out GE597.out GE598.out) hb);clear hb ho18;obtain⟨Ao19,co19,eo19⟩:=R_slice HO602.out;subst eo19)|(go_at_call 95;(with_reducible refine(impl_Road_areCarriers.calls k a0_0 a0_1 _ _ y600 true _ ?side1 ?side2 A9.out).mono ?_);(case side1=>exact cm (R_reads' HO602.out).2.2);(case side2=>exact(R_reads' HO602.out).2.1);rintro e w20 ⟨rfl,hb⟩;replace HO602:=rb HO602 hb;replace BK597:=kb BK597 hb;replace BK598:=kb BK598 hb;replace HB:=ak (below_step (h2 HB.out GE597.out GE598.out) hb);(try clear hb);(try clear hk);(try clear hi);have hcz21_0:=bc BK597 0 rfl;have hcz21_1:=bc BK597 1 rfl;have hfz21_0:=bf BK597 0;have hfz21_1:=bf BK597 1)|((with_reducible refine gate_dst (N:=23) rfl ?_);(try(refine gate_guard (by rfl) ?_;dsimp only));refine R_lit (Kd.int .i64) _ 3 ?hg (N:=23) ?hd (xs:=([a2]:List Int)) (inner:=[.int .i64 a2]) (ok:=fun _=>True) (okp:=fun _=>True) ?hr ?hp (fun _ hk=>hk) trivial (Below.refl _ _) (Nat.le_refl _) (by simp) ?_;(case hd=>rfl);(case hg=>rfl);(case hr=>first|(go_simp;done)|(go_simp;rfl));(case hp=>exact(Reps.one (show Kd.M (Kd.int .i64) _ _ _ a2 [.int .i64 a2]from rfl) (Reps.none _ _)));intro v605 w22 ho23 hb hg_ hnew_;clear hg_ hnew_;(first|rw[←Ny604.out]at ho23|(simp only[Int.reduceToNat]at ho23;rw[←Ny604.out]at ho23));replace HO602:=rb HO602 hb;have HO606:=ak (R_lower ho23 (below_size (h2 HB.out GE597.out GE598.out)));replace BK597:=kb BK597 hb;replace BK598:=kb BK598 hb;replace HB:=ak (below_step (h2 HB.out GE597.out GE598.out) hb);clear hb ho23;obtain⟨Ao24,co24,eo24⟩:=R_slice HO606.out;subst eo24)|(go_at_call 88;(with_reducible refine(impl_Road_has.calls k a0_0 a0_1 _ _ y604 t607 _ ?side1 ?side2 A11.out).mono ?_);(case side1=>exact cm (R_reads' HO606.out).2.2);(case side2=>exact(R_reads' HO606.out).2.1);rintro e w25 ⟨rfl,hb⟩;replace HO602:=rb HO602 hb;replace HO606:=rb HO606 hb;replace BK597:=kb BK597 hb;replace BK598:=kb BK598 hb;replace HB:=ak (below_step (h2 HB.out GE597.out GE598.out) hb);(try clear hb);(try clear hk);(try clear hi)))
  go_meet
  case rel=>exact⟨_,(!t607),fd,H',⟨by first|exact Nat.le_refl _|omega⟩,⟨bm BK597.out⟩,⟨bm BK598.out⟩,⟨h2 HB.out GE597.out GE598.out⟩⟩
 clear HC4
 try clear c1
 try clear c2
 try clear p2
 try clear c3
 try clear c5
 try clear c8
 try clear c9
 try clear c10
 try clear c12
 try clear c26
 try clear c35
 try clear hcz13_0
 try clear hcz13_1
 try clear hcz15_0
 try clear hcz15_1
 try clear hcz16_0
 try clear hcz16_1
 try clear hcz16_2
 try clear hcz21_0
 try clear hcz21_1
 try clear hcz27_0
 try clear hcz27_1
 try clear hcz29_0
 try clear hcz29_1
 try clear hcz30_0
 try clear hcz30_1
 try clear hcz30_2
 try clear hcz36_0
 try clear hcz36_1
 try clear hfz13_0
 try clear hfz13_1
 try clear hfz15_0
 try clear hfz15_1
 try clear hfz16_0
 try clear hfz16_1
 try clear hfz16_2
 try clear hfz21_0
 try clear hfz21_1
 try clear hfz27_0
 try clear hfz27_1
 try clear hfz29_0
 try clear hfz29_1
 try clear hfz30_0
 try clear hfz30_1
 try clear hfz30_2
 try clear hfz36_0
 try clear hfz36_1
 obtain⟨kq,x26_3,rfl,HA,HJ3,BK597,BK598,HB⟩:=hcut
 obtain _|kj3:=kq;·cases HA.out
 obtain⟨H⟩:=HA
 simp only[impl_LegEnd.j0]at H
 by_cases c38:x26_3=true
 ·subst c38
  rw[if_pos rfl]at H
  simp only[Option.some.injEq,Prod.mk.injEq]at H
  obtain⟨rfl,rfl⟩:=H
  go_wp2
  go_ret2
  exact⟨fe,h2 HB.out GE597.out GE598.out⟩
 replace c38:=Bool.eq_false_iff.mpr c38
 subst c38
 rw[if_neg (show ¬(false=true)by decide)]at H
 obtain⟨⟨t608,t609⟩,A39,H⟩:=bd H;(try dsimp only at H)
 by_cases c40:t609=true
 ·subst c40
  rw[if_pos rfl]at H
  simp only[Option.some.injEq,Prod.mk.injEq]at H
  obtain⟨rfl,rfl⟩:=H
  have hnb41:=NB597_598.out
  have hnc41:=NB598_597.out
  have hcz42_0:=bc BK597 0 rfl
  have hcz42_1:=bc BK597 1 rfl
  have hfz42_0:=bf BK597 0
  have hfz42_1:=bf BK597 1
  have hcz43_0:=bc BK598 0 rfl
  have hcz43_1:=bc BK598 1 rfl
  have hcz43_2:=bc BK598 2 rfl
  have hfz43_0:=bf BK598 0
  have hfz43_1:=bf BK598 1
  have hfz43_2:=bf BK598 2
  go_wp2_with (first|(refine gs 31 Try.func96 #[.agg #[.int .i64 a0_0,.bool a0_1],.agg #[.int .i64 a1_0,.int .i64 a1_1,.int .i64 a1_2],.int .i64 a2] ?_;(with_reducible refine(impl_Road_legEnd.calls a0_0 a0_1 a1_0 a1_1 a1_2 a2 t608 true _ A39.out).mono ?_);rintro e w44 ⟨rfl,hb⟩;refine⟨_,rfl,?_⟩;replace BK597:=kb BK597 hb;replace BK598:=kb BK598 hb;replace HB:=ak (below_step (h2 HB.out GE597.out GE598.out) hb);(try clear hb);(try clear hk);(try clear hi)))
  go_ret2
  exact⟨fe,h2 HB.out GE597.out GE598.out⟩
 replace c40:=Bool.eq_false_iff.mpr c40
 subst c40
 rw[if_neg (show ¬(false=true)by decide)]at H
 simp only[Option.some.injEq,Prod.mk.injEq]at H
 obtain⟨rfl,rfl⟩:=H
 have hnb45:=NB597_598.out
 have hnc45:=NB598_597.out
 have hcz46_0:=bc BK597 0 rfl
 have hcz46_1:=bc BK597 1 rfl
 have hfz46_0:=bf BK597 0
 have hfz46_1:=bf BK597 1
 have hcz47_0:=bc BK598 0 rfl
 have hcz47_1:=bc BK598 1 rfl
 have hcz47_2:=bc BK598 2 rfl
 have hfz47_0:=bf BK598 0
 have hfz47_1:=bf BK598 1
 have hfz47_2:=bf BK598 2
 go_wp2_with (first|(refine gs 31 Try.func96 #[.agg #[.int .i64 a0_0,.bool a0_1],.agg #[.int .i64 a1_0,.int .i64 a1_1,.int .i64 a1_2],.int .i64 a2] ?_;(with_reducible refine(impl_Road_legEnd.calls a0_0 a0_1 a1_0 a1_1 a1_2 a2 t608 false _ A39.out).mono ?_);rintro e w48 ⟨rfl,hb⟩;refine⟨_,rfl,?_⟩;replace BK597:=kb BK597 hb;replace BK598:=kb BK598 hb;replace HB:=ak (below_step (h2 HB.out GE597.out GE598.out) hb);(try clear hb);(try clear hk);(try clear hi)))
 go_ret2
 exact⟨fe,h2 HB.out GE597.out GE598.out⟩
def spec_LegEnd.f (a0_0:Int) (a0_1:Bool) (a1_0:Int) (a1_1:Int) (a1_2:Int) (a2:Int):Option (Int × Bool):=(spec_l7Carrier.f a0_0 a0_1 a1_0 a1_1 a1_2).bind fun t612=>(if t612=true then((spec_l2Place.f a0_0 a0_1 a2).bind fun t613=>(if t613=true then((spec_l7End.f a0_0 a0_1 a1_0 a1_1 a1_2 a2).bind fun t614=>(if t614<0 then(some (0,false))else((spec_l7End.f a0_0 a0_1 a1_0 a1_1 a1_2 a2).bind fun t615=>(some (t615,true)))))else(some (0,false))))else(some (0,false)))
set_option maxHeartbeats 8000000 in
set_option maxRecDepth 100000 in
theorem spec_LegEnd.calls (a0_0:Int) (a0_1:Bool) (a1_0:Int) (a1_1:Int) (a1_2:Int) (a2:Int) (r1:Int) (r2:Bool) (w:World) (h:spec_LegEnd.f a0_0 a0_1 a1_0 a1_1 a1_2 a2=some (r1,r2)):
  Calls Try.prog 51 #[.agg #[.int .i64 a0_0,.bool a0_1],.agg #[.int .i64 a1_0,.int .i64 a1_1,.int .i64 a1_2],.int .i64 a2] w fun e w'=>e= .returned (.tuple #[.int .i64 r1,.bool r2])∧Below w.heap.size w w':=by
 have hu28:=Try.underlying28
 have hu63:=Try.underlying63
 have HB:=Aside0.mk (Below.refl w.heap.size w)
 unfold spec_LegEnd.f at h
 have H:=h
 clear h
 obtain⟨t612,A4,H⟩:=bd H;(try dsimp only at H)
 by_cases c5:t612=true
 rotate_left
 ·replace c5:=Bool.eq_false_iff.mpr c5
  subst c5
  rw[if_neg (show ¬(false=true)by decide)]at H
  simp only[Option.some.injEq,Prod.mk.injEq]at H
  obtain⟨rfl,rfl⟩:=H
  go_enter Try.func51,Try.ntmps51
  go_wp2_with (first|(refine bx 3 #[.int .i64 a0_0,.bool a0_1] 28 ?_;intro gb610 hg w44 hbox hb;have BK610:=ak hbox;have GW610:=gw HB hg;have GE610:=gw HB hg;replace HB:=bs HB hb;clear hb hbox hg)|(refine bx 4 #[.int .i64 a1_0,.int .i64 a1_1,.int .i64 a1_2] 63 ?_;intro gb611 hg w45 hbox hb;have BK611:=ak hbox;have GW611:=ak ((by rw[hg];exact(below_size (h1 HB.out GE610.out)):w.heap.size≤gb611));have GE611:=ak ((by rw[hg];exact(below_size (h1 HB.out GE610.out)):w.heap.size≤gb611));replace HB:=ak (below_step (h1 HB.out GE610.out) hb);have NB610_611:=nl BK610 hg;have NB611_610:=ng BK610 hg;replace BK610:=kb BK610 hb;clear hb hbox hg;have hnb46:=NB610_611.out;have hnc46:=NB611_610.out;have hcz47_0:=bc BK610 0 rfl;have hcz47_1:=bc BK610 1 rfl;have hfz47_0:=bf BK610 0;have hfz47_1:=bf BK610 1;have hcz48_0:=bc BK611 0 rfl;have hcz48_1:=bc BK611 1 rfl;have hcz48_2:=bc BK611 2 rfl;have hfz48_0:=bf BK611 0;have hfz48_1:=bf BK611 1;have hfz48_2:=bf BK611 2)|(refine gs 10 Try.func97 #[.agg #[.int .i64 a0_0,.bool a0_1],.agg #[.int .i64 a1_0,.int .i64 a1_1,.int .i64 a1_2]] ?_;(with_reducible refine(spec_l7Carrier.calls a0_0 a0_1 a1_0 a1_1 a1_2 false _ A4.out).mono ?_);rintro e w49 ⟨rfl,hb⟩;refine⟨_,rfl,?_⟩;replace BK610:=kb BK610 hb;replace BK611:=kb BK611 hb;replace HB:=ak (below_step (h2 HB.out GE610.out GE611.out) hb);(try clear hb);(try clear hk);(try clear hi)))
  go_ret2
  exact⟨fe,h2 HB.out GE610.out GE611.out⟩
 subst c5
 rw[if_pos rfl]at H
 obtain⟨t613,A6,H⟩:=bd H;(try dsimp only at H)
 by_cases c7:t613=true
 rotate_left
 ·replace c7:=Bool.eq_false_iff.mpr c7
  subst c7
  rw[if_neg (show ¬(false=true)by decide)]at H
  simp only[Option.some.injEq,Prod.mk.injEq]at H
  obtain⟨rfl,rfl⟩:=H
  go_enter Try.func51,Try.ntmps51
  go_wp2_with (first|(refine bx 3 #[.int .i64 a0_0,.bool a0_1] 28 ?_;intro gb610 hg w36 hbox hb;have BK610:=ak hbox;have GW610:=gw HB hg;have GE610:=gw HB hg;replace HB:=bs HB hb;clear hb hbox hg)|(refine bx 4 #[.int .i64 a1_0,.int .i64 a1_1,.int .i64 a1_2] 63 ?_;intro gb611 hg w37 hbox hb;have BK611:=ak hbox;have GW611:=ak ((by rw[hg];exact(below_size (h1 HB.out GE610.out)):w.heap.size≤gb611));have GE611:=ak ((by rw[hg];exact(below_size (h1 HB.out GE610.out)):w.heap.size≤gb611));replace HB:=ak (below_step (h1 HB.out GE610.out) hb);have NB610_611:=nl BK610 hg;have NB611_610:=ng BK610 hg;replace BK610:=kb BK610 hb;clear hb hbox hg;have hnb38:=NB610_611.out;have hnc38:=NB611_610.out;have hcz39_0:=bc BK610 0 rfl;have hcz39_1:=bc BK610 1 rfl;have hfz39_0:=bf BK610 0;have hfz39_1:=bf BK610 1;have hcz40_0:=bc BK611 0 rfl;have hcz40_1:=bc BK611 1 rfl;have hcz40_2:=bc BK611 2 rfl;have hfz40_0:=bf BK611 0;have hfz40_1:=bf BK611 1;have hfz40_2:=bf BK611 2)|(refine gs 10 Try.func97 #[.agg #[.int .i64 a0_0,.bool a0_1],.agg #[.int .i64 a1_0,.int .i64 a1_1,.int .i64 a1_2]] ?_;(with_reducible refine(spec_l7Carrier.calls a0_0 a0_1 a1_0 a1_1 a1_2 true _ A4.out).mono ?_);rintro e w41 ⟨rfl,hb⟩;refine⟨_,rfl,?_⟩;replace BK610:=kb BK610 hb;replace BK611:=kb BK611 hb;replace HB:=ak (below_step (h2 HB.out GE610.out GE611.out) hb);(try clear hb);(try clear hk);(try clear hi);have hcz42_0:=bc BK610 0 rfl;have hcz42_1:=bc BK610 1 rfl;have hfz42_0:=bf BK610 0;have hfz42_1:=bf BK610 1)|(go_at_call 78;(with_reducible refine(spec_l2Place.calls a0_0 a0_1 a2 false _ A6.out).mono ?_);rintro e w43 ⟨rfl,hb⟩;replace BK610:=kb BK610 hb;replace BK611:=kb BK611 hb;replace HB:=ak (below_step (h2 HB.out GE610.out GE611.out) hb);(try clear hb);(try clear hk);(try clear hi)))
  go_ret2
  exact⟨fe,h2 HB.out GE610.out GE611.out⟩
 subst c7
 rw[if_pos rfl]at H
 obtain⟨t614,A8,H⟩:=bd H;(try dsimp only at H)
 by_cases c9:t614<0
 ·rw[if_pos c9]at H
  have c9b0:decide (t614<0)=true:=decide_eq_true c9
  clear c9
  simp only[Option.some.injEq,Prod.mk.injEq]at H
  obtain⟨rfl,rfl⟩:=H
  go_enter Try.func51,Try.ntmps51
  go_wp2_with (first|(refine bx 3 #[.int .i64 a0_0,.bool a0_1] 28 ?_;intro gb610 hg w10 hbox hb;have BK610:=ak hbox;have GW610:=gw HB hg;have GE610:=gw HB hg;replace HB:=bs HB hb;clear hb hbox hg)|(refine bx 4 #[.int .i64 a1_0,.int .i64 a1_1,.int .i64 a1_2] 63 ?_;intro gb611 hg w11 hbox hb;have BK611:=ak hbox;have GW611:=ak ((by rw[hg];exact(below_size (h1 HB.out GE610.out)):w.heap.size≤gb611));have GE611:=ak ((by rw[hg];exact(below_size (h1 HB.out GE610.out)):w.heap.size≤gb611));replace HB:=ak (below_step (h1 HB.out GE610.out) hb);have NB610_611:=nl BK610 hg;have NB611_610:=ng BK610 hg;replace BK610:=kb BK610 hb;clear hb hbox hg;have hnb12:=NB610_611.out;have hnc12:=NB611_610.out;have hcz13_0:=bc BK610 0 rfl;have hcz13_1:=bc BK610 1 rfl;have hfz13_0:=bf BK610 0;have hfz13_1:=bf BK610 1;have hcz14_0:=bc BK611 0 rfl;have hcz14_1:=bc BK611 1 rfl;have hcz14_2:=bc BK611 2 rfl;have hfz14_0:=bf BK611 0;have hfz14_1:=bf BK611 1;have hfz14_2:=bf BK611 2)|(refine gs 10 Try.func97 #[.agg #[.int .i64 a0_0,.bool a0_1],.agg #[.int .i64 a1_0,.int .i64 a1_1,.int .i64 a1_2]] ?_;(with_reducible refine(spec_l7Carrier.calls a0_0 a0_1 a1_0 a1_1 a1_2 true _ A4.out).mono ?_);rintro e w15 ⟨rfl,hb⟩;refine⟨_,rfl,?_⟩;replace BK610:=kb BK610 hb;replace BK611:=kb BK611 hb;replace HB:=ak (below_step (h2 HB.out GE610.out GE611.out) hb);(try clear hb);(try clear hk);(try clear hi);have hcz16_0:=bc BK610 0 rfl;have hcz16_1:=bc BK610 1 rfl;have hfz16_0:=bf BK610 0;have hfz16_1:=bf BK610 1)|(go_at_call 78;(with_reducible refine(spec_l2Place.calls a0_0 a0_1 a2 true _ A6.out).mono ?_);rintro e w17 ⟨rfl,hb⟩;replace BK610:=kb BK610 hb;replace BK611:=kb BK611 hb;replace HB:=ak (below_step (h2 HB.out GE610.out GE611.out) hb);(try clear hb);(try clear hk);(try clear hi);have hcz18_0:=bc BK610 0 rfl;have hcz18_1:=bc BK610 1 rfl;have hfz18_0:=bf BK610 0;have hfz18_1:=bf BK610 1;have hcz19_0:=bc BK611 0 rfl;have hcz19_1:=bc BK611 1 rfl;have hcz19_2:=bc BK611 2 rfl;have hfz19_0:=bf BK611 0;have hfz19_1:=bf BK611 1;have hfz19_2:=bf BK611 2)|(go_at_call 98;(with_reducible refine(spec_l7End.calls a0_0 a0_1 a1_0 a1_1 a1_2 a2 t614 _ A8.out).mono ?_);rintro e w20 ⟨rfl,hb⟩;replace BK610:=kb BK610 hb;replace BK611:=kb BK611 hb;replace HB:=ak (below_step (h2 HB.out GE610.out GE611.out) hb);(try clear hb);(try clear hk);(try clear hi)))
  go_ret2
  exact⟨fe,h2 HB.out GE610.out GE611.out⟩
 rw[if_neg c9]at H
 have c9b0:decide (t614<0)=false:=decide_eq_false c9
 clear c9
 obtain⟨t615,A21,H⟩:=bd H;(try dsimp only at H)
 simp only[Option.some.injEq,Prod.mk.injEq]at H
 obtain⟨rfl,rfl⟩:=H
 go_enter Try.func51,Try.ntmps51
 go_wp2_with (first|(refine bx 3 #[.int .i64 a0_0,.bool a0_1] 28 ?_;intro gb610 hg w22 hbox hb;have BK610:=ak hbox;have GW610:=gw HB hg;have GE610:=gw HB hg;replace HB:=bs HB hb;clear hb hbox hg)|(refine bx 4 #[.int .i64 a1_0,.int .i64 a1_1,.int .i64 a1_2] 63 ?_;intro gb611 hg w23 hbox hb;have BK611:=ak hbox;have GW611:=ak ((by rw[hg];exact(below_size (h1 HB.out GE610.out)):w.heap.size≤gb611));have GE611:=ak ((by rw[hg];exact(below_size (h1 HB.out GE610.out)):w.heap.size≤gb611));replace HB:=ak (below_step (h1 HB.out GE610.out) hb);have NB610_611:=nl BK610 hg;have NB611_610:=ng BK610 hg;replace BK610:=kb BK610 hb;clear hb hbox hg;have hnb24:=NB610_611.out;have hnc24:=NB611_610.out;have hcz25_0:=bc BK610 0 rfl;have hcz25_1:=bc BK610 1 rfl;have hfz25_0:=bf BK610 0;have hfz25_1:=bf BK610 1;have hcz26_0:=bc BK611 0 rfl;have hcz26_1:=bc BK611 1 rfl;have hcz26_2:=bc BK611 2 rfl;have hfz26_0:=bf BK611 0;have hfz26_1:=bf BK611 1;have hfz26_2:=bf BK611 2)|(refine gs 10 Try.func97 #[.agg #[.int .i64 a0_0,.bool a0_1],.agg #[.int .i64 a1_0,.int .i64 a1_1,.int .i64 a1_2]] ?_;(with_reducible refine(spec_l7Carrier.calls a0_0 a0_1 a1_0 a1_1 a1_2 true _ A4.out).mono ?_);rintro e w27 ⟨rfl,hb⟩;refine⟨_,rfl,?_⟩;replace BK610:=kb BK610 hb;replace BK611:=kb BK611 hb;replace HB:=ak (below_step (h2 HB.out GE610.out GE611.out) hb);(try clear hb);(try clear hk);(try clear hi);have hcz28_0:=bc BK610 0 rfl;have hcz28_1:=bc BK610 1 rfl;have hfz28_0:=bf BK610 0;have hfz28_1:=bf BK610 1)|(go_at_call 78;(with_reducible refine(spec_l2Place.calls a0_0 a0_1 a2 true _ A6.out).mono ?_);rintro e w29 ⟨rfl,hb⟩;replace BK610:=kb BK610 hb;replace BK611:=kb BK611 hb;replace HB:=ak (below_step (h2 HB.out GE610.out GE611.out) hb);(try clear hb);(try clear hk);(try clear hi);have hcz30_0:=bc BK610 0 rfl;have hcz30_1:=bc BK610 1 rfl;have hfz30_0:=bf BK610 0;have hfz30_1:=bf BK610 1;have hcz31_0:=bc BK611 0 rfl;have hcz31_1:=bc BK611 1 rfl;have hcz31_2:=bc BK611 2 rfl;have hfz31_0:=bf BK611 0;have hfz31_1:=bf BK611 1;have hfz31_2:=bf BK611 2)|(go_at_call 98;(with_reducible refine(spec_l7End.calls a0_0 a0_1 a1_0 a1_1 a1_2 a2 t614 _ A8.out).mono ?_);rintro e w32 ⟨rfl,hb⟩;replace BK610:=kb BK610 hb;replace BK611:=kb BK611 hb;replace HB:=ak (below_step (h2 HB.out GE610.out GE611.out) hb);(try clear hb);(try clear hk);(try clear hi);have hcz33_0:=bc BK610 0 rfl;have hcz33_1:=bc BK610 1 rfl;have hfz33_0:=bf BK610 0;have hfz33_1:=bf BK610 1;have hcz34_0:=bc BK611 0 rfl;have hcz34_1:=bc BK611 1 rfl;have hcz34_2:=bc BK611 2 rfl;have hfz34_0:=bf BK611 0;have hfz34_1:=bf BK611 1;have hfz34_2:=bf BK611 2)|(refine gs 28 Try.func98 #[.agg #[.int .i64 a0_0,.bool a0_1],.agg #[.int .i64 a1_0,.int .i64 a1_1,.int .i64 a1_2],.int .i64 a2] ?_;(with_reducible refine(spec_l7End.calls a0_0 a0_1 a1_0 a1_1 a1_2 a2 t615 _ A21.out).mono ?_);rintro e w35 ⟨rfl,hb⟩;refine⟨_,rfl,?_⟩;replace BK610:=kb BK610 hb;replace BK611:=kb BK611 hb;replace HB:=ak (below_step (h2 HB.out GE610.out GE611.out) hb);(try clear hb);(try clear hk);(try clear hi)))
 go_ret2
 exact⟨fe,h2 HB.out GE610.out GE611.out⟩
def spec_DrawAreCarriers.f (k:Nat) (l0:List Int):Option (Int × Bool × (List (S63))):=(spec_l1Cur_ask7.f k l0 0 0).bind fun bt618=>(some (bt618.1,bt618.2.1,bt618.2.2.1))
theorem spec_DrawAreCarriers.mono:∀ a0 k,LeO (spec_DrawAreCarriers.f k a0) (spec_DrawAreCarriers.f (k+1) a0):=by
 intro a0 k
 unfold spec_DrawAreCarriers.f
 repeat' (with_reducible first|exact spec_l1Cur_ask7.mono ..|exact LeO.refl _|exact LeO.none _|refine LeO.ite ?_ ?_|refine LeO.bind ?_ (fun _=>?_))
set_option maxHeartbeats 8000000 in
set_option maxRecDepth 100000 in
theorem spec_DrawAreCarriers.calls (k:Nat) (A0:Option Addr) (c0:Nat) (l0:List Int) (r1:Int) (r2:Bool) (r3:List (S63)) (w:World) (hr0:Kd.C (Kd.int .u8) w A0 l0.length l0) (hc0:l0.length≤c0) (h:spec_DrawAreCarriers.f k l0=some (r1,r2,r3)):
  Calls Try.prog 52 #[.slice A0 l0.length c0] w fun e w'=>∃ v2_:Value,e= .returned (.tuple #[.agg #[.int .i64 r1,.bool r2],v2_])∧Kd.R k63 63 w' w.heap.size (fun _=>True) v2_ r3∧Below w.heap.size w w':=by
 have hu28:=Try.underlying28
 have hu95:=Try.underlying95
 have HR0:=Aside0.mk hr0
 have HC0:=Aside0.mk hc0
 clear hr0 hc0
 have HB:=Aside0.mk (Below.refl w.heap.size w)
 unfold spec_DrawAreCarriers.f at h
 have H:=h
 clear h
 obtain⟨⟨t618,t619,t620,t623,t624,t625,t626⟩,A2,H⟩:=bd H;(try dsimp only at H)
 simp only[Option.some.injEq,Prod.mk.injEq]at H
 obtain⟨rfl,rfl,rfl⟩:=H
 go_enter Try.func52,Try.ntmps52
 go_wp2_with (first|(refine bx 2 #[.int .i64 0,.bool false] 28 ?_;intro gb616 hg w3 hbox hb;have BK616:=ak hbox;have GW616:=gw HB hg;have GE616:=gw HB hg;replace HB:=bs HB hb;clear hb hbox hg)|(refine bx 11 #[.slice A0 l0.length c0,.int .i64 0,.int .u64 0] 95 ?_;intro gb617 hg w4 hbox hb;have NB616_617:=nl BK616 hg;have NB617_616:=ng BK616 hg;replace BK616:=kb BK616 hb;have HI617:=ak ((⟨_,_,hbox,(by rw[hg];exact(below_size (h1 HB.out GE616.out)):w.heap.size≤gb617),HR0.out⟩:IsS95 w w4 gb617 l0 0 0));replace HB:=ak (below_step (h1 HB.out GE616.out) hb);clear hb hbox hg)|(refine gs 14 Try.func73 #[.pointer (some ⟨gb617,0,none⟩)] ?_;(with_reducible refine(spec_l1Cur_ask7.calls k gb617 l0 0 0 t618 t619 t620 t623 t624 t625 t626 w _ ?side1 ?side2 A2.out).mono ?_);(case side1=>exact IsS95.now HI617.out);(case side2=>exact h2 HB.out (IsS95.ge HI617.out) GE616.out);rintro e w5 ⟨v621,rfl,ho0,hi,hb,hk⟩;refine⟨_,rfl,?_⟩;replace BK616:=kk BK616 hk NB616_617;have HO622:=ak (R_lower ho0 (below_size (h2 HB.out (IsS95.ge HI617.out) GE616.out)));replace HB:=ak hb;replace HI617:=ak hi;(try clear hb);(try clear hk);(try clear hi);(try clear ho0))|(refine bx 5 #[.int .i64 0,.bool false] 28 ?_;intro gb627 hg w6 hbox hb;replace HO622:=rb HO622 hb;have BK627:=ak hbox;have GW627:=ak ((by rw[hg];exact(below_size (h2 HB.out (IsS95.ge HI617.out) GE616.out)):w.heap.size≤gb627));have GE627:=ak ((by rw[hg];exact(below_size (h2 HB.out (IsS95.ge HI617.out) GE616.out)):w.heap.size≤gb627));replace HB:=ak (below_step (h2 HB.out (IsS95.ge HI617.out) GE616.out) hb);have NB616_627:=nl BK616 hg;have NB627_616:=ng BK616 hg;replace BK616:=kb BK616 hb;have NB617_627:=ak ((by rw[hg];exact Nat.ne_of_lt (IsS95.lt (show IsS95 w _ gb617 l0 t625 t626 from by exact IsS95.now HI617.out)):gb617≠gb627));have NB627_617:=ak ((by rw[hg];exact Nat.ne_of_gt (IsS95.lt (show IsS95 w _ gb617 l0 t625 t626 from by exact IsS95.now HI617.out)):gb627≠gb617));replace HI617:=ak (IsS95.below (by exact IsS95.now HI617.out) hb);clear hb hbox hg;have hnb7:=NB627_616.out;have hnc7:=NB616_627.out;have hnb8:=NB627_617.out;have hnc8:=NB617_627.out;have hcz9_0:=bc BK627 0 rfl;have hcz9_1:=bc BK627 1 rfl;have hfz9_0:=bf BK627 0;have hfz9_1:=bf BK627 1;have hnb10:=NB616_617.out;have hnc10:=NB617_616.out;have hcz11_0:=bc BK616 0 rfl;have hcz11_1:=bc BK616 1 rfl;have hfz11_0:=bf BK616 0;have hfz11_1:=bf BK616 1))
 refine bodyPost_ret (results_ct rfl _ _ gb616 28 #[.int .i64 t618,.bool t619] (0,0) _ rfl (by(with_reducible repeat(first|apply blk_drewN|apply blk_drew|apply blk_alloc));refine blk_put (cs:=#[.int .i64 t618,.bool false]) ?_ 1 _ rfl;(with_reducible repeat(first|apply blk_drewN|apply blk_drew|apply blk_alloc));refine blk_put (cs:=#[.int .i64 0,.bool false]) ?_ 0 _ rfl;(with_reducible repeat(first|apply blk_drewN|apply blk_drew|apply blk_alloc));refine blk_far ?_ NB616_627.out _;(with_reducible repeat(first|apply blk_drewN|apply blk_drew|apply blk_alloc));refine blk_far ?_ NB616_627.out _;exact bm BK616.out) Try.underlying28 rfl (by kernel_rfl)) rfl ?_
 exact⟨_,fe,by(with_reducible repeat(first|apply R_alloc|apply R_drewN|apply R_drew));exact R_mono (R_far (p:=⟨gb616,1,none⟩) (R_far (p:=⟨gb616,0,none⟩) (R_far (p:=⟨gb627,1,none⟩) (R_far (p:=⟨gb627,0,none⟩) (R_types (R_types HO622.out BK627.out (by decide)) BK616.out (by decide)) (fun _ hk=>hk.1.2) (.int .i64 t618)) (fun _ hk=>hk.1.2) (.bool t619)) (fun _ hk=>hk.2) (.int .i64 t618)) (fun _ hk=>hk.2) (.bool t619)) (fun _ hk=>trivial),h3 HB.out (IsS95.ge HI617.out) GE616.out GE627.out⟩
def impl_AreCarriers.f (k:Nat) (a0_0:Int) (a0_1:Bool) (l1:List (S63)):Option (Bool × Bool):=(impl_isLine.f a0_0 a0_1).bind fun t629=>(if t629=true then((impl_Road_areCarriers.f k a0_0 a0_1 l1).bind fun t630=>(some (t630,true)))else(some (false,false)))
theorem impl_AreCarriers.mono:∀ a0 a1 a2 k,LeO (impl_AreCarriers.f k a0 a1 a2) (impl_AreCarriers.f (k+1) a0 a1 a2):=by
 intro a0 a1 a2 k
 unfold impl_AreCarriers.f
 repeat' (with_reducible first|exact impl_Road_areCarriers.mono ..|exact LeO.refl _|exact LeO.none _|refine LeO.ite ?_ ?_|refine LeO.bind ?_ (fun _=>?_))
set_option maxHeartbeats 8000000 in
set_option maxRecDepth 100000 in
theorem impl_AreCarriers.calls (k:Nat) (a0_0:Int) (a0_1:Bool) (A1:Option Addr) (c1:Nat) (l1:List (S63)) (r1:Bool) (r2:Bool) (w:World) (hr1:Kd.C k63 w A1 l1.length l1) (hc1:l1.length≤c1) (h:impl_AreCarriers.f k a0_0 a0_1 l1=some (r1,r2)):
  Calls Try.prog 53 #[.agg #[.int .i64 a0_0,.bool a0_1],.slice A1 l1.length c1] w fun e w'=>e= .returned (.tuple #[.bool r1,.bool r2])∧Below w.heap.size w w':=by
 have hu28:=Try.underlying28
 have HR1:=Aside0.mk hr1
 have HC1:=Aside0.mk hc1
 clear hr1 hc1
 have HB:=Aside0.mk (Below.refl w.heap.size w)
 unfold impl_AreCarriers.f at h
 have H:=h
 clear h
 obtain⟨t629,A3,H⟩:=bd H;(try dsimp only at H)
 by_cases c4:t629=true
 rotate_left
 ·replace c4:=Bool.eq_false_iff.mpr c4
  subst c4
  rw[if_neg (show ¬(false=true)by decide)]at H
  simp only[Option.some.injEq,Prod.mk.injEq]at H
  obtain⟨rfl,rfl⟩:=H
  go_enter Try.func53,Try.ntmps53
  go_wp2_with (first|(refine bx 2 #[.int .i64 a0_0,.bool a0_1] 28 ?_;intro gb628 hg w11 hbox hb;have BK628:=ak hbox;have GW628:=gw HB hg;have GE628:=gw HB hg;replace HB:=bs HB hb;clear hb hbox hg;have hcz12_0:=bc BK628 0 rfl;have hcz12_1:=bc BK628 1 rfl;have hfz12_0:=bf BK628 0;have hfz12_1:=bf BK628 1)|(refine gs 7 Try.func94 #[.agg #[.int .i64 a0_0,.bool a0_1]] ?_;(with_reducible refine(impl_isLine.calls a0_0 a0_1 false _ A3.out).mono ?_);rintro e w13 ⟨rfl,hb⟩;refine⟨_,rfl,?_⟩;replace BK628:=kb BK628 hb;replace HB:=ak (below_step (h1 HB.out GE628.out) hb);(try clear hb);(try clear hk);(try clear hi)))
  go_ret2
  exact⟨fe,h1 HB.out GE628.out⟩
 subst c4
 rw[if_pos rfl]at H
 obtain⟨t630,A5,H⟩:=bd H;(try dsimp only at H)
 simp only[Option.some.injEq,Prod.mk.injEq]at H
 obtain⟨rfl,rfl⟩:=H
 go_enter Try.func53,Try.ntmps53
 go_wp2_with (first|(refine bx 2 #[.int .i64 a0_0,.bool a0_1] 28 ?_;intro gb628 hg w6 hbox hb;have BK628:=ak hbox;have GW628:=gw HB hg;have GE628:=gw HB hg;replace HB:=bs HB hb;clear hb hbox hg;have hcz7_0:=bc BK628 0 rfl;have hcz7_1:=bc BK628 1 rfl;have hfz7_0:=bf BK628 0;have hfz7_1:=bf BK628 1)|(refine gs 7 Try.func94 #[.agg #[.int .i64 a0_0,.bool a0_1]] ?_;(with_reducible refine(impl_isLine.calls a0_0 a0_1 true _ A3.out).mono ?_);rintro e w8 ⟨rfl,hb⟩;refine⟨_,rfl,?_⟩;replace BK628:=kb BK628 hb;replace HB:=ak (below_step (h1 HB.out GE628.out) hb);(try clear hb);(try clear hk);(try clear hi);have hcz9_0:=bc BK628 0 rfl;have hcz9_1:=bc BK628 1 rfl;have hfz9_0:=bf BK628 0;have hfz9_1:=bf BK628 1)|(refine gs 11 Try.func95 #[.agg #[.int .i64 a0_0,.bool a0_1],.slice A1 l1.length c1] ?_;(with_reducible refine(impl_Road_areCarriers.calls k a0_0 a0_1 _ _ l1 t630 _ ?side1 ?side2 A5.out).mono ?_);(case side1=>exact cm (C_below HR1.out HB.out));(case side2=>exact HC1.out);rintro e w10 ⟨rfl,hb⟩;refine⟨_,rfl,?_⟩;replace BK628:=kb BK628 hb;replace HB:=ak (below_step (h1 HB.out GE628.out) hb);(try clear hb);(try clear hk);(try clear hi)))
 go_ret2
 exact⟨fe,h1 HB.out GE628.out⟩
def spec_AreCarriers.f (k:Nat) (a0_0:Int) (a0_1:Bool) (l1:List (S63)):Option (Bool × Bool):=(spec_l2Road.f a0_0 a0_1).bind fun t632=>(if t632=true then(if a0_1=true then(some (false,false))else((spec_l7Carriers.f k a0_0 a0_1 l1).bind fun t633=>(some (t633,true))))else(some (false,false)))
theorem spec_AreCarriers.mono:∀ a0 a1 a2 k,LeO (spec_AreCarriers.f k a0 a1 a2) (spec_AreCarriers.f (k+1) a0 a1 a2):=by
 intro a0 a1 a2 k
 unfold spec_AreCarriers.f
 repeat' (with_reducible first|exact spec_l7Carriers.mono ..|exact LeO.refl _|exact LeO.none _|refine LeO.ite ?_ ?_|refine LeO.bind ?_ (fun _=>?_))
set_option maxHeartbeats 8000000 in
set_option maxRecDepth 100000 in
theorem spec_AreCarriers.calls (k:Nat) (a0_0:Int) (a0_1:Bool) (A1:Option Addr) (c1:Nat) (l1:List (S63)) (r1:Bool) (r2:Bool) (w:World) (hr1:Kd.C k63 w A1 l1.length l1) (hc1:l1.length≤c1) (h:spec_AreCarriers.f k a0_0 a0_1 l1=some (r1,r2)):
  Calls Try.prog 54 #[.agg #[.int .i64 a0_0,.bool a0_1],.slice A1 l1.length c1] w fun e w'=>e= .returned (.tuple #[.bool r1,.bool r2])∧Below w.heap.size w w':=by
 have hu28:=Try.underlying28
 have HR1:=Aside0.mk hr1
 have HC1:=Aside0.mk hc1
 clear hr1 hc1
 have HB:=Aside0.mk (Below.refl w.heap.size w)
 unfold spec_AreCarriers.f at h
 have H:=h
 clear h
 obtain⟨t632,A3,H⟩:=bd H;(try dsimp only at H)
 by_cases c4:t632=true
 rotate_left
 ·replace c4:=Bool.eq_false_iff.mpr c4
  subst c4
  rw[if_neg (show ¬(false=true)by decide)]at H
  simp only[Option.some.injEq,Prod.mk.injEq]at H
  obtain⟨rfl,rfl⟩:=H
  go_enter Try.func54,Try.ntmps54
  go_wp2_with (first|(refine bx 2 #[.int .i64 a0_0,.bool a0_1] 28 ?_;intro gb631 hg w16 hbox hb;have BK631:=ak hbox;have GW631:=gw HB hg;have GE631:=gw HB hg;replace HB:=bs HB hb;clear hb hbox hg;have hcz17_0:=bc BK631 0 rfl;have hcz17_1:=bc BK631 1 rfl;have hfz17_0:=bf BK631 0;have hfz17_1:=bf BK631 1)|(refine gs 7 Try.func99 #[.agg #[.int .i64 a0_0,.bool a0_1]] ?_;(with_reducible refine(spec_l2Road.calls a0_0 a0_1 false _ A3.out).mono ?_);rintro e w18 ⟨rfl,hb⟩;refine⟨_,rfl,?_⟩;replace BK631:=kb BK631 hb;replace HB:=ak (below_step (h1 HB.out GE631.out) hb);(try clear hb);(try clear hk);(try clear hi)))
  go_ret2
  exact⟨fe,h1 HB.out GE631.out⟩
 subst c4
 rw[if_pos rfl]at H
 by_cases c5:a0_1=true
 ·subst c5
  rw[if_pos rfl]at H
  simp only[Option.some.injEq,Prod.mk.injEq]at H
  obtain⟨rfl,rfl⟩:=H
  go_enter Try.func54,Try.ntmps54
  go_wp2_with (first|(refine bx 2 #[.int .i64 a0_0,.bool true] 28 ?_;intro gb631 hg w6 hbox hb;have BK631:=ak hbox;have GW631:=gw HB hg;have GE631:=gw HB hg;replace HB:=bs HB hb;clear hb hbox hg;have hcz7_0:=bc BK631 0 rfl;have hcz7_1:=bc BK631 1 rfl;have hfz7_0:=bf BK631 0;have hfz7_1:=bf BK631 1)|(refine gs 7 Try.func99 #[.agg #[.int .i64 a0_0,.bool true]] ?_;(with_reducible refine(spec_l2Road.calls a0_0 true true _ A3.out).mono ?_);rintro e w8 ⟨rfl,hb⟩;refine⟨_,rfl,?_⟩;replace BK631:=kb BK631 hb;replace HB:=ak (below_step (h1 HB.out GE631.out) hb);(try clear hb);(try clear hk);(try clear hi);have hcz9_0:=bc BK631 0 rfl;have hcz9_1:=bc BK631 1 rfl;have hfz9_0:=bf BK631 0;have hfz9_1:=bf BK631 1))
  go_ret2
  exact⟨fe,h1 HB.out GE631.out⟩
 replace c5:=Bool.eq_false_iff.mpr c5
 subst c5
 rw[if_neg (show ¬(false=true)by decide)]at H
 obtain⟨t633,A10,H⟩:=bd H;(try dsimp only at H)
 simp only[Option.some.injEq,Prod.mk.injEq]at H
 obtain⟨rfl,rfl⟩:=H
 go_enter Try.func54,Try.ntmps54
 go_wp2_with (first|(refine bx 2 #[.int .i64 a0_0,.bool false] 28 ?_;intro gb631 hg w11 hbox hb;have BK631:=ak hbox;have GW631:=gw HB hg;have GE631:=gw HB hg;replace HB:=bs HB hb;clear hb hbox hg;have hcz12_0:=bc BK631 0 rfl;have hcz12_1:=bc BK631 1 rfl;have hfz12_0:=bf BK631 0;have hfz12_1:=bf BK631 1)|(refine gs 7 Try.func99 #[.agg #[.int .i64 a0_0,.bool false]] ?_;(with_reducible refine(spec_l2Road.calls a0_0 false true _ A3.out).mono ?_);rintro e w13 ⟨rfl,hb⟩;refine⟨_,rfl,?_⟩;replace BK631:=kb BK631 hb;replace HB:=ak (below_step (h1 HB.out GE631.out) hb);(try clear hb);(try clear hk);(try clear hi);have hcz14_0:=bc BK631 0 rfl;have hcz14_1:=bc BK631 1 rfl;have hfz14_0:=bf BK631 0;have hfz14_1:=bf BK631 1)|(refine gs 15 Try.func77 #[.agg #[.int .i64 a0_0,.bool false],.slice A1 l1.length c1] ?_;(with_reducible refine(spec_l7Carriers.calls k a0_0 false _ _ l1 t633 _ ?side1 ?side2 A10.out).mono ?_);(case side1=>exact cm (C_below HR1.out HB.out));(case side2=>exact HC1.out);rintro e w15 ⟨rfl,hb⟩;refine⟨_,rfl,?_⟩;replace BK631:=kb BK631 hb;replace HB:=ak (below_step (h1 HB.out GE631.out) hb);(try clear hb);(try clear hk);(try clear hi)))
 go_ret2
 exact⟨fe,h1 HB.out GE631.out⟩
end
end Go.Proofs.Ythagkpoinjpmfaa.QFnRelays
