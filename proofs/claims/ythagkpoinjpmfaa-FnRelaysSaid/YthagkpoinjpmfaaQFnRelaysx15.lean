/- Functions that the law FnRelays comes to, and their walks: no condition but those named. -/
import Derived.Test.YthagkpoinjpmfaaQFnRelaysx0
import Derived.Test.YthagkpoinjpmfaaQFnRelaysx4
import Derived.Test.YthagkpoinjpmfaaQFnRelaysx12
import Derived.Test.YthagkpoinjpmfaaQFnRelaysx14
namespace Go.Proofs.Ythagkpoinjpmfaa.QFnRelays
open Go.RowKit Go.Proofs.YthagkpoinjpmfaaW.PrintWords Go.Proofs.YthagkpoinjpmfaaW.PrintLast Go.Proofs.YthagkpoinjpmfaaW.PrintMore Go.Proofs.Ythagkpoinjpmfaa.Short
attribute [local go_sem] max2_int min2_int max_two min_two max_three min_three max_four min_four
set_option linter.unusedVariables false
set_option linter.unusedSimpArgs false
section
open Kd
mutual
def spec_l1Cur_legs7.l0:Nat→List (S63)→Int→List (S70)→List Int→Int→Int→List Int→Int→Int→Int→Bool→Option ((List (S70))× Int × Int)
 | 0,_,_,_,_,_,_,_,_,_,_,_=>none
 | k+1,x2,x4,x11,x12,x13,x14,x1000,x1001,x1002,x497000,x497001=>if x14<(x2.length:Int)then(spec_l1Cur_legs7.j1 k x2 x4 x11 x12 x13 x14 (decide (x13<x4)) x1000 x1001 x1002 x497000 x497001)else(spec_l1Cur_legs7.j1 k x2 x4 x11 x12 x13 x14 false x1000 x1001 x1002 x497000 x497001)
def spec_l1Cur_legs7.j1:Nat→List (S63)→Int→List (S70)→List Int→Int→Int→Bool→List Int→Int→Int→Int→Bool→Option ((List (S70))× Int × Int)
 | 0,_,_,_,_,_,_,_,_,_,_,_,_=>none
 | k+1,x2,x4,x11,x12,x13,x14,x37,x1000,x1001,x1002,x497000,x497001=>if x37=true then((spec_l1Cur_pick.f x1000 x1001 x1002 (x2.length:Int)).bind fun bt504=>(if 0≤bt504.1 then(if bt504.1<(x2.length:Int)then((spec_l7End.f x497000 x497001 ((rd_T63 x2 bt504.1).f0) ((rd_T63 x2 bt504.1).f1) ((rd_T63 x2 bt504.1).f2) x13).bind fun t508=>((spec_l1Has.f k x12 bt504.1).bind fun t509=>(if t509=true then(spec_l1Cur_legs7.j2 k x2 x4 x11 x12 x13 x14 bt504.1 t508 false x1000 bt504.2.1 bt504.2.2 x497000 x497001)else(spec_l1Cur_legs7.j2 k x2 x4 x11 x12 x13 x14 bt504.1 t508 (decide (t508>x13)) x1000 bt504.2.1 bt504.2.2 x497000 x497001))))else(none))else(none)))else(if(x11.length:Int)>0 then((spec_l1Cur_one.f x1000 x1001 x1002 16).bind fun bt529=>(spec_l1Cur_legs7.j3 k x11 bt529.1 x1000 bt529.2.1 bt529.2.2))else(spec_l1Cur_legs7.j3 k x11 false x1000 x1001 x1002))
def spec_l1Cur_legs7.j2:Nat→List (S63)→Int→List (S70)→List Int→Int→Int→Int→Int→Bool→List Int→Int→Int→Int→Bool→Option ((List (S70))× Int × Int)
 | 0,_,_,_,_,_,_,_,_,_,_,_,_,_,_=>none
 | k+1,x2,x4,x11,x12,x13,x14,x15,x16,x59,x1000,x1001,x1002,x497000,x497001=>if x59=true then((spec_l1Least.f x4 x16).bind fun t510=>((spec_l1Cur_one.f x1000 x1001 x1002 3).bind fun bt511=>(if bt511.1=true then((spec_l1Cur_pick.f x1000 bt511.2.1 bt511.2.2 (wrap64 (t510-x13))).bind fun bt514=>(if x11.length<5864062014805 then(if x12.length<17592186044416 then(spec_l1Cur_legs7.l0 k x2 x4 (x11++[(⟨x15,x13,wrap64 ((wrap64 (x13+1))+bt514.1)⟩:S70)]) (x12++[x15]) (wrap64 ((wrap64 (x13+1))+bt514.1)) (wrap64 (x14+1)) x1000 bt514.2.1 bt514.2.2 x497000 x497001)else(none))else(none)))else(if x11.length<5864062014805 then(if x12.length<17592186044416 then(spec_l1Cur_legs7.l0 k x2 x4 (x11++[(⟨x15,x13,t510⟩:S70)]) (x12++[x15]) t510 (wrap64 (x14+1)) x1000 bt511.2.1 bt511.2.2 x497000 x497001)else(none))else(none)))))else(spec_l1Cur_legs7.l0 k x2 x4 x11 x12 x13 (wrap64 (x14+1)) x1000 x1001 x1002 x497000 x497001)
def spec_l1Cur_legs7.j3:Nat→List (S70)→Bool→List Int→Int→Int→Option ((List (S70))× Int × Int)
 | 0,_,_,_,_,_=>none
 | k+1,x11,x91,x1000,x1001,x1002=>if x91=true then((spec_l1Cur_pick.f x1000 x1001 x1002 (x11.length:Int)).bind fun bt532=>((spec_l1Cur_among.f x1000 bt532.2.1 bt532.2.2 (([(-1),0,6]:List Int))).bind fun bt538=>(if 0≤bt532.1 then(if bt532.1<(x11.length:Int)then((spec_l1Cur_pick.f x1000 bt538.2.1 bt538.2.2 2).bind fun bt543=>(some ((x11.set (bt532.1:Int).toNat (⟨bt538.1,(rd_T70 x11 bt532.1).f1,wrap64 (((rd_T70 x11 bt532.1).f2)+bt543.1)⟩:S70)),bt543.2.1,bt543.2.2)))else(none))else(none))))else(some (x11,x1001,x1002))
end
def spec_l1Cur_legs7.f (k:Nat) (s0_0:List Int) (s0_1:Int) (s0_2:Int) (a1_0:Int) (a1_1:Bool) (l2:List (S63)) (a3:Int) (a4:Int):Option ((List (S70))× Int × Int):=(some (([]:List (S70)):List (S70))).bind fun y497=>((spec_l7Asks.f k a1_0 a1_1 l2 a3 a4).bind fun t500=>(if t500=true then(spec_l1Cur_legs7.l0 k l2 a4 y497 (([]:List Int)) a3 0 s0_0 s0_1 s0_2 a1_0 a1_1)else(some (y497,s0_1,s0_2))))
theorem spec_l1Cur_legs7.mono_l:∀ k,(∀ y0 y1 y2 y3 y4 y5 y6 y7 y8 y9 y10,LeO (spec_l1Cur_legs7.l0 k y0 y1 y2 y3 y4 y5 y6 y7 y8 y9 y10) (spec_l1Cur_legs7.l0 (k+1) y0 y1 y2 y3 y4 y5 y6 y7 y8 y9 y10))∧(∀ y0 y1 y2 y3 y4 y5 y6 y7 y8 y9 y10 y11,LeO (spec_l1Cur_legs7.j1 k y0 y1 y2 y3 y4 y5 y6 y7 y8 y9 y10 y11) (spec_l1Cur_legs7.j1 (k+1) y0 y1 y2 y3 y4 y5 y6 y7 y8 y9 y10 y11))∧(∀ y0 y1 y2 y3 y4 y5 y6 y7 y8 y9 y10 y11 y12 y13,LeO (spec_l1Cur_legs7.j2 k y0 y1 y2 y3 y4 y5 y6 y7 y8 y9 y10 y11 y12 y13) (spec_l1Cur_legs7.j2 (k+1) y0 y1 y2 y3 y4 y5 y6 y7 y8 y9 y10 y11 y12 y13))∧(∀ y0 y1 y2 y3 y4,LeO (spec_l1Cur_legs7.j3 k y0 y1 y2 y3 y4) (spec_l1Cur_legs7.j3 (k+1) y0 y1 y2 y3 y4))
 | 0=>by
  refine⟨?_,?_,?_,?_⟩<;>(intros;intro r h;simp[spec_l1Cur_legs7.l0,spec_l1Cur_legs7.j1,spec_l1Cur_legs7.j2,spec_l1Cur_legs7.j3]at h)
 | k+1=>by
  obtain⟨ih0,ih1,ih2,ih3⟩:=spec_l1Cur_legs7.mono_l k
  refine⟨?_,?_,?_,?_⟩<;>intros<;>(first|unfold spec_l1Cur_legs7.l0|unfold spec_l1Cur_legs7.j1|unfold spec_l1Cur_legs7.j2|unfold spec_l1Cur_legs7.j3)<;>(repeat' (with_reducible first|exact ih0 ..|exact ih1 ..|exact ih2 ..|exact ih3 ..|exact spec_l1Has.mono ..|exact spec_l7Asks.mono ..|exact LeO.refl _|exact LeO.none _|refine LeO.ite ?_ ?_|refine LeO.bind ?_ (fun _=>?_)))
theorem spec_l1Cur_legs7.mono:∀ a0 a1 a2 a3 a4 a5 a6 a7 k,LeO (spec_l1Cur_legs7.f k a0 a1 a2 a3 a4 a5 a6 a7) (spec_l1Cur_legs7.f (k+1) a0 a1 a2 a3 a4 a5 a6 a7):=by
 intro a0 a1 a2 a3 a4 a5 a6 a7 k
 obtain⟨ih0,ih1,ih2,ih3⟩:=spec_l1Cur_legs7.mono_l k
 unfold spec_l1Cur_legs7.f
 repeat' (with_reducible first|exact ih0 ..|exact ih1 ..|exact ih2 ..|exact ih3 ..|exact spec_l1Has.mono ..|exact spec_l7Asks.mono ..|exact LeO.refl _|exact LeO.none _|refine LeO.ite ?_ ?_|refine LeO.bind ?_ (fun _=>?_))
def spec_l1Cur_legs7.T10:Bool × List (List Nat × List Nat):=(true,[([],[]),([],[]),([],[]),([1,2],[1,2]),([3],[3]),([],[]),([0,4,5],[0,4,5]),([6,6,0,1,2,3,4,5,6],[6])])
def spec_l1Cur_legs7.B10:List Nat:=[0,0,0,6,14,0,63,127]
theorem spec_l1Cur_legs7.tab10:rtab .any (opsOf Try.f90 10)=spec_l1Cur_legs7.T10:=by kernel_rfl
theorem spec_l1Cur_legs7.bits10:waitsOk spec_l1Cur_legs7.T10.2 spec_l1Cur_legs7.B10=true:=by kernel_rfl
def spec_l1Cur_legs7.T20:Bool × List (List Nat × List Nat):=(true,[([],[]),([],[]),([],[]),([],[]),([2,3],[2,3]),([],[]),([],[]),([5,6],[5,6]),([7],[7]),([8],[8]),([],[]),([],[]),([10,11],[10,11]),([12],[12]),([13],[13]),([],[]),([15,4],[15]),([14,16],[14,16]),([4,9,17],[4,9,17]),([0,1,0,1,2,3,4,5,6,7,8,9,10,11,12,13,14,15,16,17,18],[0,1]),([19,18,16,0,1,2,3,4,5,6,7,8,9,10,11,12,13,14,15,16,17,18],[18,19])])
def spec_l1Cur_legs7.B20:List Nat:=[0,0,0,0,12,0,0,96,224,480,0,0,3072,7168,15360,0,32796,130076,262140,524287,1048575]
theorem spec_l1Cur_legs7.tab20:rtab .any (opsOf Try.f90 20)=spec_l1Cur_legs7.T20:=by kernel_rfl
theorem spec_l1Cur_legs7.bits20:waitsOk spec_l1Cur_legs7.T20.2 spec_l1Cur_legs7.B20=true:=by kernel_rfl
set_option maxHeartbeats 8000000 in
set_option maxRecDepth 100000 in
theorem spec_l1Cur_legs7.calls (k:Nat) (g:Nat) (s0_0:List Int) (s0_1:Int) (s0_2:Int) (a1_0:Int) (a1_1:Bool) (A2:Option Addr) (c2:Nat) (l2:List (S63)) (a3:Int) (a4:Int) (r1:List (S70)) (r2:Int) (r3:Int) (w0 w:World) (hI:IsS95 w0 w g s0_0 s0_1 s0_2) (hB:Below w0.heap.size w0 w) (hr2:∀ W_,KeepBut w W_ g none→Kd.C k63 W_ A2 l2.length l2) (hc2:l2.length≤c2) (h:spec_l1Cur_legs7.f k s0_0 s0_1 s0_2 a1_0 a1_1 l2 a3 a4=some (r1,r2,r3)):
  Calls Try.prog 90 #[.pointer (some ⟨g,0,none⟩),.agg #[.int .i64 a1_0,.bool a1_1],.slice A2 l2.length c2,.int .i64 a3,.int .i64 a4] w fun e w'=>∃ v0_:Value,e= .returned (v0_)∧Kd.R k70 70 w' w.heap.size (fun _=>True) v0_ r1∧IsS95 w0 w' g s0_0 r2 r3∧Below w0.heap.size w0 w'∧KeepBut w w' g none:=by
 have hu28:=Try.underlying28
 have hu63:=Try.underlying63
 have hu70:=Try.underlying70
 have HR2:=Aside0.mk hr2
 have HC2:=Aside0.mk hc2
 clear hr2 hc2
 have HI0:=Aside0.mk hI
 have HK:=Aside0.mk (KeepBut.refl w g none)
 have HL:=Aside0.mk hB.size
 clear hI
 have HW0:=Aside0.mk hB.size
 have HB:=Aside0.mk hB
 clear hB
 unfold spec_l1Cur_legs7.f at h
 have H:=h
 clear h
 obtain⟨y497,hy497⟩:∃ y_:List (S70),y_=(([]:List (S70))):=⟨_,rfl⟩
 replace H: ((spec_l7Asks.f k a1_0 a1_1 l2 a3 a4).bind fun t500=>(if t500=true then(spec_l1Cur_legs7.l0 k l2 a4 y497 (([]:List Int)) a3 0 s0_0 s0_1 s0_2 a1_0 a1_1)else(some (y497,s0_1,s0_2))))=some (r1,r2,r3):=by subst hy497;first|(with_reducible exact H)|exact H
 have Ny497:=Aside0.mk hy497
 clear hy497
 obtain⟨t500,A6,H⟩:=bd H;(try dsimp only at H)
 by_cases c7:t500=true
 rotate_left
 ·replace c7:=Bool.eq_false_iff.mpr c7
  subst c7
  rw[if_neg (show ¬(false=true)by decide)]at H
  simp only[Option.some.injEq,Prod.mk.injEq]at H
  obtain⟨rfl,rfl,rfl⟩:=H
  go_enter Try.func90,Try.ntmps90
  go_wp2_with (first|(refine bx 6 #[.int .i64 a1_0,.bool a1_1] 28 ?_;intro gb496 hg w69 hbox hb;replace HB:=ak (below_step (h1 HB.out (IsS95.ge HI0.out)) hb);have BK496:=ak hbox;have GW496:=ak ((by rw[hg];exact(keep_size (w:=w) (g:=g) (row:=none) (kn HK.out)):w.heap.size≤gb496));have GE496:=ak ((Nat.le_trans HW0.out (by rw[hg];exact(keep_size (w:=w) (g:=g) (row:=none) (kn HK.out)):w.heap.size≤gb496):w0.heap.size≤gb496));replace HK:=ak (KeepBut.trans (kn HK.out) (KeepBut.of_below hb g none) (.inl rfl));have NB0_496:=ak ((by rw[hg];exact Nat.ne_of_lt (IsS95.lt (show IsS95 w0 _ g s0_0 s0_1 s0_2 from(IsS95.now HI0.out))):g≠gb496));have NB496_0:=ak ((by rw[hg];exact Nat.ne_of_gt (IsS95.lt (show IsS95 w0 _ g s0_0 s0_1 s0_2 from(IsS95.now HI0.out))):gb496≠g));replace HI0:=ak (IsS95.below (g:=g) (IsS95.now HI0.out) hb);clear hb hbox hg)|((with_reducible refine gate_dst (N:=19) rfl ?_);refine R_lit k70 _ 70 ?hg (N:=19) ?hd (xs:=([]:List (S70))) (inner:=[]) (ok:=fun _=>True) (okp:=fun _=>True) ?hr ?hp (fun _ hk=>hk) trivial (Below.refl _ _) (Nat.le_refl _) (by simp) ?_;(case hd=>rfl);(case hg=>rfl);(case hr=>first|(go_simp;done)|(go_simp;rfl));(case hp=>exact(Reps.none _ _));intro v498 w70 ho71 hb hg_ hnew_;clear hg_ hnew_;(first|rw[←Ny497.out]at ho71|(simp only[Int.reduceToNat]at ho71;rw[←Ny497.out]at ho71));have HO499:=ak (R_lower ho71 (keep_size (w:=w) (g:=g) (row:=none) (kn HK.out)));replace BK496:=kb BK496 hb;replace HK:=ak (KeepBut.trans (kn HK.out) (KeepBut.of_below hb g none) (.inl rfl));replace HB:=ak (below_step (h2 HB.out (IsS95.ge HI0.out) GE496.out) hb);replace HI0:=ak (IsS95.below (g:=g) (IsS95.now HI0.out) hb);clear hb ho71;have hnb72:=NB496_0.out;have hnc72:=NB0_496.out;have hcz73_0:=bc BK496 0 rfl;have hcz73_1:=bc BK496 1 rfl;have hfz73_0:=bf BK496 0;have hfz73_1:=bf BK496 1)|(refine gs 24 Try.func55 #[.agg #[.int .i64 a1_0,.bool a1_1],.slice A2 l2.length c2,.int .i64 a3,.int .i64 a4] ?_;(with_reducible refine(spec_l7Asks.calls k a1_0 a1_1 _ _ l2 a3 a4 false _ ?side1 ?side2 A6.out).mono ?_);(case side1=>exact C_foot_now HR2.out (kn HK.out));(case side2=>exact HC2.out);rintro e w74 ⟨rfl,hb⟩;refine⟨_,rfl,?_⟩;replace HO499:=rb HO499 hb;replace BK496:=kb BK496 hb;replace HK:=ak (KeepBut.trans (kn HK.out) (KeepBut.of_below hb g none) (.inl rfl));replace HB:=ak (below_step (h2 HB.out (IsS95.ge HI0.out) GE496.out) hb);replace HI0:=ak (IsS95.below (g:=g) (IsS95.now HI0.out) hb);(try clear hb);(try clear hk);(try clear hi)))
  go_ret
  exact⟨_,fe,rm HO499.out,(IsS95.now HI0.out),h2 HB.out (IsS95.ge HI0.out) GE496.out,(kn HK.out)⟩
 subst c7
 rw[if_pos rfl]at H
 generalize hy501: ([]:List Int)=y501 at H
 have Ny501:=ak hy501.symm
 clear hy501
 have H':=Aside0.mk H
 clear H
 go_enter Try.func90,Try.ntmps90
 go_wp2_with (first|(refine bx 6 #[.int .i64 a1_0,.bool a1_1] 28 ?_;intro gb496 hg w8 hbox hb;replace HB:=ak (below_step (h1 HB.out (IsS95.ge HI0.out)) hb);have BK496:=ak hbox;have GW496:=ak ((by rw[hg];exact(keep_size (w:=w) (g:=g) (row:=none) (kn HK.out)):w.heap.size≤gb496));have GE496:=ak ((Nat.le_trans HW0.out (by rw[hg];exact(keep_size (w:=w) (g:=g) (row:=none) (kn HK.out)):w.heap.size≤gb496):w0.heap.size≤gb496));replace HK:=ak (KeepBut.trans (kn HK.out) (KeepBut.of_below hb g none) (.inl rfl));have NB0_496:=ak ((by rw[hg];exact Nat.ne_of_lt (IsS95.lt (show IsS95 w0 _ g s0_0 s0_1 s0_2 from(IsS95.now HI0.out))):g≠gb496));have NB496_0:=ak ((by rw[hg];exact Nat.ne_of_gt (IsS95.lt (show IsS95 w0 _ g s0_0 s0_1 s0_2 from(IsS95.now HI0.out))):gb496≠g));replace HI0:=ak (IsS95.below (g:=g) (IsS95.now HI0.out) hb);clear hb hbox hg)|((with_reducible refine gate_dst (N:=19) rfl ?_);refine R_lit k70 _ 70 ?hg (N:=19) ?hd (xs:=([]:List (S70))) (inner:=[]) (ok:=fun _=>True) (okp:=fun _=>True) ?hr ?hp (fun _ hk=>hk) trivial (Below.refl _ _) (Nat.le_refl _) (by simp) ?_;(case hd=>rfl);(case hg=>rfl);(case hr=>first|(go_simp;done)|(go_simp;rfl));(case hp=>exact(Reps.none _ _));intro v498 w9 ho10 hb hg_ hnew_;clear hg_ hnew_;(first|rw[←Ny497.out]at ho10|(simp only[Int.reduceToNat]at ho10;rw[←Ny497.out]at ho10));have HO499:=ak (R_lower ho10 (keep_size (w:=w) (g:=g) (row:=none) (kn HK.out)));replace BK496:=kb BK496 hb;replace HK:=ak (KeepBut.trans (kn HK.out) (KeepBut.of_below hb g none) (.inl rfl));replace HB:=ak (below_step (h2 HB.out (IsS95.ge HI0.out) GE496.out) hb);replace HI0:=ak (IsS95.below (g:=g) (IsS95.now HI0.out) hb);clear hb ho10;have hnb11:=NB496_0.out;have hnc11:=NB0_496.out;have hcz12_0:=bc BK496 0 rfl;have hcz12_1:=bc BK496 1 rfl;have hfz12_0:=bf BK496 0;have hfz12_1:=bf BK496 1)|(refine gs 24 Try.func55 #[.agg #[.int .i64 a1_0,.bool a1_1],.slice A2 l2.length c2,.int .i64 a3,.int .i64 a4] ?_;(with_reducible refine(spec_l7Asks.calls k a1_0 a1_1 _ _ l2 a3 a4 true _ ?side1 ?side2 A6.out).mono ?_);(case side1=>exact C_foot_now HR2.out (kn HK.out));(case side2=>exact HC2.out);rintro e w13 ⟨rfl,hb⟩;refine⟨_,rfl,?_⟩;replace HO499:=rb HO499 hb;replace BK496:=kb BK496 hb;replace HK:=ak (KeepBut.trans (kn HK.out) (KeepBut.of_below hb g none) (.inl rfl));replace HB:=ak (below_step (h2 HB.out (IsS95.ge HI0.out) GE496.out) hb);replace HI0:=ak (IsS95.below (g:=g) (IsS95.now HI0.out) hb);(try clear hb);(try clear hk);(try clear hi))|((with_reducible refine gate_dst (N:=27) rfl ?_);refine R_lit (Kd.int .i64) _ 3 ?hg (N:=27) ?hd (xs:=([]:List Int)) (inner:=[]) (ok:=fun _=>True) (okp:=fun _=>True) ?hr ?hp (fun _ hk=>hk) trivial (Below.refl _ _) (Nat.le_refl _) (by simp) ?_;(case hd=>rfl);(case hg=>rfl);(case hr=>first|(go_simp;done)|(go_simp;rfl));(case hp=>exact(Reps.none _ _));intro v502 w14 ho15 hb hg_ hnew_;clear hg_ hnew_;(first|rw[←Ny501.out]at ho15|(simp only[Int.reduceToNat]at ho15;rw[←Ny501.out]at ho15));replace HO499:=rb HO499 hb;have HO503:=ak (R_lower ho15 (keep_size (w:=w) (g:=g) (row:=none) (kn HK.out)));replace BK496:=kb BK496 hb;replace HK:=ak (KeepBut.trans (kn HK.out) (KeepBut.of_below hb g none) (.inl rfl));replace HB:=ak (below_step (h2 HB.out (IsS95.ge HI0.out) GE496.out) hb);replace HI0:=ak (IsS95.below (g:=g) (IsS95.now HI0.out) hb);clear hb ho15))
 go_loopg [11,12,13,14] k (fun kq v11 v12 v13 v14 w'=>∃ (x11_1:List (S70)) (x12_1:List Int) (x13_1:Int) (x14_1:Int) (x1001_1:Int) (x1002_1:Int),v13= .int .i64 x13_1∧v14= .int .i64 x14_1∧Aside0 (spec_l1Cur_legs7.l0 kq l2 a4 x11_1 x12_1 x13_1 x14_1 s0_0 x1001_1 x1002_1 a1_0 a1_1=some (r1,r2,r3))∧Aside0 (kq≤k)∧Aside0 (Kd.R k70 70 w' w.heap.size (fun _=>True) v11 x11_1)∧Aside0 (Kd.R (Kd.int .i64) 3 w' w.heap.size (fun _=>True) v12 x12_1)∧Aside0 (w'.heap[gb496]? =some (.cells #[.int .i64 a1_0,.bool a1_1] 28 (0,0)))∧Aside0 (IsS95 w0 w' g s0_0 x1001_1 x1002_1)∧Aside0 (KeepBut w w' g none)∧Aside0 (Below w0.heap.size w0 w'))
 case atStart=>exact⟨(y497),(y501),(a3),(0),(s0_1),(s0_2),fd,fd,H',⟨Nat.le_refl _⟩,⟨rm HO499.out⟩,⟨rm HO503.out⟩,⟨bm BK496.out⟩,⟨(IsS95.now HI0.out)⟩,⟨(kn HK.out)⟩,⟨h2 HB.out (IsS95.ge HI0.out) GE496.out⟩⟩
 clear H'
 try clear c1
 try clear c2
 try clear p2
 try clear c5
 try clear c7
 try clear c9
 try clear c11
 try clear hcz12_0
 try clear hcz12_1
 try clear hfz12_0
 try clear hfz12_1
 obtain⟨x11_1,x12_1,x13_1,x14_1,x1001_1,x1002_1,rfl,rfl,HA,HK1,HO_11,HO_12,BK496,HI0,HK,HB⟩:=hrel
 obtain _|k1:=gk;·cases HA.out
 obtain⟨H⟩:=HA
 simp only[spec_l1Cur_legs7.l0]at H
 have HC16:=Aside0.mk H
 clear H
 go_upto_region 7 with(fail)
 go_cut [37] (fun v37 wc=>∃ (kq:Nat) (x37_15:Bool),v37= .bool x37_15∧Aside0 (spec_l1Cur_legs7.j1 kq l2 a4 x11_1 x12_1 x13_1 x14_1 x37_15 s0_0 x1001_1 x1002_1 a1_0 a1_1=some (r1,r2,r3))∧Aside0 (kq≤k1)∧Aside0 (Kd.R k70 70 wc w.heap.size (fun _=>True) u11 x11_1)∧Aside0 (Kd.R (Kd.int .i64) 3 wc w.heap.size (fun _=>True) u12 x12_1)∧Aside0 (wc.heap[gb496]? =some (.cells #[.int .i64 a1_0,.bool a1_1] 28 (0,0)))∧Aside0 (IsS95 w0 wc g s0_0 x1001_1 x1002_1)∧Aside0 (KeepBut w wc g none)∧Aside0 (Below w0.heap.size w0 wc))
 case first=>
  have H:=HC16.out
  clear HC16
  by_cases c17:x14_1<(l2.length:Int)
  rotate_left
  ·rw[if_neg c17]at H
   have c17b0:decide (x14_1<(l2.length:Int))=false:=decide_eq_false c17
   clear c17
   (first|rw[c17b0]|(simp only[i64_w,i32_w];rw[c17b0])|skip)
   have H':=Aside0.mk H
   clear H
   go_wp2
   go_meet
   case rel=>exact⟨_,(false),fd,H',⟨by first|exact Nat.le_refl _|(have:=HK1.out;omega)⟩,⟨rm HO_11.out⟩,⟨rm HO_12.out⟩,⟨bm BK496.out⟩,⟨(IsS95.now HI0.out)⟩,⟨(kn HK.out)⟩,⟨h2 HB.out (IsS95.ge HI0.out) GE496.out⟩⟩
  rw[if_pos c17]at H
  have c17b0:decide (x14_1<(l2.length:Int))=true:=decide_eq_true c17
  clear c17
  (first|rw[c17b0]|(simp only[i64_w,i32_w];rw[c17b0])|skip)
  have H':=Aside0.mk H
  clear H
  go_wp2
  go_meet
  case rel=>exact⟨_,(decide (x13_1<a4)),fd,H',⟨by first|exact Nat.le_refl _|(have:=HK1.out;omega)⟩,⟨rm HO_11.out⟩,⟨rm HO_12.out⟩,⟨bm BK496.out⟩,⟨(IsS95.now HI0.out)⟩,⟨(kn HK.out)⟩,⟨h2 HB.out (IsS95.ge HI0.out) GE496.out⟩⟩
 clear HC16
 try clear c1
 try clear c2
 try clear p2
 try clear c5
 try clear c7
 try clear c9
 try clear c11
 try clear c17
 try clear c17b0
 try clear hcz12_0
 try clear hcz12_1
 try clear hfz12_0
 try clear hfz12_1
 try clear p2
 obtain⟨kq,x37_15,rfl,HA,HJ15,HO_11,HO_12,BK496,HI0,HK,HB⟩:=hcut
 obtain _|kj15:=kq;·cases HA.out
 obtain⟨H⟩:=HA
 simp only[spec_l1Cur_legs7.j1]at H
 by_cases c18:x37_15=true
 rotate_left
 ·replace c18:=Bool.eq_false_iff.mpr c18
  subst c18
  rw[if_neg (show ¬(false=true)by decide)]at H
  have HC47:=Aside0.mk H
  clear H
  go_upto_region 18 with(fail)
  go_cut [91] (fun v91 wc=>∃ (kq:Nat) (x91_46:Bool) (x1001_46:Int) (x1002_46:Int),v91= .bool x91_46∧Aside0 (spec_l1Cur_legs7.j3 kq x11_1 x91_46 s0_0 x1001_46 x1002_46=some (r1,r2,r3))∧Aside0 (kq≤kj15)∧Aside0 (Kd.R k70 70 wc w.heap.size (fun _=>True) u11 x11_1)∧Aside0 (wc.heap[gb496]? =some (.cells #[.int .i64 a1_0,.bool a1_1] 28 (0,0)))∧Aside0 (IsS95 w0 wc g s0_0 x1001_46 x1002_46)∧Aside0 (KeepBut w wc g none)∧Aside0 (Below w0.heap.size w0 wc))
  case first=>
   have H:=HC47.out
   clear HC47
   by_cases c48: (x11_1.length:Int)>0
   rotate_left
   ·rw[if_neg c48]at H
    have c48b0:decide (0<(x11_1.length:Int))=false:=decide_eq_false c48
    have c48b1:decide (0<x11_1.length)=false:=decide_eq_false (by omega)
    clear c48
    (first|rw[c48b0]|(simp only[i64_w,i32_w];rw[c48b0])|skip)
    have H':=Aside0.mk H
    clear H
    obtain⟨Ao52,co52,eo52⟩:=R_slice HO_11.out
    subst eo52
    go_wp2
    go_meet
    case rel=>exact⟨_,(false),(x1001_1),(x1002_1),fd,H',⟨by first|exact Nat.le_refl _|(have:=HK1.out;have:=HJ15.out;omega)⟩,⟨rm HO_11.out⟩,⟨bm BK496.out⟩,⟨(IsS95.now HI0.out)⟩,⟨(kn HK.out)⟩,⟨h2 HB.out (IsS95.ge HI0.out) GE496.out⟩⟩
   rw[if_pos c48]at H
   have c48b0:decide (0<(x11_1.length:Int))=true:=decide_eq_true c48
   have c48b1:decide (0<x11_1.length)=true:=decide_eq_true (by omega)
   clear c48
   (first|rw[c48b0]|(simp only[i64_w,i32_w];rw[c48b0])|skip)
   obtain⟨⟨t529,t530,t531⟩,A49,H⟩:=bd H;(try dsimp only at H)
   have H':=Aside0.mk H
   clear H
   obtain⟨Ao50,co50,eo50⟩:=R_slice HO_11.out
   subst eo50
   go_wp2_with (first|(go_at_call 81;(with_reducible refine(spec_l1Cur_one.calls g s0_0 x1001_1 x1002_1 16 t529 t530 t531 w0 _ ?side1 ?side2 A49.out).mono ?_);(case side1=>exact IsS95.now HI0.out);(case side2=>exact h2 HB.out (IsS95.ge HI0.out) GE496.out);rintro e w51 ⟨rfl,hi,hb,hk⟩;replace HO_11:=ak (R_mono (R_keep (IsS95.apart (show IsS95 w0 _ g s0_0 x1001_1 x1002_1 from(IsS95.now HI0.out)) (rm HO_11.out) (by decide)) hk (fun _ h=>h.2)) (fun _ h=>h.1));replace HO_12:=ak (R_mono (R_keep (IsS95.apart (show IsS95 w0 _ g s0_0 x1001_1 x1002_1 from(IsS95.now HI0.out)) (rm HO_12.out) (by decide)) hk (fun _ h=>h.2)) (fun _ h=>h.1));replace BK496:=kk BK496 hk NB496_0;replace HK:=ak (KeepBut.trans (kn HK.out) hk (.inl rfl));replace HB:=ak hb;replace HI0:=ak hi;(try clear hb);(try clear hk);(try clear hi)))
   go_meet
   case rel=>exact⟨_,(t529),(t530),(t531),fd,H',⟨by first|exact Nat.le_refl _|(have:=HK1.out;have:=HJ15.out;omega)⟩,⟨rm HO_11.out⟩,⟨bm BK496.out⟩,⟨(IsS95.now HI0.out)⟩,⟨(kn HK.out)⟩,⟨h2 HB.out (IsS95.ge HI0.out) GE496.out⟩⟩
  clear HC47
  try clear c1
  try clear c2
  try clear p2
  try clear c3
  try clear c4
  try clear c5
  try clear p5
  try clear q5
  try clear hx5
  try clear p6
  try clear c7
  try clear c8
  try clear c9
  try clear c10
  try clear c11
  try clear c17
  try clear c17b0
  try clear c18
  try clear c20
  try clear c20b0
  try clear c21
  try clear c21b0
  try clear c28
  try clear c31
  try clear c34
  try clear c36
  try clear c37
  try clear c42
  try clear c43
  try clear c48
  try clear c48b0
  try clear c48b1
  try clear p50
  try clear q50
  try clear hx50
  try clear hcz12_0
  try clear hcz12_1
  try clear hfz12_0
  try clear hfz12_1
  try clear hx507_0
  try clear hx507_1
  try clear hx507_2
  try clear p2
  try clear p5
  try clear p507
  try clear q5
  try clear q507
  obtain⟨kq,x91_46,x1001_46,x1002_46,rfl,HA,HJ46,HO_11,BK496,HI0,HK,HB⟩:=hcut
  obtain _|kj46:=kq;·cases HA.out
  obtain⟨H⟩:=HA
  simp only[spec_l1Cur_legs7.j3]at H
  by_cases c53:x91_46=true
  rotate_left
  ·replace c53:=Bool.eq_false_iff.mpr c53
   subst c53
   rw[if_neg (show ¬(false=true)by decide)]at H
   simp only[Option.some.injEq,Prod.mk.injEq]at H
   obtain⟨rfl,rfl,rfl⟩:=H
   go_wp2
   go_ret
   exact⟨_,fe,rm HO_11.out,(IsS95.now HI0.out),h2 HB.out (IsS95.ge HI0.out) GE496.out,(kn HK.out)⟩
  subst c53
  rw[if_pos rfl]at H
  obtain⟨⟨t532,t533,t534⟩,A54,H⟩:=bd H;(try dsimp only at H)
  generalize hy535: ([(-1),0,6]:List Int)=y535 at H
  have Ny535:=ak hy535.symm
  clear hy535
  obtain⟨⟨t538,t539,t540⟩,A55,H⟩:=bd H;(try dsimp only at H)
  obtain⟨c56,H⟩:=gi H
  have c56b0:decide (0≤t532)=true:=decide_eq_true c56
  clear c56
  obtain⟨c57,H⟩:=gi H
  have c57b0:decide (t532<(x11_1.length:Int))=true:=decide_eq_true c57
  clear c57
  obtain⟨⟨t543,t544,t545⟩,A58,H⟩:=bd H;(try dsimp only at H)
  generalize hy546: (x11_1.set (t532:Int).toNat (⟨t538,(rd_T70 x11_1 t532).f1,wrap64 (((rd_T70 x11_1 t532).f2)+t543)⟩:S70):List (S70))=y546 at H
  have Ny546:=ak hy546.symm
  clear hy546
  simp only[Option.some.injEq,Prod.mk.injEq]at H
  obtain⟨rfl,rfl,rfl⟩:=H
  obtain⟨Ao60,co60,eo60⟩:=R_slice HO_11.out
  subst eo60
  try go_wp2_with (first|(refine gs 95 Try.func79 #[.pointer (some ⟨g,0,none⟩),.int .i64 (x11_1.length:Int)] ?_;(with_reducible refine(spec_l1Cur_pick.calls g s0_0 x1001_46 x1002_46 (x11_1.length:Int) t532 t533 t534 w0 _ ?side1 ?side2 A54.out).mono ?_);(case side1=>exact IsS95.now HI0.out);(case side2=>exact h2 HB.out (IsS95.ge HI0.out) GE496.out);rintro e w61 ⟨rfl,hi,hb,hk⟩;refine⟨_,rfl,?_⟩;replace HO_11:=ak (R_mono (R_keep (IsS95.apart (show IsS95 w0 _ g s0_0 x1001_46 x1002_46 from(IsS95.now HI0.out)) (rm HO_11.out) (by decide)) hk (fun _ h=>h.2)) (fun _ h=>h.1));replace BK496:=kk BK496 hk NB496_0;replace HK:=ak (KeepBut.trans (kn HK.out) hk (.inl rfl));replace HB:=ak hb;replace HI0:=ak hi;(try clear hb);(try clear hk);(try clear hi)))
  replace HO_11:=ak (R_drew HO_11.out)
  replace BK496:=ak (blk_drew BK496.out)
  replace HI0:=ak (IsS95.drew HI0.out)
  replace HK:=ak (keep_drew HK.out)
  replace HB:=ak (below_drew1 HB.out)
  have p541:0≤(t532:Int):=od
  have q541:t532<(x11_1.length:Int):=od
  obtain⟨ad541,e541,hx541_0,hx541_1,hx541_2⟩:=at_T70 (R_reads' HO_11.out).2.2 t532 p541 q541
  cases e541
  replace p541:=eq_true p541
  replace q541:=eq_true q541
  have p542:0≤(t532:Int):=od
  have q542:t532<(x11_1.length:Int):=od
  obtain⟨ad542,e542,hx542_0,hx542_1,hx542_2⟩:=at_T70 (R_reads' HO_11.out).2.2 t532 p542 q542
  obtain rfl:ad541=ad542:=(by injection e542)
  replace p542:=eq_true p542
  replace q542:=eq_true q542
  refine start_ (n:=21) (S:=fun w'=>w'.cell? (ad541.add ((t532).toNat*3))=some (.int .i64 ((rd_T70 x11_1 t532).f0))∧w'.cell? ⟨(ad541.add ((t532).toNat*3)).block,(ad541.add ((t532).toNat*3)).off+1,none⟩=some (.int .i64 ((rd_T70 x11_1 t532).f1))∧w'.cell? ⟨(ad541.add ((t532).toNat*3)).block,(ad541.add ((t532).toNat*3)).off+2,none⟩=some (.int .i64 ((rd_T70 x11_1 t532).f2))∧w'.cell? (ad541.add ((t532).toNat*3))=some (.int .i64 ((rd_T70 x11_1 t532).f0))∧w'.cell? ⟨(ad541.add ((t532).toNat*3)).block,(ad541.add ((t532).toNat*3)).off+1,none⟩=some (.int .i64 ((rd_T70 x11_1 t532).f1))∧w'.cell? ⟨(ad541.add ((t532).toNat*3)).block,(ad541.add ((t532).toNat*3)).off+2,none⟩=some (.int .i64 ((rd_T70 x11_1 t532).f2))) (ds:=[20]) (lb 21 0) (by kernel_rfl) rfl rfl ⟨hx541_0,hx541_1,hx541_2,hx542_0,hx542_1,hx542_2⟩ (fun hHeld=>?_);refine with_tabW spec_l1Cur_legs7.tab20 spec_l1Cur_legs7.bits20 (fun HT_ HW_=>?_)
  generalize w61.drew=w62 at HO_11 BK496 HI0 HK HB hx541_0 hx541_1 hx541_2 hx542_0 hx542_1 hx542_2 hHeld⊢
  refine pq 0 (N:=some 96) (lb 21 1) HT_ ?_
  refine pq 1 (N:=some 97) (lb 21 3) HT_ ?_
  refine pq 2 (N:=some 98) (lb 21 7) HT_ ?_
  refine pq 5 (N:=some 101) (lb 21 39) HT_ ?_
  refine pq 6 (N:=some 102) (lb 21 103) HT_ ?_
  refine pq 7 (N:=some 103) (lb 21 231) HT_ ?_
  refine pq 8 (N:=some 104) (lb 21 487) HT_ ?_
  refine pq 10 (N:=some 106) (lb 21 1511) HT_ ?_
  refine pq 11 (N:=some 107) (lb 21 3559) HT_ ?_
  refine pq 12 (N:=some 108) (lb 21 7655) HT_ ?_
  refine pq 13 (N:=some 109) (lb 21 15847) HT_ ?_
  refine pq 15 (N:=some 111) (lb 21 48615) HT_ ?_
  refine tq 9 (N:=some 105) (lb 21 49127) HT_ HW_ hHeld ?_
  refine tq 14 (N:=some 110) (lb 21 65511) HT_ HW_ hHeld ?_
  refine one_ (i:=3) (N:=some 99) (lb 21 65519) rfl rfl (one_of HT_.out (by kernel_rfl)) (by decide) (fun K hK=>?_)
  refine R_lit_step (Kd.int .i64) _ 3 ?hg (N:=99) ?hd (xs:=([(-1),0,6]:List Int)) (inner:=[.int .i64 (-1),.int .i64 0,.int .i64 6]) (ok:=fun _=>True) (okp:=fun _=>True) ?hr ?hp (fun _ hk=>hk) trivial (Below.refl _ _) (Nat.le_refl _) (by simp) ?_;(case hd=>rfl);(case hg=>rfl);(case hr=>first|(go_simp;done)|(go_simp;rfl));(case hp=>exact(Reps.one (show Kd.M (Kd.int .i64) _ _ _ (-1) [.int .i64 (-1)]from rfl) (Reps.one (show Kd.M (Kd.int .i64) _ _ _ 0 [.int .i64 0]from rfl) (Reps.one (show Kd.M (Kd.int .i64) _ _ _ 6 [.int .i64 6]from rfl) (Reps.none _ _)))))
  intro v536 w63 ho64 hb hg_ hnew_
  have HS0_:=(hb.cell (World.block_lt_of_cell? _ _ (hHeld.1))).trans (hHeld.1)
  have HS1_:=(hb.cell (World.block_lt_of_cell? _ _ (hHeld.2.1))).trans (hHeld.2.1)
  have HS2_:=(hb.cell (World.block_lt_of_cell? _ _ (hHeld.2.2.1))).trans (hHeld.2.2.1)
  have HS3_:=(hb.cell (World.block_lt_of_cell? _ _ (hHeld.2.2.2.1))).trans (hHeld.2.2.2.1)
  have HS4_:=(hb.cell (World.block_lt_of_cell? _ _ (hHeld.2.2.2.2.1))).trans (hHeld.2.2.2.2.1)
  have HS5_:=(hb.cell (World.block_lt_of_cell? _ _ (hHeld.2.2.2.2.2))).trans (hHeld.2.2.2.2.2)
  clear hg_ hnew_
  (first|rw[←Ny535.out]at ho64|(simp only[Int.reduceToNat]at ho64;rw[←Ny535.out]at ho64))
  replace HO_11:=rb HO_11 hb
  have HO537:=ak (R_lower ho64 (keep_size (w:=w) (g:=g) (row:=none) (kn HK.out)))
  replace BK496:=kb BK496 hb
  replace HK:=ak (KeepBut.trans (kn HK.out) (KeepBut.of_below hb g none) (.inl rfl))
  replace HB:=ak (below_step (h2 HB.out (IsS95.ge HI0.out) GE496.out) hb)
  replace HI0:=ak (IsS95.below (g:=g) (IsS95.now HI0.out) hb)
  clear hb ho64
  obtain⟨Ao65,co65,eo65⟩:=R_slice HO537.out
  (first|subst eo65|(injection eo65 with f1_ f2_ f3_;have f4_:=f1_.symm;have f5_:=f3_.symm;clear f1_ f2_ f3_;subst f4_;subst f5_))
  refine hK.out _ _ ⟨HS0_,HS1_,HS2_,HS3_,HS4_,HS5_⟩ (fun hHeld=>?_)
  clear hK K
  refine norm_ (a':=?_) ?_ ?_
  rotate_left
  ·show Act.put _ (some 99) _=_
   simp only[ap]
   rfl
  refine one_ (i:=4) (N:=some 100) (lb 21 65535) rfl rfl (one_of HT_.out (by kernel_rfl)) (by decide) (fun K hK=>?_)
  refine goes_ Try.func82 (by kernel_rfl) rfl #[.pointer (some ⟨g,0,none⟩),.slice Ao65 y535.length co65] (by rfl) rfl rfl gl ?_
  with_reducible refine(spec_l1Cur_among.calls g s0_0 t533 t534 _ _ y535 t538 t539 t540 w0 _ ?side1 ?side2 ?side3 ?side4 ?side5 A55.out).mono ?_
  (case side1=>exact IsS95.now HI0.out)
  (case side2=>exact h2 HB.out (IsS95.ge HI0.out) GE496.out)
  (case side3=>exact cm (R_reads' HO537.out).2.2)
  (case side4=>exact(R_reads' HO537.out).2.1)
  (case side5=>exact far_slice (IsS95.own_ne HI0.out HO537.out (by decide)))
  rintro e w66 ⟨rfl,hi,hb,hk⟩
  have HS0_:=keep_cell hk (hHeld.1) (by first|(rw[add_block];exact Kd.own_blk (IsS95.own_ne HI0.out HO_11.out (by decide)))|(show(Addr.add _ _).block≠_;rw[add_block];exact Kd.own_blk (IsS95.own_ne HI0.out HO_11.out (by decide)))|exact Kd.own_blk (IsS95.own_ne HI0.out HO_11.out (by decide)))
  have HS1_:=keep_cell hk (hHeld.2.1) (by first|(rw[add_block];exact Kd.own_blk (IsS95.own_ne HI0.out HO_11.out (by decide)))|(show(Addr.add _ _).block≠_;rw[add_block];exact Kd.own_blk (IsS95.own_ne HI0.out HO_11.out (by decide)))|exact Kd.own_blk (IsS95.own_ne HI0.out HO_11.out (by decide)))
  have HS2_:=keep_cell hk (hHeld.2.2.1) (by first|(rw[add_block];exact Kd.own_blk (IsS95.own_ne HI0.out HO_11.out (by decide)))|(show(Addr.add _ _).block≠_;rw[add_block];exact Kd.own_blk (IsS95.own_ne HI0.out HO_11.out (by decide)))|exact Kd.own_blk (IsS95.own_ne HI0.out HO_11.out (by decide)))
  have HS3_:=keep_cell hk (hHeld.2.2.2.1) (by first|(rw[add_block];exact Kd.own_blk (IsS95.own_ne HI0.out HO_11.out (by decide)))|(show(Addr.add _ _).block≠_;rw[add_block];exact Kd.own_blk (IsS95.own_ne HI0.out HO_11.out (by decide)))|exact Kd.own_blk (IsS95.own_ne HI0.out HO_11.out (by decide)))
  have HS4_:=keep_cell hk (hHeld.2.2.2.2.1) (by first|(rw[add_block];exact Kd.own_blk (IsS95.own_ne HI0.out HO_11.out (by decide)))|(show(Addr.add _ _).block≠_;rw[add_block];exact Kd.own_blk (IsS95.own_ne HI0.out HO_11.out (by decide)))|exact Kd.own_blk (IsS95.own_ne HI0.out HO_11.out (by decide)))
  have HS5_:=keep_cell hk (hHeld.2.2.2.2.2) (by first|(rw[add_block];exact Kd.own_blk (IsS95.own_ne HI0.out HO_11.out (by decide)))|(show(Addr.add _ _).block≠_;rw[add_block];exact Kd.own_blk (IsS95.own_ne HI0.out HO_11.out (by decide)))|exact Kd.own_blk (IsS95.own_ne HI0.out HO_11.out (by decide)))
  refine⟨_,rfl,?_⟩
  replace HO_11:=ak (R_mono (R_keep (IsS95.apart (show IsS95 w0 _ g s0_0 t533 t534 from(IsS95.now HI0.out)) (rm HO_11.out) (by decide)) hk (fun _ h=>h.2)) (fun _ h=>h.1))
  replace BK496:=kk BK496 hk NB496_0
  replace HO537:=ak (R_mono (R_keep (IsS95.apart (show IsS95 w0 _ g s0_0 t533 t534 from(IsS95.now HI0.out)) (rm HO537.out) (by decide)) hk (fun _ h=>h.2)) (fun _ h=>h.1))
  replace HK:=ak (KeepBut.trans (kn HK.out) hk (.inl rfl))
  replace HB:=ak hb
  replace HI0:=ak hi
  (try clear hb)
  (try clear hb2)
  (try clear hk)
  (try clear hi)
  refine hK.out _ _ ⟨HS0_,HS1_,HS2_,HS3_,HS4_,HS5_⟩ (fun hHeld=>?_)
  clear hK K
  refine norm_ (a':=?_) ?_ ?_
  rotate_left
  ·show Act.put _ (some 100) _=_
   simp only[ap]
   rfl
  refine one_ (i:=16) (N:=some 112) (lb 21 131071) rfl rfl (one_of HT_.out (by kernel_rfl)) (by decide) (fun K hK=>?_)
  refine goes_ Try.func79 (by kernel_rfl) rfl #[.pointer (some ⟨g,0,none⟩),.int .i64 2] (by rfl) rfl rfl gl ?_
  with_reducible refine(spec_l1Cur_pick.calls g s0_0 t539 t540 2 t543 t544 t545 w0 _ ?side1 ?side2 A58.out).mono ?_
  (case side1=>exact IsS95.now HI0.out)
  (case side2=>exact h2 HB.out (IsS95.ge HI0.out) GE496.out)
  rintro e w67 ⟨rfl,hi,hb,hk⟩
  have HS0_:=keep_cell hk (hHeld.1) (by first|(rw[add_block];exact Kd.own_blk (IsS95.own_ne HI0.out HO_11.out (by decide)))|(show(Addr.add _ _).block≠_;rw[add_block];exact Kd.own_blk (IsS95.own_ne HI0.out HO_11.out (by decide)))|exact Kd.own_blk (IsS95.own_ne HI0.out HO_11.out (by decide)))
  have HS1_:=keep_cell hk (hHeld.2.1) (by first|(rw[add_block];exact Kd.own_blk (IsS95.own_ne HI0.out HO_11.out (by decide)))|(show(Addr.add _ _).block≠_;rw[add_block];exact Kd.own_blk (IsS95.own_ne HI0.out HO_11.out (by decide)))|exact Kd.own_blk (IsS95.own_ne HI0.out HO_11.out (by decide)))
  have HS2_:=keep_cell hk (hHeld.2.2.1) (by first|(rw[add_block];exact Kd.own_blk (IsS95.own_ne HI0.out HO_11.out (by decide)))|(show(Addr.add _ _).block≠_;rw[add_block];exact Kd.own_blk (IsS95.own_ne HI0.out HO_11.out (by decide)))|exact Kd.own_blk (IsS95.own_ne HI0.out HO_11.out (by decide)))
  have HS3_:=keep_cell hk (hHeld.2.2.2.1) (by first|(rw[add_block];exact Kd.own_blk (IsS95.own_ne HI0.out HO_11.out (by decide)))|(show(Addr.add _ _).block≠_;rw[add_block];exact Kd.own_blk (IsS95.own_ne HI0.out HO_11.out (by decide)))|exact Kd.own_blk (IsS95.own_ne HI0.out HO_11.out (by decide)))
  have HS4_:=keep_cell hk (hHeld.2.2.2.2.1) (by first|(rw[add_block];exact Kd.own_blk (IsS95.own_ne HI0.out HO_11.out (by decide)))|(show(Addr.add _ _).block≠_;rw[add_block];exact Kd.own_blk (IsS95.own_ne HI0.out HO_11.out (by decide)))|exact Kd.own_blk (IsS95.own_ne HI0.out HO_11.out (by decide)))
  have HS5_:=keep_cell hk (hHeld.2.2.2.2.2) (by first|(rw[add_block];exact Kd.own_blk (IsS95.own_ne HI0.out HO_11.out (by decide)))|(show(Addr.add _ _).block≠_;rw[add_block];exact Kd.own_blk (IsS95.own_ne HI0.out HO_11.out (by decide)))|exact Kd.own_blk (IsS95.own_ne HI0.out HO_11.out (by decide)))
  refine⟨_,rfl,?_⟩
  replace HO_11:=ak (R_mono (R_keep (IsS95.apart (show IsS95 w0 _ g s0_0 t539 t540 from(IsS95.now HI0.out)) (rm HO_11.out) (by decide)) hk (fun _ h=>h.2)) (fun _ h=>h.1))
  replace BK496:=kk BK496 hk NB496_0
  replace HO537:=ak (R_mono (R_keep (IsS95.apart (show IsS95 w0 _ g s0_0 t539 t540 from(IsS95.now HI0.out)) (rm HO537.out) (by decide)) hk (fun _ h=>h.2)) (fun _ h=>h.1))
  replace HK:=ak (KeepBut.trans (kn HK.out) hk (.inl rfl))
  replace HB:=ak hb
  replace HI0:=ak hi
  (try clear hb)
  (try clear hb2)
  (try clear hk)
  (try clear hi)
  have p59:0≤(t532:Int):=od
  have q59: (t532:Int)<((x11_1.length:Int):Int):=od
  obtain⟨go59,co59,eo59,gb59,gl59,cl59,HG59⟩:=R_form HO_11.out (by omega)
  (first|cases eo59|(injection eo59 with ea_ en_ ec_;(first|subst ea_|(injection ea_ with ea_;subst ea_));subst ec_;clear en_))
  have GB59:=Aside0.mk gb59
  have GG59:=Aside0.mk HG59
  clear gb59 gl59 HG59
  (first|simp only[add_plain]at hx541_0|skip)
  (first|simp only[add_plain]at hx541_1|skip)
  (first|simp only[add_plain]at hx541_2|skip)
  (first|simp only[add_plain]at hx542_0|skip)
  (first|simp only[add_plain]at hx542_1|skip)
  (first|simp only[add_plain]at hx542_2|skip)
  obtain⟨ce59,hcl59,hM59,hcc59,hfr59⟩:=R_elem HO_11.out z70 (t532:Int) p59 q59
  obtain rfl:=k70_openM hM59
  have hx59_0:World.cell? _ ⟨go59,(t532:Int).toNat*3,none⟩=some (.int .i64 ((rd_T70 x11_1 t532).f0)):=hcc59 0 _ rfl
  have hx59_1:World.cell? _ ⟨go59,(t532:Int).toNat*3+1,none⟩=some (.int .i64 ((rd_T70 x11_1 t532).f1)):=hcc59 1 _ rfl
  have hx59_2:World.cell? _ ⟨go59,(t532:Int).toNat*3+2,none⟩=some (.int .i64 ((rd_T70 x11_1 t532).f2)):=hcc59 2 _ rfl
  have hf59_0:World.frozen? _ ⟨go59,(t532:Int).toNat*3,none⟩=false:=hfr59 0
  have hf59_1:World.frozen? _ ⟨go59,(t532:Int).toNat*3+1,none⟩=false:=hfr59 1
  have hf59_2:World.frozen? _ ⟨go59,(t532:Int).toNat*3+2,none⟩=false:=hfr59 2
  clear hcl59 hcc59 hfr59 hM59
  replace p59:=eq_true p59
  replace q59:=eq_true q59
  have HN0_go59:=Aside0.mk (show g≠go59 from by have h_:=IsS95.own_ne HI0.out HO_11.out (by decide);intro e_;exact h_ (by rw[e_];rfl))
  obtain⟨ce68,hcl68,hM68,hcc68,hfr68⟩:=R_elem HO_11.out z70 (t532:Int) (od) (by have h_: (t532:Int)<((x11_1.length:Int):Int):=od;first|exact h_|(have e_:=(R_reads' HO_11.out).1;omega)|simpa using h_)
  obtain rfl:=k70_openM hM68
  have HP68:=(R_seg HO_11.out (t532:Int) (od) (by have h_: (t532:Int)<((x11_1.length:Int):Int):=od;first|exact h_|(have e_:=(R_reads' HO_11.out).1;omega)|simpa using h_) (seg:=[.int .i64 t538,.int .i64 ((rd_T70 x11_1 t532).f1),.int .i64 (wrap64 (((rd_T70 x11_1 t532).f2)+t543))]) (j:=0) hcl68 hcc68 (show 3≤3 from by decide) (x':=(⟨t538,(rd_T70 x11_1 t532).f1,wrap64 (((rd_T70 x11_1 t532).f2)+t543)⟩:S70)) (k70_mkM _ _ _ (⟨t538,(rd_T70 x11_1 t532).f1,wrap64 (((rd_T70 x11_1 t532).f2)+t543)⟩:S70)) (fun _ hk=>hk)).1
  rw[←Ny546.out]at HP68
  have HQ68:=Aside0.mk HP68
  clear hcl68 hcc68 hfr68 hM68 HP68
  refine hK.out _ _ ⟨HS0_,HS1_,HS2_,HS3_,HS4_,HS5_⟩ (fun hHeld=>?_)
  clear hK K
  refine norm_ (a':=?_) ?_ ?_
  rotate_left
  ·show Act.put _ (some 112) _=_
   simp only[ap]
   rfl
  refine pq 17 (N:=some 113) (lb 21 262143) HT_ ?_
  refine pq 18 (N:=some 114) (lb 21 524287) HT_ ?_
  refine pq 19 (N:=some 115) (lb 21 1048575) HT_ ?_
  refine last_ (i:=20) (N:=none) (lb 21 2097151) rfl rfl (one_of HT_.out (by kernel_rfl)) (by decide) (fun K hK=>?_)
  refine skip_ (w1:=?_) (by rfl) rfl ?_ ?_
  rotate_left
  ·go_simp
   rfl
  refine hK.out _ _ ?_
  clear hK K
  refine done_ (done_of HT_.out (by kernel_rfl)) ?_
  try go_wp2
  go_ret
  exact⟨_,fe,by(with_reducible repeat(first|apply R_alloc|apply R_drewN|apply R_drew));exact HQ68.out,by(try simp only[Int.add_zero]);repeat(first|(with_reducible first|exact HI0.out|apply IsS95.alloc|apply IsS95.drewN|apply IsS95.drew|apply IsS95.set_1|apply IsS95.set_2|refine IsS95.far ?_ HN0_go59.out _|refine IsS95.far ?_ HN0_go59.out _|refine IsS95.far ?_ HN0_go59.out _|refine IsS95.far ?_ NB0_496.out _)|exact HI0.out),by repeat(first|(with_reducible first|exact HB.out|apply below_alloc|apply pw_below_drewN|apply below_drew1|refine below_set ?_ (Nat.le_trans HL.out GB59.out)|refine below_set ?_ (Nat.le_trans HL.out GB59.out)|refine below_set ?_ (Nat.le_trans HL.out GB59.out)|refine below_set ?_ (IsS95.ge HI0.out)|refine below_set ?_ GE496.out)|exact HB.out),by repeat(first|(with_reducible first|exact HK.out|apply KeepBut.set_|apply keep_drewN|apply keep_drew|apply keep_alloc|refine keep_far ?_ GB59.out _|refine keep_far ?_ GB59.out _|refine keep_far ?_ GB59.out _|refine keep_far ?_ GW496.out _)|exact HK.out)⟩
 subst c18
 rw[if_pos rfl]at H
 obtain⟨⟨t504,t505,t506⟩,A19,H⟩:=bd H;(try dsimp only at H)
 obtain⟨c20,H⟩:=gi H
 have c20b0:decide (0≤t504)=true:=decide_eq_true c20
 clear c20
 obtain⟨c21,H⟩:=gi H
 have c21b0:decide (t504<(l2.length:Int))=true:=decide_eq_true c21
 clear c21
 obtain⟨t508,A22,H⟩:=bd H;(try dsimp only at H)
 have HC23:=Aside0.mk H
 clear H
 try go_wp2_with (first|(refine gs 43 Try.func79 #[.pointer (some ⟨g,0,none⟩),.int .i64 (l2.length:Int)] ?_;(with_reducible refine(spec_l1Cur_pick.calls g s0_0 x1001_1 x1002_1 (l2.length:Int) t504 t505 t506 w0 _ ?side1 ?side2 A19.out).mono ?_);(case side1=>exact IsS95.now HI0.out);(case side2=>exact h2 HB.out (IsS95.ge HI0.out) GE496.out);rintro e w24 ⟨rfl,hi,hb,hk⟩;refine⟨_,rfl,?_⟩;replace HO_11:=ak (R_mono (R_keep (IsS95.apart (show IsS95 w0 _ g s0_0 x1001_1 x1002_1 from(IsS95.now HI0.out)) (rm HO_11.out) (by decide)) hk (fun _ h=>h.2)) (fun _ h=>h.1));replace HO_12:=ak (R_mono (R_keep (IsS95.apart (show IsS95 w0 _ g s0_0 x1001_1 x1002_1 from(IsS95.now HI0.out)) (rm HO_12.out) (by decide)) hk (fun _ h=>h.2)) (fun _ h=>h.1));replace BK496:=kk BK496 hk NB496_0;replace HK:=ak (KeepBut.trans (kn HK.out) hk (.inl rfl));replace HB:=ak hb;replace HI0:=ak hi;(try clear hb);(try clear hk);(try clear hi)))
 replace HO_11:=ak (R_drew HO_11.out)
 replace HO_12:=ak (R_drew HO_12.out)
 replace BK496:=ak (blk_drew BK496.out)
 replace HI0:=ak (IsS95.drew HI0.out)
 replace HK:=ak (keep_drew HK.out)
 replace HB:=ak (below_drew1 HB.out)
 have p507:0≤(t504:Int):=od
 have q507:t504<(l2.length:Int):=od
 obtain⟨ad507,e507,hx507_0,hx507_1,hx507_2⟩:=at_T63 (C_foot_now HR2.out HK.out) t504 p507 q507
 have hw507_2:=hx507_2
 have hw507_1:=hx507_1
 have hw507_0:=hx507_0
 cases e507
 have hne507_2:=(show(⟨(ad507.add ((t504).toNat*3)).block,(ad507.add ((t504).toNat*3)).off+2,none⟩:Addr).block≠g from by first|(rw[add_block];exact Kd.foot_ne HR2.out (by omega) (by decide))|(show(Addr.add _ _).block≠_;rw[add_block];exact Kd.foot_ne HR2.out (by omega) (by decide))|exact Kd.foot_ne HR2.out (by omega) (by decide)|(dsimp only;exact Kd.foot_ne HR2.out (by omega) (by decide)))
 have hlt507_2:=(Kd.foot_lt HR2.out (by omega) (by decide))
 have hne507_1:=(show(⟨(ad507.add ((t504).toNat*3)).block,(ad507.add ((t504).toNat*3)).off+1,none⟩:Addr).block≠g from by first|(rw[add_block];exact Kd.foot_ne HR2.out (by omega) (by decide))|(show(Addr.add _ _).block≠_;rw[add_block];exact Kd.foot_ne HR2.out (by omega) (by decide))|exact Kd.foot_ne HR2.out (by omega) (by decide)|(dsimp only;exact Kd.foot_ne HR2.out (by omega) (by decide)))
 have hlt507_1:=(Kd.foot_lt HR2.out (by omega) (by decide))
 have hne507_0:=(show((ad507.add ((t504).toNat*3)):Addr).block≠g from by first|(rw[add_block];exact Kd.foot_ne HR2.out (by omega) (by decide))|(show(Addr.add _ _).block≠_;rw[add_block];exact Kd.foot_ne HR2.out (by omega) (by decide))|exact Kd.foot_ne HR2.out (by omega) (by decide)|(dsimp only;exact Kd.foot_ne HR2.out (by omega) (by decide)))
 have hlt507_0:=(Kd.foot_lt HR2.out (by omega) (by decide))
 replace p507:=eq_true p507
 replace q507:=eq_true q507
 refine start_ (n:=8) (S:=fun w'=>w'.cell? ⟨gb496,0,none⟩=some (.int .i64 a1_0)∧w'.cell? ⟨gb496,1,none⟩=some (.bool a1_1)∧w'.cell? (ad507.add ((t504).toNat*3))=some (.int .i64 ((rd_T63 l2 t504).f0))∧w'.cell? ⟨(ad507.add ((t504).toNat*3)).block,(ad507.add ((t504).toNat*3)).off+1,none⟩=some (.int .i64 ((rd_T63 l2 t504).f1))∧w'.cell? ⟨(ad507.add ((t504).toNat*3)).block,(ad507.add ((t504).toNat*3)).off+2,none⟩=some (.int .i64 ((rd_T63 l2 t504).f2))) (ds:=[]) (lb 8 0) (by kernel_rfl) rfl rfl ⟨bc BK496 0 rfl,bc BK496 1 rfl,hx507_0,hx507_1,hx507_2⟩ (fun hHeld=>?_);refine with_tabW spec_l1Cur_legs7.tab10 spec_l1Cur_legs7.bits10 (fun HT_ HW_=>?_)
 generalize w24.drew=w25 at HO_11 HO_12 BK496 HI0 HK HB hx507_0 hx507_1 hx507_2 hHeld⊢
 refine pq 1 (N:=some 45) (lb 8 2) HT_ ?_
 refine pq 2 (N:=some 46) (lb 8 6) HT_ ?_
 refine pq 3 (N:=some 47) (lb 8 14) HT_ ?_
 refine pq 5 (N:=some 49) (lb 8 46) HT_ ?_
 refine tq 0 (N:=some 44) (lb 8 47) HT_ HW_ hHeld ?_
 refine tq 4 (N:=some 48) (lb 8 63) HT_ HW_ hHeld ?_
 refine one_ (i:=6) (N:=some 50) (lb 8 127) rfl rfl (one_of HT_.out (by kernel_rfl)) (by decide) (fun K hK=>?_)
 refine goes_ Try.func98 (by kernel_rfl) rfl #[.agg #[.int .i64 a1_0,.bool a1_1],.agg #[.int .i64 ((rd_T63 l2 t504).f0),.int .i64 ((rd_T63 l2 t504).f1),.int .i64 ((rd_T63 l2 t504).f2)],.int .i64 x13_1] (by rfl) rfl rfl gl ?_
 with_reducible refine(spec_l7End.calls a1_0 a1_1 ((rd_T63 l2 t504).f0) ((rd_T63 l2 t504).f1) ((rd_T63 l2 t504).f2) x13_1 t508 _ A22.out).mono ?_
 rintro e w26 ⟨rfl,hb⟩
 have HS2_:=(hb.cell (World.block_lt_of_cell? _ _ (hHeld.2.2.1))).trans (hHeld.2.2.1)
 have HS3_:=(hb.cell (World.block_lt_of_cell? _ _ (hHeld.2.2.2.1))).trans (hHeld.2.2.2.1)
 have HS4_:=(hb.cell (World.block_lt_of_cell? _ _ (hHeld.2.2.2.2))).trans (hHeld.2.2.2.2)
 refine⟨_,rfl,?_⟩
 replace HO_11:=rb HO_11 hb
 replace HO_12:=rb HO_12 hb
 replace BK496:=kb BK496 hb
 replace HK:=ak (KeepBut.trans (kn HK.out) (KeepBut.of_below hb g none) (.inl rfl))
 replace HB:=ak (below_step (h2 HB.out (IsS95.ge HI0.out) GE496.out) hb)
 replace HI0:=ak (IsS95.below (g:=g) (IsS95.now HI0.out) hb)
 (try clear hb)
 (try clear hb2)
 (try clear hk)
 (try clear hi)
 refine hK.out _ _ ⟨bc BK496 0 rfl,bc BK496 1 rfl,HS2_,HS3_,HS4_⟩ (fun hHeld=>?_)
 clear hK K
 refine norm_ (a':=?_) ?_ ?_
 rotate_left
 ·show Act.put _ (some 50) _=_
  simp only[ap]
  rfl
 refine pq 7 (N:=some 16) (lb 8 255) HT_ ?_
 refine done_ (done_of HT_.out (by kernel_rfl)) ?_
 go_upto_region 11 with(fail)
 go_cut [59] (fun v59 wc=>∃ (kq:Nat) (x59_22:Bool),v59= .bool x59_22∧Aside0 (spec_l1Cur_legs7.j2 kq l2 a4 x11_1 x12_1 x13_1 x14_1 t504 t508 x59_22 s0_0 t505 t506 a1_0 a1_1=some (r1,r2,r3))∧Aside0 (kq≤kj15)∧Aside0 (Kd.R k70 70 wc w.heap.size (fun _=>True) u11 x11_1)∧Aside0 (Kd.R (Kd.int .i64) 3 wc w.heap.size (fun _=>True) u12 x12_1)∧Aside0 (wc.heap[gb496]? =some (.cells #[.int .i64 a1_0,.bool a1_1] 28 (0,0)))∧Aside0 (IsS95 w0 wc g s0_0 t505 t506)∧Aside0 (KeepBut w wc g none)∧Aside0 (Below w0.heap.size w0 wc))
 case first=>
  have H:=HC23.out
  clear HC23
  obtain⟨t509,A27,H⟩:=bd H;(try dsimp only at H)
  by_cases c28:t509=true
  ·subst c28
   rw[if_pos rfl]at H
   have H':=Aside0.mk H
   clear H
   obtain⟨Ao29,co29,eo29⟩:=R_slice HO_12.out
   subst eo29
   go_wp2_with (first|(refine gs 53 Try.func102 #[.slice Ao29 x12_1.length co29,.int .i64 t504] ?_;(with_reducible refine(spec_l1Has.calls kj15 _ _ x12_1 t504 true _ ?side1 ?side2 A27.out).mono ?_);(case side1=>exact cm (R_reads' HO_12.out).2.2);(case side2=>exact(R_reads' HO_12.out).2.1);rintro e w' ⟨rfl,⟨nd,rfl⟩⟩;refine⟨_,rfl,?_⟩))
   go_meet
   case rel=>exact⟨_,(false),fd,H',⟨by first|exact Nat.le_refl _|(have:=HK1.out;have:=HJ15.out;omega)⟩,⟨rm HO_11.out⟩,⟨rm HO_12.out⟩,⟨bm BK496.out⟩,⟨(IsS95.now HI0.out)⟩,⟨(kn HK.out)⟩,⟨h2 HB.out (IsS95.ge HI0.out) GE496.out⟩⟩
  replace c28:=Bool.eq_false_iff.mpr c28
  subst c28
  rw[if_neg (show ¬(false=true)by decide)]at H
  have H':=Aside0.mk H
  clear H
  obtain⟨Ao30,co30,eo30⟩:=R_slice HO_12.out
  subst eo30
  go_wp2_with (first|(refine gs 53 Try.func102 #[.slice Ao30 x12_1.length co30,.int .i64 t504] ?_;(with_reducible refine(spec_l1Has.calls kj15 _ _ x12_1 t504 false _ ?side1 ?side2 A27.out).mono ?_);(case side1=>exact cm (R_reads' HO_12.out).2.2);(case side2=>exact(R_reads' HO_12.out).2.1);rintro e w' ⟨rfl,⟨nd,rfl⟩⟩;refine⟨_,rfl,?_⟩))
  go_meet
  case rel=>exact⟨_,(decide (t508>x13_1)),fd,H',⟨by first|exact Nat.le_refl _|(have:=HK1.out;have:=HJ15.out;omega)⟩,⟨rm HO_11.out⟩,⟨rm HO_12.out⟩,⟨bm BK496.out⟩,⟨(IsS95.now HI0.out)⟩,⟨(kn HK.out)⟩,⟨h2 HB.out (IsS95.ge HI0.out) GE496.out⟩⟩
 clear HC23
 try clear c1
 try clear c2
 try clear p2
 try clear c5
 try clear p5
 try clear q5
 try clear hx5
 try clear c7
 try clear c9
 try clear c10
 try clear c11
 try clear c17
 try clear c17b0
 try clear c18
 try clear c20
 try clear c20b0
 try clear c21
 try clear c21b0
 try clear c28
 try clear hcz12_0
 try clear hcz12_1
 try clear hfz12_0
 try clear hfz12_1
 try clear hx507_0
 try clear hx507_1
 try clear hx507_2
 try clear p2
 try clear p507
 try clear q507
 obtain⟨kq,x59_22,rfl,HA,HJ22,HO_11,HO_12,BK496,HI0,HK,HB⟩:=hcut
 obtain _|kj22:=kq;·cases HA.out
 obtain⟨H⟩:=HA
 simp only[spec_l1Cur_legs7.j2]at H
 by_cases c31:x59_22=true
 rotate_left
 ·replace c31:=Bool.eq_false_iff.mpr c31
  subst c31
  rw[if_neg (show ¬(false=true)by decide)]at H
  have H':=Aside0.mk H
  clear H
  go_wp2
  go_roundg kj22
  case measure=>have:=HK1.out;have:=HJ15.out;have:=HJ22.out;omega
  case rel=>exact⟨(x11_1),(x12_1),(x13_1),(wrap64 (x14_1+1)),(t505),(t506),fd,fd,H',⟨by have:=HK1.out;have:=HJ15.out;have:=HJ22.out;omega⟩,⟨rm HO_11.out⟩,⟨rm HO_12.out⟩,⟨bm BK496.out⟩,⟨(IsS95.now HI0.out)⟩,⟨(kn HK.out)⟩,⟨h2 HB.out (IsS95.ge HI0.out) GE496.out⟩⟩
 subst c31
 rw[if_pos rfl]at H
 obtain⟨t510,A32,H⟩:=bd H;(try dsimp only at H)
 obtain⟨⟨t511,t512,t513⟩,A33,H⟩:=bd H;(try dsimp only at H)
 by_cases c34:t511=true
 rotate_left
 ·replace c34:=Bool.eq_false_iff.mpr c34
  subst c34
  rw[if_neg (show ¬(false=true)by decide)]at H
  obtain⟨c42,H⟩:=gi H
  have LMc42:=Aside0.mk c42
  clear c42
  generalize hy523: (x11_1++[(⟨t504,x13_1,t510⟩:S70)]:List (S70))=y523 at H
  have Ny523:=ak hy523.symm
  clear hy523
  obtain⟨c43,H⟩:=gi H
  have LMc43:=Aside0.mk c43
  clear c43
  generalize hy526: (x12_1++[t504]:List Int)=y526 at H
  have Ny526:=ak hy526.symm
  clear hy526
  have H':=Aside0.mk H
  clear H
  go_wp2_with (first|(refine gs 62 Try.func108 #[.int .i64 a4,.int .i64 t508] ?_;(with_reducible refine(spec_l1Least.calls a4 t508 t510 _ A32.out).mono ?_);rintro e w' ⟨rfl,⟨nd,rfl⟩⟩;refine⟨_,rfl,?_⟩)|(refine gs 64 Try.func81 #[.pointer (some ⟨g,0,none⟩),.int .i64 3] ?_;(with_reducible refine(spec_l1Cur_one.calls g s0_0 t505 t506 3 false t512 t513 w0 _ ?side1 ?side2 A33.out).mono ?_);(case side1=>exact IsS95.now HI0.out);(case side2=>exact h2 HB.out (IsS95.ge HI0.out) GE496.out);rintro e w44 ⟨rfl,hi,hb,hk⟩;refine⟨_,rfl,?_⟩;replace HO_11:=ak (R_mono (R_keep (IsS95.apart (show IsS95 w0 _ g s0_0 t505 t506 from(IsS95.now HI0.out)) (rm HO_11.out) (by decide)) hk (fun _ h=>h.2)) (fun _ h=>h.1));replace HO_12:=ak (R_mono (R_keep (IsS95.apart (show IsS95 w0 _ g s0_0 t505 t506 from(IsS95.now HI0.out)) (rm HO_12.out) (by decide)) hk (fun _ h=>h.2)) (fun _ h=>h.1));replace BK496:=kk BK496 hk NB496_0;replace HK:=ak (KeepBut.trans (kn HK.out) hk (.inl rfl));replace HB:=ak hb;replace HI0:=ak hi;(try clear hb);(try clear hk);(try clear hi))|((with_reducible refine gate_builtin (b:=.append) (xs:=#[.tmp 73,.tmp 78]) rfl ?_);at_builtin;refine R_append k70 w.heap.size rfl (.tmp 73) (.tmp 78) 34 70 (.agg #[(.int .i64 0),(.int .i64 0),(.int .i64 0)]) 24 rfl Try.underlying34 info70 rfl (by decide) (by omega) u11 x11_1 (⟨t504,x13_1,t510⟩:S70) [.int .i64 t504,.int .i64 x13_1,.int .i64 t510] (fun _=>True) (fun _=>False) rfl rfl ?aP (fun _ hk=>hk.elim) ?aF ?aO (Below.refl _ _) ?aS ?aL ?_;(case aP=>exact k70_mkM _ _ _ (⟨t504,x13_1,t510⟩:S70));(case aF=>exact(fun _ _=>trivial));(case aO=>exact(rm HO_11.out));(case aS=>exact(keep_size (w:=w) (g:=g) (row:=none) (kn HK.out)));(case aL=>have:=LMc42.out;omega);intro v524 w45 ho hb hg hat;rw[←Ny523.out]at ho;replace HO_12:=ak (R_over' (rm HO_12.out) (R_typed (rm HO_11.out)) (by decide) hg);replace BK496:=ak (blk_grown (g:=gb496) (o:=.cells #[.int .i64 a1_0,.bool a1_1] 28 (0,0)) (bm BK496.out) hg (R_ne HO_11.out BK496.out (by decide)));replace HB:=ak (below_weaken (h2 HB.out (IsS95.ge HI0.out) GE496.out) HL.out hb);replace HI0:=ak (IsS95.grown (show IsS95 w0 _ g s0_0 t512 t513 from(IsS95.now HI0.out)) hg (IsS95.own_ne HI0.out HO_11.out (by decide)));replace HK:=ak (KeepBut.trans (kn HK.out) (KeepBut.of_grown hg g) (R_base2 HO_11.out));have HO525:=ak ho;clear HO_11;clear ho hb hg hat)|((with_reducible refine gate_builtin (b:=.append) (xs:=#[.tmp 80,.tmp 82]) rfl ?_);at_builtin;refine R_append (Kd.int .i64) w.heap.size rfl (.tmp 80) (.tmp 82) 40 3 (.int .i64 0) 8 rfl Try.underlying40 info3 rfl (by decide) (by omega) u12 x12_1 t504 [.int .i64 t504] (fun _=>True) (fun _=>False) rfl rfl ?aP (fun _ hk=>hk.elim) ?aF ?aO (Below.refl _ _) ?aS ?aL ?_;(case aP=>exact rfl);(case aF=>exact(fun _ _=>trivial));(case aO=>exact(rm HO_12.out));(case aS=>exact(keep_size (w:=w) (g:=g) (row:=none) (kn HK.out)));(case aL=>have:=LMc43.out;omega);intro v527 w46 ho hb hg hat;rw[←Ny526.out]at ho;replace BK496:=ak (blk_grown (g:=gb496) (o:=.cells #[.int .i64 a1_0,.bool a1_1] 28 (0,0)) (bm BK496.out) hg (R_ne HO_12.out BK496.out (by decide)));replace HO525:=ak (R_over' (rm HO525.out) (R_typed (rm HO_12.out)) (by decide) hg);replace HB:=ak (below_weaken (h2 HB.out (IsS95.ge HI0.out) GE496.out) HL.out hb);replace HI0:=ak (IsS95.grown (show IsS95 w0 _ g s0_0 t512 t513 from(IsS95.now HI0.out)) hg (IsS95.own_ne HI0.out HO_12.out (by decide)));replace HK:=ak (KeepBut.trans (kn HK.out) (KeepBut.of_grown hg g) (R_base2 HO_12.out));have HO528:=ak ho;clear HO_12;clear ho hb hg hat))
  go_roundg kj22
  case measure=>have:=HK1.out;have:=HJ15.out;have:=HJ22.out;omega
  case rel=>exact⟨(y523),(y526),(t510),(wrap64 (x14_1+1)),(t512),(t513),fd,fd,H',⟨by have:=HK1.out;have:=HJ15.out;have:=HJ22.out;omega⟩,⟨rm HO525.out⟩,⟨rm HO528.out⟩,⟨bm BK496.out⟩,⟨(IsS95.now HI0.out)⟩,⟨(kn HK.out)⟩,⟨h2 HB.out (IsS95.ge HI0.out) GE496.out⟩⟩
 subst c34
 rw[if_pos rfl]at H
 obtain⟨⟨t514,t515,t516⟩,A35,H⟩:=bd H;(try dsimp only at H)
 obtain⟨c36,H⟩:=gi H
 have LMc36:=Aside0.mk c36
 clear c36
 generalize hy517: (x11_1++[(⟨t504,x13_1,wrap64 ((wrap64 (x13_1+1))+t514)⟩:S70)]:List (S70))=y517 at H
 have Ny517:=ak hy517.symm
 clear hy517
 obtain⟨c37,H⟩:=gi H
 have LMc37:=Aside0.mk c37
 clear c37
 generalize hy520: (x12_1++[t504]:List Int)=y520 at H
 have Ny520:=ak hy520.symm
 clear hy520
 have H':=Aside0.mk H
 clear H
 go_wp2_with (first|(refine gs 62 Try.func108 #[.int .i64 a4,.int .i64 t508] ?_;(with_reducible refine(spec_l1Least.calls a4 t508 t510 _ A32.out).mono ?_);rintro e w' ⟨rfl,⟨nd,rfl⟩⟩;refine⟨_,rfl,?_⟩)|(refine gs 64 Try.func81 #[.pointer (some ⟨g,0,none⟩),.int .i64 3] ?_;(with_reducible refine(spec_l1Cur_one.calls g s0_0 t505 t506 3 true t512 t513 w0 _ ?side1 ?side2 A33.out).mono ?_);(case side1=>exact IsS95.now HI0.out);(case side2=>exact h2 HB.out (IsS95.ge HI0.out) GE496.out);rintro e w38 ⟨rfl,hi,hb,hk⟩;refine⟨_,rfl,?_⟩;replace HO_11:=ak (R_mono (R_keep (IsS95.apart (show IsS95 w0 _ g s0_0 t505 t506 from(IsS95.now HI0.out)) (rm HO_11.out) (by decide)) hk (fun _ h=>h.2)) (fun _ h=>h.1));replace HO_12:=ak (R_mono (R_keep (IsS95.apart (show IsS95 w0 _ g s0_0 t505 t506 from(IsS95.now HI0.out)) (rm HO_12.out) (by decide)) hk (fun _ h=>h.2)) (fun _ h=>h.1));replace BK496:=kk BK496 hk NB496_0;replace HK:=ak (KeepBut.trans (kn HK.out) hk (.inl rfl));replace HB:=ak hb;replace HI0:=ak hi;(try clear hb);(try clear hk);(try clear hi))|(refine gs 71 Try.func79 #[.pointer (some ⟨g,0,none⟩),.int .i64 (wrap64 (t510-x13_1))] ?_;(with_reducible refine(spec_l1Cur_pick.calls g s0_0 t512 t513 (wrap64 (t510-x13_1)) t514 t515 t516 w0 _ ?side1 ?side2 A35.out).mono ?_);(case side1=>exact IsS95.now HI0.out);(case side2=>exact h2 HB.out (IsS95.ge HI0.out) GE496.out);rintro e w39 ⟨rfl,hi,hb,hk⟩;refine⟨_,rfl,?_⟩;replace HO_11:=ak (R_mono (R_keep (IsS95.apart (show IsS95 w0 _ g s0_0 t512 t513 from(IsS95.now HI0.out)) (rm HO_11.out) (by decide)) hk (fun _ h=>h.2)) (fun _ h=>h.1));replace HO_12:=ak (R_mono (R_keep (IsS95.apart (show IsS95 w0 _ g s0_0 t512 t513 from(IsS95.now HI0.out)) (rm HO_12.out) (by decide)) hk (fun _ h=>h.2)) (fun _ h=>h.1));replace BK496:=kk BK496 hk NB496_0;replace HK:=ak (KeepBut.trans (kn HK.out) hk (.inl rfl));replace HB:=ak hb;replace HI0:=ak hi;(try clear hb);(try clear hk);(try clear hi))|((with_reducible refine gate_builtin (b:=.append) (xs:=#[.tmp 73,.tmp 78]) rfl ?_);at_builtin;refine R_append k70 w.heap.size rfl (.tmp 73) (.tmp 78) 34 70 (.agg #[(.int .i64 0),(.int .i64 0),(.int .i64 0)]) 24 rfl Try.underlying34 info70 rfl (by decide) (by omega) u11 x11_1 (⟨t504,x13_1,wrap64 ((wrap64 (x13_1+1))+t514)⟩:S70) [.int .i64 t504,.int .i64 x13_1,.int .i64 (wrap64 ((wrap64 (x13_1+1))+t514))] (fun _=>True) (fun _=>False) rfl rfl ?aP (fun _ hk=>hk.elim) ?aF ?aO (Below.refl _ _) ?aS ?aL ?_;(case aP=>exact k70_mkM _ _ _ (⟨t504,x13_1,wrap64 ((wrap64 (x13_1+1))+t514)⟩:S70));(case aF=>exact(fun _ _=>trivial));(case aO=>exact(rm HO_11.out));(case aS=>exact(keep_size (w:=w) (g:=g) (row:=none) (kn HK.out)));(case aL=>have:=LMc36.out;omega);intro v518 w40 ho hb hg hat;rw[←Ny517.out]at ho;replace HO_12:=ak (R_over' (rm HO_12.out) (R_typed (rm HO_11.out)) (by decide) hg);replace BK496:=ak (blk_grown (g:=gb496) (o:=.cells #[.int .i64 a1_0,.bool a1_1] 28 (0,0)) (bm BK496.out) hg (R_ne HO_11.out BK496.out (by decide)));replace HB:=ak (below_weaken (h2 HB.out (IsS95.ge HI0.out) GE496.out) HL.out hb);replace HI0:=ak (IsS95.grown (show IsS95 w0 _ g s0_0 t515 t516 from(IsS95.now HI0.out)) hg (IsS95.own_ne HI0.out HO_11.out (by decide)));replace HK:=ak (KeepBut.trans (kn HK.out) (KeepBut.of_grown hg g) (R_base2 HO_11.out));have HO519:=ak ho;clear HO_11;clear ho hb hg hat)|((with_reducible refine gate_builtin (b:=.append) (xs:=#[.tmp 80,.tmp 82]) rfl ?_);at_builtin;refine R_append (Kd.int .i64) w.heap.size rfl (.tmp 80) (.tmp 82) 40 3 (.int .i64 0) 8 rfl Try.underlying40 info3 rfl (by decide) (by omega) u12 x12_1 t504 [.int .i64 t504] (fun _=>True) (fun _=>False) rfl rfl ?aP (fun _ hk=>hk.elim) ?aF ?aO (Below.refl _ _) ?aS ?aL ?_;(case aP=>exact rfl);(case aF=>exact(fun _ _=>trivial));(case aO=>exact(rm HO_12.out));(case aS=>exact(keep_size (w:=w) (g:=g) (row:=none) (kn HK.out)));(case aL=>have:=LMc37.out;omega);intro v521 w41 ho hb hg hat;rw[←Ny520.out]at ho;replace BK496:=ak (blk_grown (g:=gb496) (o:=.cells #[.int .i64 a1_0,.bool a1_1] 28 (0,0)) (bm BK496.out) hg (R_ne HO_12.out BK496.out (by decide)));replace HO519:=ak (R_over' (rm HO519.out) (R_typed (rm HO_12.out)) (by decide) hg);replace HB:=ak (below_weaken (h2 HB.out (IsS95.ge HI0.out) GE496.out) HL.out hb);replace HI0:=ak (IsS95.grown (show IsS95 w0 _ g s0_0 t515 t516 from(IsS95.now HI0.out)) hg (IsS95.own_ne HI0.out HO_12.out (by decide)));replace HK:=ak (KeepBut.trans (kn HK.out) (KeepBut.of_grown hg g) (R_base2 HO_12.out));have HO522:=ak ho;clear HO_12;clear ho hb hg hat))
 go_roundg kj22
 case measure=>have:=HK1.out;have:=HJ15.out;have:=HJ22.out;omega
 case rel=>exact⟨(y517),(y520),(wrap64 ((wrap64 (x13_1+1))+t514)),(wrap64 (x14_1+1)),(t515),(t516),fd,fd,H',⟨by have:=HK1.out;have:=HJ15.out;have:=HJ22.out;omega⟩,⟨rm HO519.out⟩,⟨rm HO522.out⟩,⟨bm BK496.out⟩,⟨(IsS95.now HI0.out)⟩,⟨(kn HK.out)⟩,⟨h2 HB.out (IsS95.ge HI0.out) GE496.out⟩⟩
end
end Go.Proofs.Ythagkpoinjpmfaa.QFnRelays
