/- Functions that the law FnRelays comes to, and their walks: no condition but those named. -/
import Derived.Test.YthagkpoinjpmfaaQFnRelaysx0
import Derived.Test.YthagkpoinjpmfaaQFnRelaysx4
import Derived.Test.YthagkpoinjpmfaaQFnRelaysx11
namespace Go.Proofs.Ythagkpoinjpmfaa.QFnRelays
open Go.RowKit Go.Proofs.YthagkpoinjpmfaaW.PrintWords Go.Proofs.YthagkpoinjpmfaaW.PrintLast Go.Proofs.YthagkpoinjpmfaaW.PrintMore Go.Proofs.Ythagkpoinjpmfaa.Short
attribute [local go_sem] max2_int min2_int max_two min_two max_three min_three max_four min_four
set_option linter.unusedVariables false
set_option linter.unusedSimpArgs false
section
open Kd
def impl_LeastPrice.f (k:Nat) (a0_0:Int) (a0_1:Bool) (l1:List (S63)) (a2:Int) (a3:Int):Option (Int × Bool):=(mkLeg0.f a0_0 a0_1).bind fun t309=>((impl_least.f k a0_0 a0_1 l1 a2 a3 t309).bind fun bt310=>(some (bt310.1,bt310.2)))
theorem impl_LeastPrice.mono:∀ a0 a1 a2 a3 a4 k,LeO (impl_LeastPrice.f k a0 a1 a2 a3 a4) (impl_LeastPrice.f (k+1) a0 a1 a2 a3 a4):=by
 intro a0 a1 a2 a3 a4 k
 unfold impl_LeastPrice.f
 repeat' (with_reducible first|exact impl_least.mono ..|exact LeO.refl _|exact LeO.none _|refine LeO.ite ?_ ?_|refine LeO.bind ?_ (fun _=>?_))
set_option maxHeartbeats 8000000 in
set_option maxRecDepth 100000 in
theorem impl_LeastPrice.calls (k:Nat) (a0_0:Int) (a0_1:Bool) (A1:Option Addr) (c1:Nat) (l1:List (S63)) (a2:Int) (a3:Int) (r1:Int) (r2:Bool) (w:World) (hr1:Kd.C k63 w A1 l1.length l1) (hc1:l1.length≤c1) (h:impl_LeastPrice.f k a0_0 a0_1 l1 a2 a3=some (r1,r2)):
  Calls Try.prog 33 #[.agg #[.int .i64 a0_0,.bool a0_1],.slice A1 l1.length c1,.int .i64 a2,.int .i64 a3] w fun e w'=>e= .returned (.tuple #[.int .i64 r1,.bool r2])∧Below w.heap.size w w':=by
 have hu28:=Try.underlying28
 have HR1:=Aside0.mk hr1
 have HC1:=Aside0.mk hc1
 clear hr1 hc1
 have HB:=Aside0.mk (Below.refl w.heap.size w)
 unfold impl_LeastPrice.f at h
 have H:=h
 clear h
 obtain⟨t309,A5,H⟩:=bd H;(try dsimp only at H)
 obtain rfl:legCode 0 a0_0 a0_1=t309:=Option.some.inj A5.out
 obtain⟨⟨t310,t311⟩,A6,H⟩:=bd H;(try dsimp only at H)
 simp only[Option.some.injEq,Prod.mk.injEq]at H
 obtain⟨rfl,rfl⟩:=H
 go_enter Try.func33,Try.ntmps33
 go_wp2_with (first|(refine bx 4 #[.int .i64 a0_0,.bool a0_1] 28 ?_;intro gb308 hg w7 hbox hb;have BK308:=ak hbox;have GW308:=gw HB hg;have GE308:=gw HB hg;replace HB:=bs HB hb;clear hb hbox hg;have hcz8_0:=bc BK308 0 rfl;have hcz8_1:=bc BK308 1 rfl;have hfz8_0:=bf BK308 0;have hfz8_1:=bf BK308 1)|(refine gs 15 Try.func74 #[.agg #[.int .i64 a0_0,.bool a0_1],.slice A1 l1.length c1,.int .i64 a2,.int .i64 a3,.func (.func 75) #[] #[.pointer (some ⟨gb308,0,none⟩)]] ?_;(with_reducible refine(impl_least.calls k a0_0 a0_1 _ _ l1 a2 a3 (legCode 0 a0_0 a0_1) _ t310 t311 _ ?side1 ?side2 ?sideL A6.out).mono ?_);(case sideL=>exact Or.inl ⟨(legCode_0 _ _).2.2,gb308,rfl,by rw[(legCode_0 _ _).1,(legCode_0 _ _).2.1];exact bm BK308.out⟩);(case side1=>exact cm (C_below HR1.out HB.out));(case side2=>exact HC1.out);rintro e w10 ⟨rfl,hb⟩;refine⟨_,rfl,?_⟩;replace BK308:=kb BK308 hb;replace HB:=ak (below_step (h1 HB.out GE308.out) hb);(try clear hb);(try clear hk);(try clear hi)))
 go_ret2
 exact⟨fe,h1 HB.out GE308.out⟩
def impl_FirstArrival.f (k:Nat) (a0_0:Int) (a0_1:Bool) (l1:List (S63)) (a2:Int) (a3:Int):Option (Int × Bool):=(mkLeg1.f a0_0 a0_1).bind fun t313=>((impl_least.f k a0_0 a0_1 l1 a2 a3 t313).bind fun bt314=>(some (bt314.1,bt314.2)))
theorem impl_FirstArrival.mono:∀ a0 a1 a2 a3 a4 k,LeO (impl_FirstArrival.f k a0 a1 a2 a3 a4) (impl_FirstArrival.f (k+1) a0 a1 a2 a3 a4):=by
 intro a0 a1 a2 a3 a4 k
 unfold impl_FirstArrival.f
 repeat' (with_reducible first|exact impl_least.mono ..|exact LeO.refl _|exact LeO.none _|refine LeO.ite ?_ ?_|refine LeO.bind ?_ (fun _=>?_))
set_option maxHeartbeats 8000000 in
set_option maxRecDepth 100000 in
theorem impl_FirstArrival.calls (k:Nat) (a0_0:Int) (a0_1:Bool) (A1:Option Addr) (c1:Nat) (l1:List (S63)) (a2:Int) (a3:Int) (r1:Int) (r2:Bool) (w:World) (hr1:Kd.C k63 w A1 l1.length l1) (hc1:l1.length≤c1) (h:impl_FirstArrival.f k a0_0 a0_1 l1 a2 a3=some (r1,r2)):
  Calls Try.prog 35 #[.agg #[.int .i64 a0_0,.bool a0_1],.slice A1 l1.length c1,.int .i64 a2,.int .i64 a3] w fun e w'=>e= .returned (.tuple #[.int .i64 r1,.bool r2])∧Below w.heap.size w w':=by
 have hu28:=Try.underlying28
 have HR1:=Aside0.mk hr1
 have HC1:=Aside0.mk hc1
 clear hr1 hc1
 have HB:=Aside0.mk (Below.refl w.heap.size w)
 unfold impl_FirstArrival.f at h
 have H:=h
 clear h
 obtain⟨t313,A5,H⟩:=bd H;(try dsimp only at H)
 obtain rfl:legCode 1 a0_0 a0_1=t313:=Option.some.inj A5.out
 obtain⟨⟨t314,t315⟩,A6,H⟩:=bd H;(try dsimp only at H)
 simp only[Option.some.injEq,Prod.mk.injEq]at H
 obtain⟨rfl,rfl⟩:=H
 go_enter Try.func35,Try.ntmps35
 go_wp2_with (first|(refine bx 4 #[.int .i64 a0_0,.bool a0_1] 28 ?_;intro gb312 hg w7 hbox hb;have BK312:=ak hbox;have GW312:=gw HB hg;have GE312:=gw HB hg;replace HB:=bs HB hb;clear hb hbox hg;have hcz8_0:=bc BK312 0 rfl;have hcz8_1:=bc BK312 1 rfl;have hfz8_0:=bf BK312 0;have hfz8_1:=bf BK312 1)|((with_reducible refine gate_callee (f:=74) rfl ?_);refine goesL_ (some 16) rfl rfl Try.func74 (by kernel_rfl) rfl #[.agg #[.int .i64 a0_0,.bool a0_1],.slice A1 l1.length c1,.int .i64 a2,.int .i64 a3,.func (.func 70) #[.agg #[.int .i64 a0_0,.bool a0_1]] #[]] rfl gl ?_;(with_reducible refine(impl_least.calls k a0_0 a0_1 _ _ l1 a2 a3 (legCode 1 a0_0 a0_1) _ t314 t315 _ ?side1 ?side2 ?sideL A6.out).mono ?_);(case sideL=>exact Or.inr ⟨(legCode_1 _ _).2.2,by rw[(legCode_1 _ _).1,(legCode_1 _ _).2.1]⟩);(case side1=>exact cm (C_below HR1.out HB.out));(case side2=>exact HC1.out);rintro e w10 ⟨rfl,hb⟩;refine⟨_,rfl,?_⟩;replace BK312:=kb BK312 hb;replace HB:=ak (below_step (h1 HB.out GE312.out) hb);(try clear hb);(try clear hk);(try clear hi)))
 go_ret2
 exact⟨fe,h1 HB.out GE312.out⟩
def laws_vCut.f (l0:List Int) (a1:Int):Option (List Int):=if a1>(l0.length:Int)then((some (([]:List Int):List Int)).bind fun y316=>(if 0≤(l0.length:Int)then(if(l0.length:Int)≤(l0.length:Int)then(if y316.length+(l0.drop ((l0.length:Int):Int).toNat).length<140737488355328 then((some (y316++(l0.drop ((l0.length:Int):Int).toNat):List Int)).bind fun y320=>(if y320.length<140737488355328 then(some (y320++[((l0.length:Int)) % 256]))else(none)))else(none))else(none))else(none)))else((some (([]:List Int):List Int)).bind fun y326=>(if 0≤a1 then(if a1≤(l0.length:Int)then(if y326.length+(l0.drop (a1:Int).toNat).length<140737488355328 then((some (y326++(l0.drop (a1:Int).toNat):List Int)).bind fun y330=>(if y330.length<140737488355328 then(some (y330++[(a1) % 256]))else(none)))else(none))else(none))else(none)))
set_option maxHeartbeats 8000000 in
set_option maxRecDepth 100000 in
theorem laws_vCut.calls (A0:Option Addr) (c0:Nat) (l0:List Int) (a1:Int) (r:List Int) (w:World) (hr0:Kd.C (Kd.int .u8) w A0 l0.length l0) (hc0:l0.length≤c0) (h:laws_vCut.f l0 a1=some r):
  Calls Try.prog 38 #[.slice A0 l0.length c0,.int .i64 a1] w fun e w'=>∃ v0_:Value,e= .returned (v0_)∧Kd.R (Kd.int .u8) 5 w' w.heap.size (fun _=>True) v0_ r∧Below w.heap.size w w':=by
 have HR0:=Aside0.mk hr0
 have HC0:=Aside0.mk hc0
 clear hr0 hc0
 have HB:=Aside0.mk (Below.refl w.heap.size w)
 unfold laws_vCut.f at h
 have H:=h
 clear h
 by_cases c3:a1>(l0.length:Int)
 rotate_left
 ·rw[if_neg c3]at H
  have c3b0:decide ((l0.length:Int)<a1)=false:=decide_eq_false c3
  clear c3
  obtain⟨y326,hy326⟩:∃ y_:List Int,y_=(([]:List Int)):=⟨_,rfl⟩
  replace H: (if 0≤a1 then(if a1≤(l0.length:Int)then(if y326.length+(l0.drop (a1:Int).toNat).length<140737488355328 then((some (y326++(l0.drop (a1:Int).toNat):List Int)).bind fun y330=>(if y330.length<140737488355328 then(some (y330++[(a1) % 256]))else(none)))else(none))else(none))else(none))=some r:=by subst hy326;first|(with_reducible exact H)|exact H
  have Ny326:=Aside0.mk hy326
  clear hy326
  obtain⟨c13,H⟩:=gi H
  have c13b0:=eq_true c13
  have c13b1:decide (0≤a1)=true:=decide_eq_true c13
  clear c13
  obtain⟨c14,H⟩:=gi H
  have c14b0:=eq_true c14
  have c14b1:decide (a1≤(l0.length:Int))=true:=decide_eq_true c14
  clear c14
  obtain⟨c15,H⟩:=gi H
  have LMc15:=Aside0.mk c15
  clear c15
  obtain⟨y330,hy330⟩:∃ y_:List Int,y_=(y326++(l0.drop (a1:Int).toNat)):=⟨_,rfl⟩
  replace H: (if y330.length<140737488355328 then(some (y330++[(a1) % 256]))else(none))=some r:=by subst hy330;first|(with_reducible exact H)|exact H
  have Ny330:=Aside0.mk hy330
  clear hy330
  obtain⟨c16,H⟩:=gi H
  have LMc16:=Aside0.mk c16
  clear c16
  generalize hy333: (y330++[(a1) % 256]:List Int)=y333 at H
  have Ny333:=ak hy333.symm
  clear hy333
  obtain rfl:=Option.some.inj H
  go_enter Try.func38,Try.ntmps38
  go_wp2_with (first|((with_reducible refine gate_dst (N:=11) rfl ?_);refine R_lit (Kd.int .u8) _ 5 ?hg (N:=11) ?hd (xs:=([]:List Int)) (inner:=[]) (ok:=fun _=>True) (okp:=fun _=>True) ?hr ?hp (fun _ hk=>hk) trivial (Below.refl _ _) (Nat.le_refl _) (by simp) ?_;(case hd=>rfl);(case hg=>rfl);(case hr=>first|(go_simp;done)|(go_simp;rfl));(case hp=>exact(Reps.none _ _));intro v327 w17 ho18 hb hg_ hnew_;clear hg_ hnew_;(first|rw[←Ny326.out]at ho18|(simp only[Int.reduceToNat]at ho18;rw[←Ny326.out]at ho18));have HO328:=ak (R_lower ho18 (below_size (hm HB.out)));replace HB:=bs HB hb;clear hb ho18;obtain⟨i019,hi019,_,hsz19,_⟩:=info_parts info5;obtain⟨A19,hcut19,hA19,hC19⟩:=print_drop_of (P:=Try.prog) (Value.int .u8) 0 46 5 .i64 Try.underlying46 hi019 hsz19 A0 c0 l0 a1 (od) (od) HC0.out;have HR329:=Aside0.mk (C_of_reads (h1:=fun _=>rfl) (hA19 _ (Kd.reads_of_C HR0.out)));have HC329:=Aside0.mk hC19;clear hA19 hC19 hi019 hsz19)|((with_reducible refine gate_builtin (b:=.append) (xs:=#[.tmp 11,.tmp 14]) rfl ?_);at_builtin;refine R_append_rows (Kd.int .u8) (w0:=w) w.heap.size rfl (.tmp 11) (.tmp 14) 46 5 (.int .u8 0) 1 rfl Try.underlying46 info5 rfl (by decide) (by omega) v327 y326 (l0.drop (a1:Int).toNat) _ _ _ (fun _=>True) (fun _=>False) rfl rfl ?aO ?aR (fun _ _ h=>h) (fun _ h=>h.elim) ?aF ?aB ?aS ?aL ?_;(case aR=>first|(rw[←show(l0.drop (a1:Int).toNat).length=(l0.length-a1.toNat)from List.length_drop];exact cm (C_below HR329.out HB.out))|(exact cm (C_below HR329.out HB.out)));(case aB=>exact(hm HB.out));(case aF=>exact(fun _ _=>trivial));(case aO=>exact(rm HO328.out));(case aS=>exact(below_size (hm HB.out)));(case aL=>have:=LMc15.out;have hlx_:=(show(l0.drop (a1:Int).toNat).length=(l0.length-a1.toNat)from List.length_drop);omega);intro v331 w20 ho hb hg hat;rw[←Ny330.out]at ho;replace HB:=ak hb;have HO332:=ak ho;clear HO328;clear ho hb hg hat)|((with_reducible refine gate_builtin (b:=.append) (xs:=#[.tmp 15,.tmp 18]) rfl ?_);at_builtin;refine R_append (Kd.int .u8) (w0:=w) w.heap.size rfl (.tmp 15) (.tmp 18) 46 5 (.int .u8 0) 1 rfl Try.underlying46 info5 rfl (by decide) (by omega) v331 y330 ((a1) % 256) [.int .u8 ((a1) % 256)] (fun _=>True) (fun _=>False) rfl rfl ?aP (fun _ hk=>hk.elim) ?aF ?aO ?aB ?aS ?aL ?_;(case aP=>exact rfl);(case aB=>exact(hm HB.out));(case aF=>exact(fun _ _=>trivial));(case aO=>exact(rm HO332.out));(case aS=>exact(below_size (hm HB.out)));(case aL=>have:=LMc16.out;omega);intro v334 w21 ho hb hg hat;rw[←Ny333.out]at ho;replace HB:=ak hb;have HO335:=ak ho;clear HO332;clear ho hb hg hat))
  go_ret
  exact⟨_,fe,rm HO335.out,hm HB.out⟩
 rw[if_pos c3]at H
 have c3b0:decide ((l0.length:Int)<a1)=true:=decide_eq_true c3
 clear c3
 obtain⟨y316,hy316⟩:∃ y_:List Int,y_=(([]:List Int)):=⟨_,rfl⟩
 replace H: (if 0≤(l0.length:Int)then(if(l0.length:Int)≤(l0.length:Int)then(if y316.length+(l0.drop ((l0.length:Int):Int).toNat).length<140737488355328 then((some (y316++(l0.drop ((l0.length:Int):Int).toNat):List Int)).bind fun y320=>(if y320.length<140737488355328 then(some (y320++[((l0.length:Int)) % 256]))else(none)))else(none))else(none))else(none))=some r:=by subst hy316;first|(with_reducible exact H)|exact H
 have Ny316:=Aside0.mk hy316
 clear hy316
 obtain⟨c4,H⟩:=gi H
 have c4b0:=eq_true c4
 have c4b1:decide (0≤(l0.length:Int))=true:=decide_eq_true c4
 clear c4
 obtain⟨c5,H⟩:=gi H
 have c5b0:=eq_true c5
 have c5b1:decide ((l0.length:Int)≤(l0.length:Int))=true:=decide_eq_true c5
 clear c5
 obtain⟨c6,H⟩:=gi H
 have LMc6:=Aside0.mk c6
 clear c6
 obtain⟨y320,hy320⟩:∃ y_:List Int,y_=(y316++(l0.drop ((l0.length:Int):Int).toNat)):=⟨_,rfl⟩
 replace H: (if y320.length<140737488355328 then(some (y320++[((l0.length:Int)) % 256]))else(none))=some r:=by subst hy320;first|(with_reducible exact H)|exact H
 have Ny320:=Aside0.mk hy320
 clear hy320
 obtain⟨c7,H⟩:=gi H
 have LMc7:=Aside0.mk c7
 clear c7
 generalize hy323: (y320++[((l0.length:Int)) % 256]:List Int)=y323 at H
 have Ny323:=ak hy323.symm
 clear hy323
 obtain rfl:=Option.some.inj H
 go_enter Try.func38,Try.ntmps38
 go_wp2_with (first|((with_reducible refine gate_dst (N:=11) rfl ?_);refine R_lit (Kd.int .u8) _ 5 ?hg (N:=11) ?hd (xs:=([]:List Int)) (inner:=[]) (ok:=fun _=>True) (okp:=fun _=>True) ?hr ?hp (fun _ hk=>hk) trivial (Below.refl _ _) (Nat.le_refl _) (by simp) ?_;(case hd=>rfl);(case hg=>rfl);(case hr=>first|(go_simp;done)|(go_simp;rfl));(case hp=>exact(Reps.none _ _));intro v317 w8 ho9 hb hg_ hnew_;clear hg_ hnew_;(first|rw[←Ny316.out]at ho9|(simp only[Int.reduceToNat]at ho9;rw[←Ny316.out]at ho9));have HO318:=ak (R_lower ho9 (below_size (hm HB.out)));replace HB:=bs HB hb;clear hb ho9;obtain⟨i010,hi010,_,hsz10,_⟩:=info_parts info5;obtain⟨A10,hcut10,hA10,hC10⟩:=print_drop_of (P:=Try.prog) (Value.int .u8) 0 46 5 .i64 Try.underlying46 hi010 hsz10 A0 c0 l0 (l0.length:Int) (od) (od) HC0.out;have HR319:=Aside0.mk (C_of_reads (h1:=fun _=>rfl) (hA10 _ (Kd.reads_of_C HR0.out)));have HC319:=Aside0.mk hC10;clear hA10 hC10 hi010 hsz10)|((with_reducible refine gate_builtin (b:=.append) (xs:=#[.tmp 11,.tmp 14]) rfl ?_);at_builtin;refine R_append_rows (Kd.int .u8) (w0:=w) w.heap.size rfl (.tmp 11) (.tmp 14) 46 5 (.int .u8 0) 1 rfl Try.underlying46 info5 rfl (by decide) (by omega) v317 y316 (l0.drop ((l0.length:Int):Int).toNat) _ _ _ (fun _=>True) (fun _=>False) rfl rfl ?aO ?aR (fun _ _ h=>h) (fun _ h=>h.elim) ?aF ?aB ?aS ?aL ?_;(case aR=>first|(rw[←show(l0.drop ((l0.length:Int):Int).toNat).length=(l0.length-(l0.length:Int).toNat)from List.length_drop];exact cm (C_below HR319.out HB.out))|(exact cm (C_below HR319.out HB.out))|(refine Eq.mp (congrArg (fun m_=>ReadsRow _ _ _ _ m_ _) (show(l0.drop ((l0.length:Int):Int).toNat).length=0 from by simp)) ?_;(exact cm (C_below HR319.out HB.out))));(case aB=>exact(hm HB.out));(case aF=>exact(fun _ _=>trivial));(case aO=>exact(rm HO318.out));(case aS=>exact(below_size (hm HB.out)));(case aL=>have:=LMc6.out;have hlx_:=(show(l0.drop ((l0.length:Int):Int).toNat).length=(l0.length-(l0.length:Int).toNat)from List.length_drop);omega);intro v321 w11 ho hb hg hat;rw[←Ny320.out]at ho;replace HB:=ak hb;have HO322:=ak ho;clear HO318;clear ho hb hg hat)|((with_reducible refine gate_builtin (b:=.append) (xs:=#[.tmp 15,.tmp 18]) rfl ?_);at_builtin;refine R_append (Kd.int .u8) (w0:=w) w.heap.size rfl (.tmp 15) (.tmp 18) 46 5 (.int .u8 0) 1 rfl Try.underlying46 info5 rfl (by decide) (by omega) v321 y320 (((l0.length:Int)) % 256) [.int .u8 (((l0.length:Int)) % 256)] (fun _=>True) (fun _=>False) rfl rfl ?aP (fun _ hk=>hk.elim) ?aF ?aO ?aB ?aS ?aL ?_;(case aP=>exact rfl);(case aB=>exact(hm HB.out));(case aF=>exact(fun _ _=>trivial));(case aO=>exact(rm HO322.out));(case aS=>exact(below_size (hm HB.out)));(case aL=>have:=LMc7.out;omega);intro v324 w12 ho hb hg hat;rw[←Ny323.out]at ho;replace HB:=ak hb;have HO325:=ak ho;clear HO322;clear ho hb hg hat))
 go_ret
 exact⟨_,fe,rm HO325.out,hm HB.out⟩
def IsS95 (w0 W:World) (g:Nat) (f0:List Int) (f1:Int) (f2:Int):Prop:=∃ A0 c0,W.heap[g]? =some (.cells #[.slice A0 f0.length c0,.int .i64 f1,.int .u64 f2] 95 (0,0))∧w0.heap.size≤g∧Kd.C (Kd.int .u8) w0 A0 f0.length f0
theorem IsS95.grown {w0 W:World} {g:Nat} {f0:List Int} {f1:Int} {f2:Int} {W1:World} {row:Option Nat} (h:IsS95 w0 W g f0 f1 f2) (hw:W.grownBy W1 row) (hne:some g≠row):IsS95 w0 W1 g f0 f1 f2:=by
 obtain⟨A0,c0,hb,hg,hr0⟩:=h
 exact⟨A0,c0,blk_grown hb hw hne,hg,hr0⟩
theorem IsS95.own_neN {w0 W:World} {g:Nat} {f0:List Int} {f1:Int} {f2:Int} {α:Type} {d:Kd α} {e:Nat} {base:Nat} {ok:Nat→Prop} {v:Value} {xs:List α} (h:IsS95 w0 W g f0 f1 f2) (ho:Kd.N d e W base ok v xs) (ht:e≠95):some g≠v.ownBlock:=by
 obtain⟨A0,c0,hb,hg,hr0⟩:=h
 exact Kd.N_ne ho hb ht
theorem IsS95.fresh {w0 W:World} {g:Nat} {f0:List Int} {f1:Int} {f2:Int} (h:IsS95 w0 W g f0 f1 f2):∀ k,W.heap.size≤k→k≠g:=by
 obtain⟨A0,c0,hb,hg,hr0⟩:=h
 exact Kd.freshB hb
theorem IsS95.kept {w0 W:World} {g:Nat} {f0:List Int} {f1:Int} {f2:Int} {W1:World} {S:Nat→Prop} (h:IsS95 w0 W g f0 f1 f2) (hk:Kept W W1 S) (hne:¬S g):IsS95 w0 W1 g f0 f1 f2:=by
 obtain⟨A0,c0,hb,hg,hr0⟩:=h
 exact⟨A0,c0,blk_kept hb hk hne,hg,hr0⟩
theorem IsS95.below {w0 W:World} {g:Nat} {f0:List Int} {f1:Int} {f2:Int} {W1:World} (h:IsS95 w0 W g f0 f1 f2) (hw:Below W.heap.size W W1):IsS95 w0 W1 g f0 f1 f2:=h.grown (grown_of_below hw none) (by simp)
theorem IsS95.alloc {w0 W:World} {g:Nat} {f0:List Int} {f1:Int} {f2:Int} (h:IsS95 w0 W g f0 f1 f2) (o:Obj):IsS95 w0 (W.alloc o) g f0 f1 f2:=h.below (below_alloc (Below.refl _ _) o)
theorem IsS95.drewN {w0 W:World} {g:Nat} {f0:List Int} {f1:Int} {f2:Int} (h:IsS95 w0 W g f0 f1 f2) (m:Nat):IsS95 w0 (W.drewN m) g f0 f1 f2:=h
theorem IsS95.drew {w0 W:World} {g:Nat} {f0:List Int} {f1:Int} {f2:Int} (h:IsS95 w0 W g f0 f1 f2):IsS95 w0 W.drew g f0 f1 f2:=h
theorem IsS95.at_ {w0 W:World} {g:Nat} {f0:List Int} {f1:Int} {f2:Int} {w':World} {m:Nat} (hq:W.drewN m=w') (h:IsS95 w0 W g f0 f1 f2):IsS95 w0 w' g f0 f1 f2:=by subst hq;exact IsS95.drewN h m
theorem IsS95.apart {w0 W:World} {g:Nat} {f0:List Int} {f1:Int} {f2:Int} {α:Type} {d:Kd α} {e:Nat} {base:Nat} {ok:Nat→Prop} {v:Value} {xs:List α} (h:IsS95 w0 W g f0 f1 f2) (ho:d.R e W base ok v xs) (ht:∀ q,q∈e::d.E→q≠95):d.R e W base (fun k=>ok k∧k≠g) v xs:=by
 obtain⟨A0,c0,hb,hg,hr0⟩:=h
 exact R_types ho hb ht
theorem IsS95.own_ne {w0 W:World} {g:Nat} {f0:List Int} {f1:Int} {f2:Int} {α:Type} {d:Kd α} {e:Nat} {base:Nat} {ok:Nat→Prop} {v:Value} {xs:List α} (h:IsS95 w0 W g f0 f1 f2) (ho:d.R e W base ok v xs) (ht:e≠95):some g≠v.ownBlock:=by
 obtain⟨A0,c0,hb,hg,hr0⟩:=h
 exact R_ne ho hb ht
theorem IsS95.apartQ {w0 W:World} {g:Nat} {f0:List Int} {f1:Int} {f2:Int} {α:Type} {d:Kd α} {e:Nat} {base:Nat} {ok:Nat→Prop} {v:Value} {xs:List α} (h:IsS95 w0 W g f0 f1 f2) (ho:d.Q e W base ok v xs) (ht:∀ q,q∈e::d.E→q≠95):d.Q e W base (fun k=>ok k∧k≠g) v xs:=by
 obtain⟨A0,c0,hb,hg,hr0⟩:=h
 exact Kd.Q_types ho hb ht
theorem IsS95.own_neQ {w0 W:World} {g:Nat} {f0:List Int} {f1:Int} {f2:Int} {α:Type} {d:Kd α} {e:Nat} {base:Nat} {ok:Nat→Prop} {v:Value} {xs:List α} (h:IsS95 w0 W g f0 f1 f2) (ho:d.Q e W base ok v xs) (ht:e≠95):some g≠v.ownBlock:=by
 obtain⟨A0,c0,hb,hg,hr0⟩:=h
 exact Kd.Q_ne ho hb ht
theorem IsS95.apartS {w0 W:World} {g:Nat} {f0:List Int} {f1:Int} {f2:Int} {α:Type} {d:Kd α} {e:Nat} {base:Nat} {ok:Nat→Prop} {v:Value} {xs:List α} (h:IsS95 w0 W g f0 f1 f2) (ho:d.S e W base ok v xs) (ht:∀ q,q∈e::d.E→q≠95):d.S e W base (fun k=>ok k∧k≠g) v xs:=by
 obtain⟨A0,c0,hb,hg,hr0⟩:=h
 exact Kd.S_types ho hb ht
theorem IsS95.own_neS {w0 W:World} {g:Nat} {f0:List Int} {f1:Int} {f2:Int} {α:Type} {d:Kd α} {e:Nat} {base:Nat} {ok:Nat→Prop} {v:Value} {xs:List α} (h:IsS95 w0 W g f0 f1 f2) (ho:d.S e W base ok v xs) (ht:e≠95):some g≠v.ownBlock:=by
 obtain⟨A0,c0,hb,hg,hr0⟩:=h
 exact Kd.S_ne ho hb ht
theorem IsS95.lt {w0 W:World} {g:Nat} {f0:List Int} {f1:Int} {f2:Int} (h:IsS95 w0 W g f0 f1 f2):g<W.heap.size:=by
 obtain⟨A0,c0,hb,hg,hr0⟩:=h
 exact blk_lt hb
theorem IsS95.ge {w0 W:World} {g:Nat} {f0:List Int} {f1:Int} {f2:Int} (h:IsS95 w0 W g f0 f1 f2):w0.heap.size≤g:=by
 obtain⟨A0,c0,hb,hg,hr0⟩:=h
 exact hg
theorem IsS95.ne_blk {w0 W:World} {g:Nat} {f0:List Int} {f1:Int} {f2:Int} {a:Nat} {cs:Array Value} {t:TypeId} {fr:Nat × Nat} (h:IsS95 w0 W g f0 f1 f2) (hb2:W.heap[a]? =some (.cells cs t fr)) (ht:t≠95):g≠a:=by
 obtain⟨A0,c0,hb,hg,hr0⟩:=h
 rintro rfl
 rw[hb]at hb2
 injection hb2 with hb2
 injection hb2 with _ ht2
 exact ht ht2.symm
theorem IsS95.far {w0 W:World} {g:Nat} {f0:List Int} {f1:Int} {f2:Int} {p:Addr} (h:IsS95 w0 W g f0 f1 f2) (hne:g≠p.block) (u:Value):IsS95 w0 (W.setCell p u) g f0 f1 f2:=by
 obtain⟨A0,c0,hb,hg,hr0⟩:=h
 exact⟨A0,c0,blk_far hb hne u,hg,hr0⟩
theorem cellS95_0 {W:World} {g:Nat} {A0:Option Addr} {c0:Nat} {f0:List Int} {f1:Int} {f2:Int} (h:W.heap[g]? =some (.cells #[.slice A0 f0.length c0,.int .i64 f1,.int .u64 f2] 95 (0,0))):W.cell? ⟨g,0,none⟩=some (.slice A0 f0.length c0):=(blk_cell h 0).trans rfl
theorem cellS95_1 {W:World} {g:Nat} {A0:Option Addr} {c0:Nat} {f0:List Int} {f1:Int} {f2:Int} (h:W.heap[g]? =some (.cells #[.slice A0 f0.length c0,.int .i64 f1,.int .u64 f2] 95 (0,0))):W.cell? ⟨g,1,none⟩=some (.int .i64 f1):=(blk_cell h 1).trans rfl
theorem IsS95.set_1 {w0 W:World} {g:Nat} {f0:List Int} {f1:Int} {f2:Int} (h:IsS95 w0 W g f0 f1 f2) (x:Int):IsS95 w0 (W.setCell ⟨g,1,none⟩ (.int .i64 x)) g f0 x f2:=by
 obtain⟨A0,c0,hb,hg,hr0⟩:=h
 exact⟨A0,c0,by simpa using blk_set hb 1 (.int .i64 x),hg,hr0⟩
theorem cellS95_2 {W:World} {g:Nat} {A0:Option Addr} {c0:Nat} {f0:List Int} {f1:Int} {f2:Int} (h:W.heap[g]? =some (.cells #[.slice A0 f0.length c0,.int .i64 f1,.int .u64 f2] 95 (0,0))):W.cell? ⟨g,2,none⟩=some (.int .u64 f2):=(blk_cell h 2).trans rfl
theorem IsS95.set_2 {w0 W:World} {g:Nat} {f0:List Int} {f1:Int} {f2:Int} (h:IsS95 w0 W g f0 f1 f2) (x:Int):IsS95 w0 (W.setCell ⟨g,2,none⟩ (.int .u64 x)) g f0 f1 x:=by
 obtain⟨A0,c0,hb,hg,hr0⟩:=h
 exact⟨A0,c0,by simpa using blk_set hb 2 (.int .u64 x),hg,hr0⟩
theorem IsS95.now {w0 W:World} {g:Nat} {f0:List Int} {f1:Int} {f2:Int} {f0':List Int} {f1':Int} {f2':Int} {W':World} (h:IsS95 w0 W g f0 f1 f2) (k:IsS95 w0 W' g f0' f1' f2':=by(try simp only[Int.add_zero]);repeat(first|(with_reducible first|exact Aside0.out (by assumption)|apply IsS95.alloc|apply IsS95.drewN|apply IsS95.drew|apply IsS95.set_1|apply IsS95.set_2|refine IsS95.far ?_ (Aside0.out (by assumption)) _)|exact Aside0.out (by assumption))):IsS95 w0 W' g f0' f1' f2':=k
theorem IsS95.new (w0 W:World) (A0:Option Addr) (c0:Nat) (f0:List Int) (f1:Int) (f2:Int) (hB:Below w0.heap.size w0 W) (hr0:Kd.C (Kd.int .u8) w0 A0 f0.length f0):IsS95 w0 (W.alloc (.cells #[.slice A0 f0.length c0,.int .i64 f1,.int .u64 f2] 95)) W.heap.size f0 f1 f2:=⟨A0,c0,by simpa using heap_alloc_new W _,hB.size,hr0⟩
def spec_l1Cur_next.f (s0_0:List Int) (s0_1:Int) (s0_2:Int):Option (Int × Int × Int):=if s0_1<(s0_0.length:Int)then(if 0≤s0_1 then(if(wrap64 (s0_1+1))≤(s0_0.length:Int)then(some (wrap64 (rd s0_0 s0_1),wrap64 (s0_1+1),IntKind.u64.wrap ((IntKind.u64.wrap ((IntKind.u64.wrap (s0_2*6364136223846793005))+(IntKind.u64.wrap (wrap64 (rd s0_0 s0_1)))))+462197)))else(some (wrap64 (Go.bits .and .u64 ((IntKind.u64.wrap ((IntKind.u64.wrap ((IntKind.u64.wrap (s0_2*6364136223846793005))+(IntKind.u64.wrap (wrap64 (rd s0_0 s0_1)))))+462197))/ 1099511627776) 255),wrap64 (s0_1+1),IntKind.u64.wrap ((IntKind.u64.wrap ((IntKind.u64.wrap (s0_2*6364136223846793005))+(IntKind.u64.wrap (wrap64 (rd s0_0 s0_1)))))+462197))))else(none))else(if(wrap64 (s0_1+1))≤(s0_0.length:Int)then(some (0,wrap64 (s0_1+1),IntKind.u64.wrap ((IntKind.u64.wrap ((IntKind.u64.wrap (s0_2*6364136223846793005))+0))+462197)))else(some (wrap64 (Go.bits .and .u64 ((IntKind.u64.wrap ((IntKind.u64.wrap ((IntKind.u64.wrap (s0_2*6364136223846793005))+0))+462197))/ 1099511627776) 255),wrap64 (s0_1+1),IntKind.u64.wrap ((IntKind.u64.wrap ((IntKind.u64.wrap (s0_2*6364136223846793005))+0))+462197))))
set_option maxHeartbeats 8000000 in
set_option maxRecDepth 100000 in
theorem spec_l1Cur_next.calls (g:Nat) (s0_0:List Int) (s0_1:Int) (s0_2:Int) (r1:Int) (r2:Int) (r3:Int) (w0 w:World) (hI:IsS95 w0 w g s0_0 s0_1 s0_2) (hB:Below w0.heap.size w0 w) (h:spec_l1Cur_next.f s0_0 s0_1 s0_2=some (r1,r2,r3)):
  Calls Try.prog 110 #[.pointer (some ⟨g,0,none⟩)] w fun e w'=>e= .returned (.int .i64 r1)∧IsS95 w0 w' g s0_0 r2 r3∧Below w0.heap.size w0 w'∧KeepBut w w' g none:=by
 have HI0:=Aside0.mk hI
 have HK:=Aside0.mk (KeepBut.refl w g none)
 have HL:=Aside0.mk hB.size
 clear hI
 have HW0:=Aside0.mk hB.size
 have HB:=Aside0.mk hB
 clear hB
 unfold spec_l1Cur_next.f at h
 have H:=h
 clear h
 by_cases c2:s0_1<(s0_0.length:Int)
 rotate_left
 ·rw[if_neg c2]at H
  have c2b0:decide (s0_1<(s0_0.length:Int))=false:=decide_eq_false c2
  clear c2
  by_cases c7: (wrap64 (s0_1+1))≤(s0_0.length:Int)
  ·rw[if_pos c7]at H
   have c7b0:decide ((wrap64 (s0_1+1))≤(s0_0.length:Int))=true:=decide_eq_true c7
   clear c7
   simp only[Option.some.injEq,Prod.mk.injEq]at H
   obtain⟨rfl,rfl,rfl⟩:=H
   obtain⟨ASz8_0,cSz8_0,HGz8,hgz8,HSz8_0⟩:=HI0.out
   have hcz8_0:=cellS95_0 HGz8
   have hcz8_1:=cellS95_1 HGz8
   have hcz8_2:=cellS95_2 HGz8
   have hfz8_1:=blk_frozen HGz8 1
   have hfz8_2:=blk_frozen HGz8 2
   clear HGz8 hgz8
   go_enter Try.func110,Try.ntmps110
   go_wp2
   repeat(go_quiet (fail);try go_wp2)
   go_ret
   exact⟨fe,(IsS95.now HI0.out),h1 HB.out (IsS95.ge HI0.out),(kn HK.out)⟩
  rw[if_neg c7]at H
  have c7b0:decide ((wrap64 (s0_1+1))≤(s0_0.length:Int))=false:=decide_eq_false c7
  clear c7
  simp only[Option.some.injEq,Prod.mk.injEq]at H
  obtain⟨rfl,rfl,rfl⟩:=H
  obtain⟨ASz9_0,cSz9_0,HGz9,hgz9,HSz9_0⟩:=HI0.out
  have hcz9_0:=cellS95_0 HGz9
  have hcz9_1:=cellS95_1 HGz9
  have hcz9_2:=cellS95_2 HGz9
  have hfz9_1:=blk_frozen HGz9 1
  have hfz9_2:=blk_frozen HGz9 2
  clear HGz9 hgz9
  go_enter Try.func110,Try.ntmps110
  go_wp2
  repeat(go_quiet (fail);try go_wp2)
  go_ret
  exact⟨fe,(IsS95.now HI0.out),h1 HB.out (IsS95.ge HI0.out),(kn HK.out)⟩
 rw[if_pos c2]at H
 have c2b0:decide (s0_1<(s0_0.length:Int))=true:=decide_eq_true c2
 clear c2
 obtain⟨c3,H⟩:=gi H
 have c3b0:decide (0≤s0_1)=true:=decide_eq_true c3
 clear c3
 by_cases c4: (wrap64 (s0_1+1))≤(s0_0.length:Int)
 ·rw[if_pos c4]at H
  have c4b0:decide ((wrap64 (s0_1+1))≤(s0_0.length:Int))=true:=decide_eq_true c4
  clear c4
  simp only[Option.some.injEq,Prod.mk.injEq]at H
  obtain⟨rfl,rfl,rfl⟩:=H
  obtain⟨ASz5_0,cSz5_0,HGz5,hgz5,HSz5_0⟩:=HI0.out
  have hcz5_0:=cellS95_0 HGz5
  have hcz5_1:=cellS95_1 HGz5
  have hcz5_2:=cellS95_2 HGz5
  have hfz5_1:=blk_frozen HGz5 1
  have hfz5_2:=blk_frozen HGz5 2
  clear HGz5 hgz5
  have p336:0≤(s0_1:Int):=od
  have q336:s0_1<(s0_0.length:Int):=od
  obtain⟨ad336,e336,hx336_0⟩:=Kd.at_int HSz5_0 s0_1 p336 q336
  cases e336
  replace hx336_0:=pw_cell_below HB.out hx336_0
  replace p336:=eq_true p336
  replace q336:=eq_true q336
  go_enter Try.func110,Try.ntmps110
  go_wp2
  repeat(go_quiet (fail);try go_wp2)
  go_ret
  exact⟨fe,(IsS95.now HI0.out),h1 HB.out (IsS95.ge HI0.out),(kn HK.out)⟩
 rw[if_neg c4]at H
 have c4b0:decide ((wrap64 (s0_1+1))≤(s0_0.length:Int))=false:=decide_eq_false c4
 clear c4
 simp only[Option.some.injEq,Prod.mk.injEq]at H
 obtain⟨rfl,rfl,rfl⟩:=H
 obtain⟨ASz6_0,cSz6_0,HGz6,hgz6,HSz6_0⟩:=HI0.out
 have hcz6_0:=cellS95_0 HGz6
 have hcz6_1:=cellS95_1 HGz6
 have hcz6_2:=cellS95_2 HGz6
 have hfz6_1:=blk_frozen HGz6 1
 have hfz6_2:=blk_frozen HGz6 2
 clear HGz6 hgz6
 have p336:0≤(s0_1:Int):=od
 have q336:s0_1<(s0_0.length:Int):=od
 obtain⟨ad336,e336,hx336_0⟩:=Kd.at_int HSz6_0 s0_1 p336 q336
 cases e336
 replace hx336_0:=pw_cell_below HB.out hx336_0
 replace p336:=eq_true p336
 replace q336:=eq_true q336
 go_enter Try.func110,Try.ntmps110
 go_wp2
 repeat(go_quiet (fail);try go_wp2)
 go_ret
 exact⟨fe,(IsS95.now HI0.out),h1 HB.out (IsS95.ge HI0.out),(kn HK.out)⟩
def spec_l1Cur_pick.f (s0_0:List Int) (s0_1:Int) (s0_2:Int) (a1:Int):Option (Int × Int × Int):=if a1≤1 then(some (0,s0_1,s0_2))else((spec_l1Cur_next.f s0_0 s0_1 s0_2).bind fun bt337=>(if a1>200 then((spec_l1Cur_next.f s0_0 bt337.2.1 bt337.2.2).bind fun bt340=>(if a1=0 then(none)else(some (Int.tmod (wrap64 ((wrap64 (bt337.1*256))+bt340.1)) a1,bt340.2.1,bt340.2.2))))else(if a1=0 then(none)else(some (Int.tmod bt337.1 a1,bt337.2.1,bt337.2.2)))))
set_option maxHeartbeats 8000000 in
set_option maxRecDepth 100000 in
theorem spec_l1Cur_pick.calls (g:Nat) (s0_0:List Int) (s0_1:Int) (s0_2:Int) (a1:Int) (r1:Int) (r2:Int) (r3:Int) (w0 w:World) (hI:IsS95 w0 w g s0_0 s0_1 s0_2) (hB:Below w0.heap.size w0 w) (h:spec_l1Cur_pick.f s0_0 s0_1 s0_2 a1=some (r1,r2,r3)):
  Calls Try.prog 79 #[.pointer (some ⟨g,0,none⟩),.int .i64 a1] w fun e w'=>e= .returned (.int .i64 r1)∧IsS95 w0 w' g s0_0 r2 r3∧Below w0.heap.size w0 w'∧KeepBut w w' g none:=by
 have HI0:=Aside0.mk hI
 have HK:=Aside0.mk (KeepBut.refl w g none)
 have HL:=Aside0.mk hB.size
 clear hI
 have HW0:=Aside0.mk hB.size
 have HB:=Aside0.mk hB
 clear hB
 unfold spec_l1Cur_pick.f at h
 have H:=h
 clear h
 by_cases c3:a1≤1
 ·rw[if_pos c3]at H
  have c3b0:decide (a1≤1)=true:=decide_eq_true c3
  clear c3
  simp only[Option.some.injEq,Prod.mk.injEq]at H
  obtain⟨rfl,rfl,rfl⟩:=H
  go_enter Try.func79,Try.ntmps79
  go_wp2
  go_ret
  exact⟨fe,(IsS95.now HI0.out),h1 HB.out (IsS95.ge HI0.out),(kn HK.out)⟩
 rw[if_neg c3]at H
 have c3b0:decide (a1≤1)=false:=decide_eq_false c3
 clear c3
 obtain⟨⟨t337,t338,t339⟩,A4,H⟩:=bd H;(try dsimp only at H)
 by_cases c5:a1>200
 rotate_left
 ·rw[if_neg c5]at H
  have c5b0:decide (200<a1)=false:=decide_eq_false c5
  clear c5
  by_cases c10:a1=0
  ·rw[if_pos c10]at H
   exact absurd H (by simp)
  rw[if_neg c10]at H
  have c10b0: (a1==0)=false:=beq_eq_false_iff_ne.mpr c10
  have c10b1: (a1 !=0)=true:=bne_iff_ne.mpr c10
  simp only[Option.some.injEq,Prod.mk.injEq]at H
  obtain⟨rfl,rfl,rfl⟩:=H
  go_enter Try.func79,Try.ntmps79
  go_wp2_with (first|(refine gs 9 Try.func110 #[.pointer (some ⟨g,0,none⟩)] ?_;(with_reducible refine(spec_l1Cur_next.calls g s0_0 s0_1 s0_2 t337 t338 t339 w0 _ ?side1 ?side2 A4.out).mono ?_);(case side1=>exact IsS95.now HI0.out);(case side2=>exact h1 HB.out (IsS95.ge HI0.out));rintro e w11 ⟨rfl,hi,hb,hk⟩;refine⟨_,rfl,?_⟩;replace HK:=ak (KeepBut.trans (kn HK.out) hk (.inl rfl));replace HB:=ak hb;replace HI0:=ak hi;(try clear hb);(try clear hk);(try clear hi)))
  go_ret
  exact⟨fe,(IsS95.now HI0.out),h1 HB.out (IsS95.ge HI0.out),(kn HK.out)⟩
 rw[if_pos c5]at H
 have c5b0:decide (200<a1)=true:=decide_eq_true c5
 clear c5
 obtain⟨⟨t340,t341,t342⟩,A6,H⟩:=bd H;(try dsimp only at H)
 by_cases c7:a1=0
 ·rw[if_pos c7]at H
  exact absurd H (by simp)
 rw[if_neg c7]at H
 have c7b0: (a1==0)=false:=beq_eq_false_iff_ne.mpr c7
 have c7b1: (a1 !=0)=true:=bne_iff_ne.mpr c7
 simp only[Option.some.injEq,Prod.mk.injEq]at H
 obtain⟨rfl,rfl,rfl⟩:=H
 go_enter Try.func79,Try.ntmps79
 go_wp2_with (first|(refine gs 9 Try.func110 #[.pointer (some ⟨g,0,none⟩)] ?_;(with_reducible refine(spec_l1Cur_next.calls g s0_0 s0_1 s0_2 t337 t338 t339 w0 _ ?side1 ?side2 A4.out).mono ?_);(case side1=>exact IsS95.now HI0.out);(case side2=>exact h1 HB.out (IsS95.ge HI0.out));rintro e w8 ⟨rfl,hi,hb,hk⟩;refine⟨_,rfl,?_⟩;replace HK:=ak (KeepBut.trans (kn HK.out) hk (.inl rfl));replace HB:=ak hb;replace HI0:=ak hi;(try clear hb);(try clear hk);(try clear hi))|(refine gs 15 Try.func110 #[.pointer (some ⟨g,0,none⟩)] ?_;(with_reducible refine(spec_l1Cur_next.calls g s0_0 t338 t339 t340 t341 t342 w0 _ ?side1 ?side2 A6.out).mono ?_);(case side1=>exact IsS95.now HI0.out);(case side2=>exact h1 HB.out (IsS95.ge HI0.out));rintro e w9 ⟨rfl,hi,hb,hk⟩;refine⟨_,rfl,?_⟩;replace HK:=ak (KeepBut.trans (kn HK.out) hk (.inl rfl));replace HB:=ak hb;replace HI0:=ak hi;(try clear hb);(try clear hk);(try clear hi)))
 go_ret
 exact⟨fe,(IsS95.now HI0.out),h1 HB.out (IsS95.ge HI0.out),(kn HK.out)⟩
def spec_l1Cur_one.f (s0_0:List Int) (s0_1:Int) (s0_2:Int) (a1:Int):Option (Bool × Int × Int):=(spec_l1Cur_pick.f s0_0 s0_1 s0_2 a1).bind fun bt343=>(some ((bt343.1==0),bt343.2.1,bt343.2.2))
set_option maxHeartbeats 8000000 in
set_option maxRecDepth 100000 in
theorem spec_l1Cur_one.calls (g:Nat) (s0_0:List Int) (s0_1:Int) (s0_2:Int) (a1:Int) (r1:Bool) (r2:Int) (r3:Int) (w0 w:World) (hI:IsS95 w0 w g s0_0 s0_1 s0_2) (hB:Below w0.heap.size w0 w) (h:spec_l1Cur_one.f s0_0 s0_1 s0_2 a1=some (r1,r2,r3)):
  Calls Try.prog 81 #[.pointer (some ⟨g,0,none⟩),.int .i64 a1] w fun e w'=>e= .returned (.bool r1)∧IsS95 w0 w' g s0_0 r2 r3∧Below w0.heap.size w0 w'∧KeepBut w w' g none:=by
 have HI0:=Aside0.mk hI
 have HK:=Aside0.mk (KeepBut.refl w g none)
 have HL:=Aside0.mk hB.size
 clear hI
 have HW0:=Aside0.mk hB.size
 have HB:=Aside0.mk hB
 clear hB
 unfold spec_l1Cur_one.f at h
 have H:=h
 clear h
 obtain⟨⟨t343,t344,t345⟩,A3,H⟩:=bd H;(try dsimp only at H)
 simp only[Option.some.injEq,Prod.mk.injEq]at H
 obtain⟨rfl,rfl,rfl⟩:=H
 go_enter Try.func81,Try.ntmps81
 go_wp2_with (first|(refine gs 7 Try.func79 #[.pointer (some ⟨g,0,none⟩),.int .i64 a1] ?_;(with_reducible refine(spec_l1Cur_pick.calls g s0_0 s0_1 s0_2 a1 t343 t344 t345 w0 _ ?side1 ?side2 A3.out).mono ?_);(case side1=>exact IsS95.now HI0.out);(case side2=>exact h1 HB.out (IsS95.ge HI0.out));rintro e w4 ⟨rfl,hi,hb,hk⟩;refine⟨_,rfl,?_⟩;replace HK:=ak (KeepBut.trans (kn HK.out) hk (.inl rfl));replace HB:=ak hb;replace HI0:=ak hi;(try clear hb);(try clear hk);(try clear hi)))
 go_ret
 exact⟨fe,(IsS95.now HI0.out),h1 HB.out (IsS95.ge HI0.out),(kn HK.out)⟩
def spec_l1Cur_among.f (s0_0:List Int) (s0_1:Int) (s0_2:Int) (l1:List Int):Option (Int × Int × Int):=(spec_l1Cur_pick.f s0_0 s0_1 s0_2 (l1.length:Int)).bind fun bt346=>(if 0≤bt346.1 then(if bt346.1<(l1.length:Int)then(some (rd l1 bt346.1,bt346.2.1,bt346.2.2))else(none))else(none))
set_option maxHeartbeats 8000000 in
set_option maxRecDepth 100000 in
theorem spec_l1Cur_among.calls (g:Nat) (s0_0:List Int) (s0_1:Int) (s0_2:Int) (A1:Option Addr) (c1:Nat) (l1:List Int) (r1:Int) (r2:Int) (r3:Int) (w0 w:World) (hI:IsS95 w0 w g s0_0 s0_1 s0_2) (hB:Below w0.heap.size w0 w) (hr1:Kd.C (Kd.int .i64) w A1 l1.length l1) (hc1:l1.length≤c1) (hf1:∀ ad,A1=some ad→0<l1.length→ad.block≠g) (h:spec_l1Cur_among.f s0_0 s0_1 s0_2 l1=some (r1,r2,r3)):
  Calls Try.prog 82 #[.pointer (some ⟨g,0,none⟩),.slice A1 l1.length c1] w fun e w'=>e= .returned (.int .i64 r1)∧IsS95 w0 w' g s0_0 r2 r3∧Below w0.heap.size w0 w'∧KeepBut w w' g none:=by
 have HR1:=Aside0.mk hr1
 have HC1:=Aside0.mk hc1
 clear hr1 hc1
 have HI0:=Aside0.mk hI
 have HK:=Aside0.mk (KeepBut.refl w g none)
 have HL:=Aside0.mk hB.size
 clear hI
 have HW0:=Aside0.mk hB.size
 have HB:=Aside0.mk hB
 clear hB
 unfold spec_l1Cur_among.f at h
 have H:=h
 clear h
 obtain⟨⟨t346,t347,t348⟩,A3,H⟩:=bd H;(try dsimp only at H)
 obtain⟨c4,H⟩:=gi H
 have c4b0:decide (0≤t346)=true:=decide_eq_true c4
 clear c4
 obtain⟨c5,H⟩:=gi H
 have c5b0:decide (t346<(l1.length:Int))=true:=decide_eq_true c5
 clear c5
 simp only[Option.some.injEq,Prod.mk.injEq]at H
 obtain⟨rfl,rfl,rfl⟩:=H
 go_enter Try.func82,Try.ntmps82
 go_wp2_with (first|(refine gs 9 Try.func79 #[.pointer (some ⟨g,0,none⟩),.int .i64 (l1.length:Int)] ?_;(with_reducible refine(spec_l1Cur_pick.calls g s0_0 s0_1 s0_2 (l1.length:Int) t346 t347 t348 w0 _ ?side1 ?side2 A3.out).mono ?_);(case side1=>exact IsS95.now HI0.out);(case side2=>exact h1 HB.out (IsS95.ge HI0.out));rintro e w6 ⟨rfl,hi,hb,hk⟩;refine⟨_,rfl,?_⟩;replace HK:=ak (KeepBut.trans (kn HK.out) hk (.inl rfl));replace HB:=ak hb;replace HI0:=ak hi;(try clear hb);(try clear hk);(try clear hi);have p349:0≤(t346:Int):=od;have q349:t346<(l1.length:Int):=od;obtain⟨ad349,e349,hx349_0⟩:=Kd.at_int HR1.out t346 p349 q349;cases e349;replace hx349_0:=keep_cell HK.out hx349_0 (by first|(rw[add_block];exact hf1 _ rfl (by omega))|exact hf1 _ rfl (by omega)|exact hf1 ad349 rfl (by omega));replace p349:=eq_true p349;replace q349:=eq_true q349))
 go_ret
 exact⟨fe,(IsS95.now HI0.out),h1 HB.out (IsS95.ge HI0.out),(kn HK.out)⟩
def spec_l1Cur_size.f (s0_0:List Int) (s0_1:Int) (s0_2:Int):Option (Int × Int × Int):=(spec_l1Cur_one.f s0_0 s0_1 s0_2 40).bind fun bt350=>(if bt350.1=true then((spec_l1Cur_among.f s0_0 bt350.2.1 bt350.2.2 (([1,2,24,25,0,(-1),4611686018427387904]:List Int))).bind fun bt356=>(some (bt356.1,bt356.2.1,bt356.2.2)))else((spec_l1Cur_among.f s0_0 bt350.2.1 bt350.2.2 (([5,6,4,8,3,10,7,13,24,2]:List Int))).bind fun bt362=>(some (bt362.1,bt362.2.1,bt362.2.2))))
set_option maxHeartbeats 8000000 in
set_option maxRecDepth 100000 in
theorem spec_l1Cur_size.calls (g:Nat) (s0_0:List Int) (s0_1:Int) (s0_2:Int) (r1:Int) (r2:Int) (r3:Int) (w0 w:World) (hI:IsS95 w0 w g s0_0 s0_1 s0_2) (hB:Below w0.heap.size w0 w) (h:spec_l1Cur_size.f s0_0 s0_1 s0_2=some (r1,r2,r3)):
  Calls Try.prog 112 #[.pointer (some ⟨g,0,none⟩)] w fun e w'=>e= .returned (.int .i64 r1)∧IsS95 w0 w' g s0_0 r2 r3∧Below w0.heap.size w0 w'∧KeepBut w w' g none:=by
 have HI0:=Aside0.mk hI
 have HK:=Aside0.mk (KeepBut.refl w g none)
 have HL:=Aside0.mk hB.size
 clear hI
 have HW0:=Aside0.mk hB.size
 have HB:=Aside0.mk hB
 clear hB
 unfold spec_l1Cur_size.f at h
 have H:=h
 clear h
 obtain⟨⟨t350,t351,t352⟩,A2,H⟩:=bd H;(try dsimp only at H)
 by_cases c3:t350=true
 ·subst c3
  rw[if_pos rfl]at H
  generalize hy353: ([1,2,24,25,0,(-1),4611686018427387904]:List Int)=y353 at H
  have Ny353:=ak hy353.symm
  clear hy353
  obtain⟨⟨t356,t357,t358⟩,A4,H⟩:=bd H;(try dsimp only at H)
  simp only[Option.some.injEq,Prod.mk.injEq]at H
  obtain⟨rfl,rfl,rfl⟩:=H
  go_enter Try.func112,Try.ntmps112
  go_wp2_with (first|(refine gs 4 Try.func81 #[.pointer (some ⟨g,0,none⟩),.int .i64 40] ?_;(with_reducible refine(spec_l1Cur_one.calls g s0_0 s0_1 s0_2 40 true t351 t352 w0 _ ?side1 ?side2 A2.out).mono ?_);(case side1=>exact IsS95.now HI0.out);(case side2=>exact h1 HB.out (IsS95.ge HI0.out));rintro e w5 ⟨rfl,hi,hb,hk⟩;refine⟨_,rfl,?_⟩;replace HK:=ak (KeepBut.trans (kn HK.out) hk (.inl rfl));replace HB:=ak hb;replace HI0:=ak hi;(try clear hb);(try clear hk);(try clear hi))|((with_reducible refine gate_dst (N:=6) rfl ?_);refine R_lit (Kd.int .i64) _ 3 ?hg (N:=6) ?hd (xs:=([1,2,24,25,0,(-1),4611686018427387904]:List Int)) (inner:=[.int .i64 1,.int .i64 2,.int .i64 24,.int .i64 25,.int .i64 0,.int .i64 (-1),.int .i64 4611686018427387904]) (ok:=fun _=>True) (okp:=fun _=>True) ?hr ?hp (fun _ hk=>hk) trivial (Below.refl _ _) (Nat.le_refl _) (by simp) ?_;(case hd=>rfl);(case hg=>rfl);(case hr=>first|(go_simp;done)|(go_simp;rfl));(case hp=>exact(Reps.one (show Kd.M (Kd.int .i64) _ _ _ 1 [.int .i64 1]from rfl) (Reps.one (show Kd.M (Kd.int .i64) _ _ _ 2 [.int .i64 2]from rfl) (Reps.one (show Kd.M (Kd.int .i64) _ _ _ 24 [.int .i64 24]from rfl) (Reps.one (show Kd.M (Kd.int .i64) _ _ _ 25 [.int .i64 25]from rfl) (Reps.one (show Kd.M (Kd.int .i64) _ _ _ 0 [.int .i64 0]from rfl) (Reps.one (show Kd.M (Kd.int .i64) _ _ _ (-1) [.int .i64 (-1)]from rfl) (Reps.one (show Kd.M (Kd.int .i64) _ _ _ 4611686018427387904 [.int .i64 4611686018427387904]from rfl) (Reps.none _ _)))))))));intro v354 w6 ho7 hb hg_ hnew_;clear hg_ hnew_;(first|rw[←Ny353.out]at ho7|(simp only[Int.reduceToNat]at ho7;rw[←Ny353.out]at ho7));have HO355:=ak (R_lower ho7 (keep_size (w:=w) (g:=g) (row:=none) (kn HK.out)));replace HK:=ak (KeepBut.trans (kn HK.out) (KeepBut.of_below hb g none) (.inl rfl));replace HB:=ak (below_step (h1 HB.out (IsS95.ge HI0.out)) hb);replace HI0:=ak (IsS95.below (g:=g) (IsS95.now HI0.out) hb);clear hb ho7;obtain⟨Ao8,co8,eo8⟩:=R_slice HO355.out;subst eo8)|(refine gs 7 Try.func82 #[.pointer (some ⟨g,0,none⟩),.slice Ao8 y353.length co8] ?_;(with_reducible refine(spec_l1Cur_among.calls g s0_0 t351 t352 _ _ y353 t356 t357 t358 w0 _ ?side1 ?side2 ?side3 ?side4 ?side5 A4.out).mono ?_);(case side1=>exact IsS95.now HI0.out);(case side2=>exact h1 HB.out (IsS95.ge HI0.out));(case side3=>exact cm (R_reads' HO355.out).2.2);(case side4=>exact(R_reads' HO355.out).2.1);(case side5=>exact far_slice (IsS95.own_ne HI0.out HO355.out (by decide)));rintro e w9 ⟨rfl,hi,hb,hk⟩;refine⟨_,rfl,?_⟩;replace HO355:=ak (R_mono (R_keep (IsS95.apart (show IsS95 w0 _ g s0_0 t351 t352 from(IsS95.now HI0.out)) (rm HO355.out) (by decide)) hk (fun _ h=>h.2)) (fun _ h=>h.1));replace HK:=ak (KeepBut.trans (kn HK.out) hk (.inl rfl));replace HB:=ak hb;replace HI0:=ak hi;(try clear hb);(try clear hk);(try clear hi)))
  go_ret
  exact⟨fe,(IsS95.now HI0.out),h1 HB.out (IsS95.ge HI0.out),(kn HK.out)⟩
 replace c3:=Bool.eq_false_iff.mpr c3
 subst c3
 rw[if_neg (show ¬(false=true)by decide)]at H
 generalize hy359: ([5,6,4,8,3,10,7,13,24,2]:List Int)=y359 at H
 have Ny359:=ak hy359.symm
 clear hy359
 obtain⟨⟨t362,t363,t364⟩,A10,H⟩:=bd H;(try dsimp only at H)
 simp only[Option.some.injEq,Prod.mk.injEq]at H
 obtain⟨rfl,rfl,rfl⟩:=H
 go_enter Try.func112,Try.ntmps112
 go_wp2_with (first|(refine gs 4 Try.func81 #[.pointer (some ⟨g,0,none⟩),.int .i64 40] ?_;(with_reducible refine(spec_l1Cur_one.calls g s0_0 s0_1 s0_2 40 false t351 t352 w0 _ ?side1 ?side2 A2.out).mono ?_);(case side1=>exact IsS95.now HI0.out);(case side2=>exact h1 HB.out (IsS95.ge HI0.out));rintro e w11 ⟨rfl,hi,hb,hk⟩;refine⟨_,rfl,?_⟩;replace HK:=ak (KeepBut.trans (kn HK.out) hk (.inl rfl));replace HB:=ak hb;replace HI0:=ak hi;(try clear hb);(try clear hk);(try clear hi))|((with_reducible refine gate_dst (N:=9) rfl ?_);refine R_lit (Kd.int .i64) _ 3 ?hg (N:=9) ?hd (xs:=([5,6,4,8,3,10,7,13,24,2]:List Int)) (inner:=[.int .i64 5,.int .i64 6,.int .i64 4,.int .i64 8,.int .i64 3,.int .i64 10,.int .i64 7,.int .i64 13,.int .i64 24,.int .i64 2]) (ok:=fun _=>True) (okp:=fun _=>True) ?hr ?hp (fun _ hk=>hk) trivial (Below.refl _ _) (Nat.le_refl _) (by simp) ?_;(case hd=>rfl);(case hg=>rfl);(case hr=>first|(go_simp;done)|(go_simp;rfl));(case hp=>exact(Reps.one (show Kd.M (Kd.int .i64) _ _ _ 5 [.int .i64 5]from rfl) (Reps.one (show Kd.M (Kd.int .i64) _ _ _ 6 [.int .i64 6]from rfl) (Reps.one (show Kd.M (Kd.int .i64) _ _ _ 4 [.int .i64 4]from rfl) (Reps.one (show Kd.M (Kd.int .i64) _ _ _ 8 [.int .i64 8]from rfl) (Reps.one (show Kd.M (Kd.int .i64) _ _ _ 3 [.int .i64 3]from rfl) (Reps.one (show Kd.M (Kd.int .i64) _ _ _ 10 [.int .i64 10]from rfl) (Reps.one (show Kd.M (Kd.int .i64) _ _ _ 7 [.int .i64 7]from rfl) (Reps.one (show Kd.M (Kd.int .i64) _ _ _ 13 [.int .i64 13]from rfl) (Reps.one (show Kd.M (Kd.int .i64) _ _ _ 24 [.int .i64 24]from rfl) (Reps.one (show Kd.M (Kd.int .i64) _ _ _ 2 [.int .i64 2]from rfl) (Reps.none _ _))))))))))));intro v360 w12 ho13 hb hg_ hnew_;clear hg_ hnew_;(first|rw[←Ny359.out]at ho13|(simp only[Int.reduceToNat]at ho13;rw[←Ny359.out]at ho13));have HO361:=ak (R_lower ho13 (keep_size (w:=w) (g:=g) (row:=none) (kn HK.out)));replace HK:=ak (KeepBut.trans (kn HK.out) (KeepBut.of_below hb g none) (.inl rfl));replace HB:=ak (below_step (h1 HB.out (IsS95.ge HI0.out)) hb);replace HI0:=ak (IsS95.below (g:=g) (IsS95.now HI0.out) hb);clear hb ho13;obtain⟨Ao14,co14,eo14⟩:=R_slice HO361.out;subst eo14)|(refine gs 10 Try.func82 #[.pointer (some ⟨g,0,none⟩),.slice Ao14 y359.length co14] ?_;(with_reducible refine(spec_l1Cur_among.calls g s0_0 t351 t352 _ _ y359 t362 t363 t364 w0 _ ?side1 ?side2 ?side3 ?side4 ?side5 A10.out).mono ?_);(case side1=>exact IsS95.now HI0.out);(case side2=>exact h1 HB.out (IsS95.ge HI0.out));(case side3=>exact cm (R_reads' HO361.out).2.2);(case side4=>exact(R_reads' HO361.out).2.1);(case side5=>exact far_slice (IsS95.own_ne HI0.out HO361.out (by decide)));rintro e w15 ⟨rfl,hi,hb,hk⟩;refine⟨_,rfl,?_⟩;replace HO361:=ak (R_mono (R_keep (IsS95.apart (show IsS95 w0 _ g s0_0 t351 t352 from(IsS95.now HI0.out)) (rm HO361.out) (by decide)) hk (fun _ h=>h.2)) (fun _ h=>h.1));replace HK:=ak (KeepBut.trans (kn HK.out) hk (.inl rfl));replace HB:=ak hb;replace HI0:=ak hi;(try clear hb);(try clear hk);(try clear hi)))
 go_ret
 exact⟨fe,(IsS95.now HI0.out),h1 HB.out (IsS95.ge HI0.out),(kn HK.out)⟩
def spec_l1Cur_line.f (s0_0:List Int) (s0_1:Int) (s0_2:Int):Option (Int × Bool × Int × Int):=(spec_l1Cur_size.f s0_0 s0_1 s0_2).bind fun bt366=>(some (bt366.1,false,bt366.2.1,bt366.2.2))
set_option maxHeartbeats 8000000 in
set_option maxRecDepth 100000 in
theorem spec_l1Cur_line.calls (g:Nat) (s0_0:List Int) (s0_1:Int) (s0_2:Int) (r1:Int) (r2:Bool) (r3:Int) (r4:Int) (w0 w:World) (hI:IsS95 w0 w g s0_0 s0_1 s0_2) (hB:Below w0.heap.size w0 w) (h:spec_l1Cur_line.f s0_0 s0_1 s0_2=some (r1,r2,r3,r4)):
  Calls Try.prog 91 #[.pointer (some ⟨g,0,none⟩)] w fun e w'=>e= .returned (.agg #[.int .i64 r1,.bool r2])∧IsS95 w0 w' g s0_0 r3 r4∧Below w0.heap.size w0 w'∧KeepBut w w' g none:=by
 have hu28:=Try.underlying28
 have HI0:=Aside0.mk hI
 have HK:=Aside0.mk (KeepBut.refl w g none)
 have HL:=Aside0.mk hB.size
 clear hI
 have HW0:=Aside0.mk hB.size
 have HB:=Aside0.mk hB
 clear hB
 unfold spec_l1Cur_line.f at h
 have H:=h
 clear h
 obtain⟨⟨t366,t367,t368⟩,A2,H⟩:=bd H;(try dsimp only at H)
 simp only[Option.some.injEq,Prod.mk.injEq]at H
 obtain⟨rfl,rfl,rfl,rfl⟩:=H
 go_enter Try.func91,Try.ntmps91
 go_wp2_with (first|(refine bx 2 #[.int .i64 0,.bool false] 28 ?_;intro gb365 hg w3 hbox hb;replace HB:=ak (below_step (h1 HB.out (IsS95.ge HI0.out)) hb);have BK365:=ak hbox;have GW365:=ak ((by rw[hg];exact(keep_size (w:=w) (g:=g) (row:=none) (kn HK.out)):w.heap.size≤gb365));have GE365:=ak ((Nat.le_trans HW0.out (by rw[hg];exact(keep_size (w:=w) (g:=g) (row:=none) (kn HK.out)):w.heap.size≤gb365):w0.heap.size≤gb365));replace HK:=ak (KeepBut.trans (kn HK.out) (KeepBut.of_below hb g none) (.inl rfl));have NB0_365:=ak ((by rw[hg];exact Nat.ne_of_lt (IsS95.lt (show IsS95 w0 _ g s0_0 s0_1 s0_2 from(IsS95.now HI0.out))):g≠gb365));have NB365_0:=ak ((by rw[hg];exact Nat.ne_of_gt (IsS95.lt (show IsS95 w0 _ g s0_0 s0_1 s0_2 from(IsS95.now HI0.out))):gb365≠g));replace HI0:=ak (IsS95.below (g:=g) (IsS95.now HI0.out) hb);clear hb hbox hg)|(refine gs 4 Try.func112 #[.pointer (some ⟨g,0,none⟩)] ?_;(with_reducible refine(spec_l1Cur_size.calls g s0_0 s0_1 s0_2 t366 t367 t368 w0 _ ?side1 ?side2 A2.out).mono ?_);(case side1=>exact IsS95.now HI0.out);(case side2=>exact h2 HB.out (IsS95.ge HI0.out) GE365.out);rintro e w4 ⟨rfl,hi,hb,hk⟩;refine⟨_,rfl,?_⟩;replace BK365:=kk BK365 hk NB365_0;replace HK:=ak (KeepBut.trans (kn HK.out) hk (.inl rfl));replace HB:=ak hb;replace HI0:=ak hi;(try clear hb);(try clear hk);(try clear hi);have hnb5:=NB365_0.out;have hnc5:=NB0_365.out;have hcz6_0:=bc BK365 0 rfl;have hcz6_1:=bc BK365 1 rfl;have hfz6_0:=bf BK365 0;have hfz6_1:=bf BK365 1))
 refine bodyPost_ret (results_cell_row rfl _ _ gb365 28 #[.int .i64 t366,.bool false] (0,0) _ rfl (by(with_reducible repeat(first|apply blk_drewN|apply blk_drew|apply blk_alloc));refine blk_put (cs:=#[.int .i64 t366,.bool false]) ?_ 1 _ rfl;(with_reducible repeat(first|apply blk_drewN|apply blk_drew|apply blk_alloc));refine blk_put (cs:=#[.int .i64 0,.bool false]) ?_ 0 _ rfl;exact bm BK365.out) Try.underlying28 rfl (by kernel_rfl)) rfl ?_
 exact⟨fe,(IsS95.now HI0.out),h2 HB.out (IsS95.ge HI0.out) GE365.out,(kn HK.out)⟩
mutual
def spec_l1Cur_carriers7.l0:Nat→List (S63)→Int→List Int→Int→Int→Int→Bool→Option ((List (S63))× Int × Int)
 | 0,_,_,_,_,_,_,_=>none
 | k+1,x5,x6,x1000,x1001,x1002,x370000,x370001=>if x6>0 then((spec_l1Least.f x370000 24).bind fun t379=>((spec_l1Most.f 1 t379).bind fun t380=>((spec_l1Cur_pick.f x1000 x1001 x1002 t380).bind fun bt381=>((spec_l1Cur_among.f x1000 bt381.2.1 bt381.2.2 (([3,5,2,8,0,12]:List Int))).bind fun bt387=>((spec_l1Cur_among.f x1000 bt387.2.1 bt387.2.2 (([1,2,0,3,20]:List Int))).bind fun bt393=>(if x5.length<5864062014805 then(spec_l1Cur_carriers7.l0 k (x5++[(⟨bt381.1,bt387.1,bt393.1⟩:S63)]) (wrap64 (x6-1)) x1000 bt393.2.1 bt393.2.2 x370000 x370001)else(none)))))))else((spec_l1Cur_pick.f x1000 x1001 x1002 30).bind fun bt399=>(if bt399.1=0 then((spec_l1Cur_among.f x1000 bt399.2.1 bt399.2.2 (([(-1),x370000,0]:List Int))).bind fun bt405=>((spec_l1Cur_among.f x1000 bt405.2.1 bt405.2.2 (([48,49,(-1)]:List Int))).bind fun bt411=>(if x5.length<5864062014805 then(some ((x5++[(⟨bt405.1,bt411.1,0⟩:S63)]),bt411.2.1,bt411.2.2))else(none))))else(if bt399.1=1 then(spec_l1Cur_carriers7.l1 k x5 x1000 bt399.2.1 bt399.2.2)else(some (x5,bt399.2.1,bt399.2.2)))))
def spec_l1Cur_carriers7.l1:Nat→List (S63)→List Int→Int→Int→Option ((List (S63))× Int × Int)
 | 0,_,_,_,_=>none
 | k+1,x5,x1000,x1001,x1002=>if(x5.length:Int)<7 then(if x5.length<5864062014805 then(spec_l1Cur_carriers7.l1 k (x5++[(⟨0,0,0⟩:S63)]) x1000 x1001 x1002)else(none))else(some (x5,x1001,x1002))
end
def spec_l1Cur_carriers7.f (k:Nat) (s0_0:List Int) (s0_1:Int) (s0_2:Int) (a1_0:Int) (a1_1:Bool):Option ((List (S63))× Int × Int):=(spec_l1Cur_among.f s0_0 s0_1 s0_2 (([3,2,4,1,0,5]:List Int))).bind fun bt376=>(spec_l1Cur_carriers7.l0 k (([]:List (S63))) bt376.1 s0_0 bt376.2.1 bt376.2.2 a1_0 a1_1)
theorem spec_l1Cur_carriers7.mono_l:∀ k,(∀ y0 y1 y2 y3 y4 y5 y6,LeO (spec_l1Cur_carriers7.l0 k y0 y1 y2 y3 y4 y5 y6) (spec_l1Cur_carriers7.l0 (k+1) y0 y1 y2 y3 y4 y5 y6))∧(∀ y0 y1 y2 y3,LeO (spec_l1Cur_carriers7.l1 k y0 y1 y2 y3) (spec_l1Cur_carriers7.l1 (k+1) y0 y1 y2 y3))
 | 0=>by
  refine⟨?_,?_⟩<;>(intros;intro r h;simp[spec_l1Cur_carriers7.l0,spec_l1Cur_carriers7.l1]at h)
 | k+1=>by
  obtain⟨ih0,ih1⟩:=spec_l1Cur_carriers7.mono_l k
  refine⟨?_,?_⟩<;>intros<;>(first|unfold spec_l1Cur_carriers7.l0|unfold spec_l1Cur_carriers7.l1)<;>(repeat' (with_reducible first|exact ih0 ..|exact ih1 ..|exact LeO.refl _|exact LeO.none _|refine LeO.ite ?_ ?_|refine LeO.bind ?_ (fun _=>?_)))
theorem spec_l1Cur_carriers7.mono:∀ a0 a1 a2 a3 a4 k,LeO (spec_l1Cur_carriers7.f k a0 a1 a2 a3 a4) (spec_l1Cur_carriers7.f (k+1) a0 a1 a2 a3 a4):=by
 intro a0 a1 a2 a3 a4 k
 obtain⟨ih0,ih1⟩:=spec_l1Cur_carriers7.mono_l k
 unfold spec_l1Cur_carriers7.f
 repeat' (with_reducible first|exact ih0 ..|exact ih1 ..|exact LeO.refl _|exact LeO.none _|refine LeO.ite ?_ ?_|refine LeO.bind ?_ (fun _=>?_))
set_option maxHeartbeats 8000000 in
set_option maxRecDepth 100000 in
theorem spec_l1Cur_carriers7.calls (k:Nat) (g:Nat) (s0_0:List Int) (s0_1:Int) (s0_2:Int) (a1_0:Int) (a1_1:Bool) (r1:List (S63)) (r2:Int) (r3:Int) (w0 w:World) (hI:IsS95 w0 w g s0_0 s0_1 s0_2) (hB:Below w0.heap.size w0 w) (h:spec_l1Cur_carriers7.f k s0_0 s0_1 s0_2 a1_0 a1_1=some (r1,r2,r3)):
  Calls Try.prog 92 #[.pointer (some ⟨g,0,none⟩),.agg #[.int .i64 a1_0,.bool a1_1]] w fun e w'=>∃ v0_:Value,e= .returned (v0_)∧Kd.R k63 63 w' w.heap.size (fun _=>True) v0_ r1∧IsS95 w0 w' g s0_0 r2 r3∧Below w0.heap.size w0 w'∧KeepBut w w' g none:=by
 have hu28:=Try.underlying28
 have hu63:=Try.underlying63
 have HI0:=Aside0.mk hI
 have HK:=Aside0.mk (KeepBut.refl w g none)
 have HL:=Aside0.mk hB.size
 clear hI
 have HW0:=Aside0.mk hB.size
 have HB:=Aside0.mk hB
 clear hB
 unfold spec_l1Cur_carriers7.f at h
 have H:=h
 clear h
 generalize hy370: ([]:List (S63))=y370 at H
 have Ny370:=ak hy370.symm
 clear hy370
 generalize hy373: ([3,2,4,1,0,5]:List Int)=y373 at H
 have Ny373:=ak hy373.symm
 clear hy373
 obtain⟨⟨t376,t377,t378⟩,A3,H⟩:=bd H;(try dsimp only at H)
 have H':=Aside0.mk H
 clear H
 go_enter Try.func92,Try.ntmps92
 go_wp2_with (first|(refine bx 3 #[.int .i64 a1_0,.bool a1_1] 28 ?_;intro gb369 hg w4 hbox hb;replace HB:=ak (below_step (h1 HB.out (IsS95.ge HI0.out)) hb);have BK369:=ak hbox;have GW369:=ak ((by rw[hg];exact(keep_size (w:=w) (g:=g) (row:=none) (kn HK.out)):w.heap.size≤gb369));have GE369:=ak ((Nat.le_trans HW0.out (by rw[hg];exact(keep_size (w:=w) (g:=g) (row:=none) (kn HK.out)):w.heap.size≤gb369):w0.heap.size≤gb369));replace HK:=ak (KeepBut.trans (kn HK.out) (KeepBut.of_below hb g none) (.inl rfl));have NB0_369:=ak ((by rw[hg];exact Nat.ne_of_lt (IsS95.lt (show IsS95 w0 _ g s0_0 s0_1 s0_2 from(IsS95.now HI0.out))):g≠gb369));have NB369_0:=ak ((by rw[hg];exact Nat.ne_of_gt (IsS95.lt (show IsS95 w0 _ g s0_0 s0_1 s0_2 from(IsS95.now HI0.out))):gb369≠g));replace HI0:=ak (IsS95.below (g:=g) (IsS95.now HI0.out) hb);clear hb hbox hg)|((with_reducible refine gate_dst (N:=7) rfl ?_);refine R_lit k63 _ 63 ?hg (N:=7) ?hd (xs:=([]:List (S63))) (inner:=[]) (ok:=fun _=>True) (okp:=fun _=>True) ?hr ?hp (fun _ hk=>hk) trivial (Below.refl _ _) (Nat.le_refl _) (by simp) ?_;(case hd=>rfl);(case hg=>rfl);(case hr=>first|(go_simp;done)|(go_simp;rfl));(case hp=>exact(Reps.none _ _));intro v371 w5 ho6 hb hg_ hnew_;clear hg_ hnew_;(first|rw[←Ny370.out]at ho6|(simp only[Int.reduceToNat]at ho6;rw[←Ny370.out]at ho6));have HO372:=ak (R_lower ho6 (keep_size (w:=w) (g:=g) (row:=none) (kn HK.out)));replace BK369:=kb BK369 hb;replace HK:=ak (KeepBut.trans (kn HK.out) (KeepBut.of_below hb g none) (.inl rfl));replace HB:=ak (below_step (h2 HB.out (IsS95.ge HI0.out) GE369.out) hb);replace HI0:=ak (IsS95.below (g:=g) (IsS95.now HI0.out) hb);clear hb ho6)|((with_reducible refine gate_dst (N:=9) rfl ?_);refine R_lit (Kd.int .i64) _ 3 ?hg (N:=9) ?hd (xs:=([3,2,4,1,0,5]:List Int)) (inner:=[.int .i64 3,.int .i64 2,.int .i64 4,.int .i64 1,.int .i64 0,.int .i64 5]) (ok:=fun _=>True) (okp:=fun _=>True) ?hr ?hp (fun _ hk=>hk) trivial (Below.refl _ _) (Nat.le_refl _) (by simp) ?_;(case hd=>rfl);(case hg=>rfl);(case hr=>first|(go_simp;done)|(go_simp;rfl));(case hp=>exact(Reps.one (show Kd.M (Kd.int .i64) _ _ _ 3 [.int .i64 3]from rfl) (Reps.one (show Kd.M (Kd.int .i64) _ _ _ 2 [.int .i64 2]from rfl) (Reps.one (show Kd.M (Kd.int .i64) _ _ _ 4 [.int .i64 4]from rfl) (Reps.one (show Kd.M (Kd.int .i64) _ _ _ 1 [.int .i64 1]from rfl) (Reps.one (show Kd.M (Kd.int .i64) _ _ _ 0 [.int .i64 0]from rfl) (Reps.one (show Kd.M (Kd.int .i64) _ _ _ 5 [.int .i64 5]from rfl) (Reps.none _ _))))))));intro v374 w7 ho8 hb hg_ hnew_;clear hg_ hnew_;(first|rw[←Ny373.out]at ho8|(simp only[Int.reduceToNat]at ho8;rw[←Ny373.out]at ho8));replace HO372:=rb HO372 hb;have HO375:=ak (R_lower ho8 (keep_size (w:=w) (g:=g) (row:=none) (kn HK.out)));replace BK369:=kb BK369 hb;replace HK:=ak (KeepBut.trans (kn HK.out) (KeepBut.of_below hb g none) (.inl rfl));replace HB:=ak (below_step (h2 HB.out (IsS95.ge HI0.out) GE369.out) hb);replace HI0:=ak (IsS95.below (g:=g) (IsS95.now HI0.out) hb);clear hb ho8;obtain⟨Ao9,co9,eo9⟩:=R_slice HO375.out;subst eo9)|(refine gs 10 Try.func82 #[.pointer (some ⟨g,0,none⟩),.slice Ao9 y373.length co9] ?_;(with_reducible refine(spec_l1Cur_among.calls g s0_0 s0_1 s0_2 _ _ y373 t376 t377 t378 w0 _ ?side1 ?side2 ?side3 ?side4 ?side5 A3.out).mono ?_);(case side1=>exact IsS95.now HI0.out);(case side2=>exact h2 HB.out (IsS95.ge HI0.out) GE369.out);(case side3=>exact cm (R_reads' HO375.out).2.2);(case side4=>exact(R_reads' HO375.out).2.1);(case side5=>exact far_slice (IsS95.own_ne HI0.out HO375.out (by decide)));rintro e w10 ⟨rfl,hi,hb,hk⟩;refine⟨_,rfl,?_⟩;replace BK369:=kk BK369 hk NB369_0;replace HO372:=ak (R_mono (R_keep (IsS95.apart (show IsS95 w0 _ g s0_0 s0_1 s0_2 from(IsS95.now HI0.out)) (rm HO372.out) (by decide)) hk (fun _ h=>h.2)) (fun _ h=>h.1));replace HO375:=ak (R_mono (R_keep (IsS95.apart (show IsS95 w0 _ g s0_0 s0_1 s0_2 from(IsS95.now HI0.out)) (rm HO375.out) (by decide)) hk (fun _ h=>h.2)) (fun _ h=>h.1));replace HK:=ak (KeepBut.trans (kn HK.out) hk (.inl rfl));replace HB:=ak hb;replace HI0:=ak hi;(try clear hb);(try clear hk);(try clear hi)))
 go_loopg [5,6] k (fun kq v5 v6 w'=>∃ (x5_1:List (S63)) (x6_1:Int) (x1001_1:Int) (x1002_1:Int),v6= .int .i64 x6_1∧Aside0 (spec_l1Cur_carriers7.l0 kq x5_1 x6_1 s0_0 x1001_1 x1002_1 a1_0 a1_1=some (r1,r2,r3))∧Aside0 (kq≤k)∧Aside0 (Kd.R k63 63 w' w.heap.size (fun _=>True) v5 x5_1)∧Aside0 (w'.heap[gb369]? =some (.cells #[.int .i64 a1_0,.bool a1_1] 28 (0,0)))∧Aside0 (IsS95 w0 w' g s0_0 x1001_1 x1002_1)∧Aside0 (KeepBut w w' g none)∧Aside0 (Below w0.heap.size w0 w'))
 case atStart=>exact⟨(y370),(t376),(t377),(t378),fd,H',⟨Nat.le_refl _⟩,⟨rm HO372.out⟩,⟨bm BK369.out⟩,⟨(IsS95.now HI0.out)⟩,⟨(kn HK.out)⟩,⟨h2 HB.out (IsS95.ge HI0.out) GE369.out⟩⟩
 clear H'
 try clear p2
 try clear c8
 try clear c9
 obtain⟨x5_1,x6_1,x1001_1,x1002_1,rfl,HA,HK1,HO_5,BK369,HI0,HK,HB⟩:=hrel
 obtain _|k1:=gk;·cases HA.out
 obtain⟨H⟩:=HA
 simp only[spec_l1Cur_carriers7.l0]at H
 by_cases c11:x6_1>0
 ·rw[if_pos c11]at H
  have c11b0:decide (0<x6_1)=true:=decide_eq_true c11
  clear c11
  obtain⟨t379,A12,H⟩:=bd H;(try dsimp only at H)
  obtain⟨t380,A13,H⟩:=bd H;(try dsimp only at H)
  obtain⟨⟨t381,t382,t383⟩,A14,H⟩:=bd H;(try dsimp only at H)
  generalize hy384: ([3,5,2,8,0,12]:List Int)=y384 at H
  have Ny384:=ak hy384.symm
  clear hy384
  obtain⟨⟨t387,t388,t389⟩,A15,H⟩:=bd H;(try dsimp only at H)
  generalize hy390: ([1,2,0,3,20]:List Int)=y390 at H
  have Ny390:=ak hy390.symm
  clear hy390
  obtain⟨⟨t393,t394,t395⟩,A16,H⟩:=bd H;(try dsimp only at H)
  obtain⟨c17,H⟩:=gi H
  have LMc17:=Aside0.mk c17
  clear c17
  generalize hy396: (x5_1++[(⟨t381,t387,t393⟩:S63)]:List (S63))=y396 at H
  have Ny396:=ak hy396.symm
  clear hy396
  have H':=Aside0.mk H
  clear H
  have hnb18:=NB369_0.out
  have hnc18:=NB0_369.out
  have hcz19_0:=bc BK369 0 rfl
  have hcz19_1:=bc BK369 1 rfl
  have hfz19_0:=bf BK369 0
  have hfz19_1:=bf BK369 1
  go_wp2_with (first|(refine gs 19 Try.func108 #[.int .i64 a1_0,.int .i64 24] ?_;(with_reducible refine(spec_l1Least.calls a1_0 24 t379 _ A12.out).mono ?_);rintro e w' ⟨rfl,⟨nd,rfl⟩⟩;refine⟨_,rfl,?_⟩)|(refine gs 20 Try.func101 #[.int .i64 1,.int .i64 t379] ?_;(with_reducible refine(spec_l1Most.calls 1 t379 t380 _ A13.out).mono ?_);rintro e w' ⟨rfl,⟨nd,rfl⟩⟩;refine⟨_,rfl,?_⟩)|(refine gs 21 Try.func79 #[.pointer (some ⟨g,0,none⟩),.int .i64 t380] ?_;(with_reducible refine(spec_l1Cur_pick.calls g s0_0 x1001_1 x1002_1 t380 t381 t382 t383 w0 _ ?side1 ?side2 A14.out).mono ?_);(case side1=>exact IsS95.now HI0.out);(case side2=>exact h2 HB.out (IsS95.ge HI0.out) GE369.out);rintro e w20 ⟨rfl,hi,hb,hk⟩;refine⟨_,rfl,?_⟩;replace HO_5:=ak (R_mono (R_keep (IsS95.apart (show IsS95 w0 _ g s0_0 x1001_1 x1002_1 from(IsS95.now HI0.out)) (rm HO_5.out) (by decide)) hk (fun _ h=>h.2)) (fun _ h=>h.1));replace BK369:=kk BK369 hk NB369_0;replace HK:=ak (KeepBut.trans (kn HK.out) hk (.inl rfl));replace HB:=ak hb;replace HI0:=ak hi;(try clear hb);(try clear hk);(try clear hi))|((with_reducible refine gate_dst (N:=23) rfl ?_);refine R_lit (Kd.int .i64) _ 3 ?hg (N:=23) ?hd (xs:=([3,5,2,8,0,12]:List Int)) (inner:=[.int .i64 3,.int .i64 5,.int .i64 2,.int .i64 8,.int .i64 0,.int .i64 12]) (ok:=fun _=>True) (okp:=fun _=>True) ?hr ?hp (fun _ hk=>hk) trivial (Below.refl _ _) (Nat.le_refl _) (by simp) ?_;(case hd=>rfl);(case hg=>rfl);(case hr=>first|(go_simp;done)|(go_simp;rfl));(case hp=>exact(Reps.one (show Kd.M (Kd.int .i64) _ _ _ 3 [.int .i64 3]from rfl) (Reps.one (show Kd.M (Kd.int .i64) _ _ _ 5 [.int .i64 5]from rfl) (Reps.one (show Kd.M (Kd.int .i64) _ _ _ 2 [.int .i64 2]from rfl) (Reps.one (show Kd.M (Kd.int .i64) _ _ _ 8 [.int .i64 8]from rfl) (Reps.one (show Kd.M (Kd.int .i64) _ _ _ 0 [.int .i64 0]from rfl) (Reps.one (show Kd.M (Kd.int .i64) _ _ _ 12 [.int .i64 12]from rfl) (Reps.none _ _))))))));intro v385 w21 ho22 hb hg_ hnew_;clear hg_ hnew_;(first|rw[←Ny384.out]at ho22|(simp only[Int.reduceToNat]at ho22;rw[←Ny384.out]at ho22));replace HO_5:=rb HO_5 hb;have HO386:=ak (R_lower ho22 (keep_size (w:=w) (g:=g) (row:=none) (kn HK.out)));replace BK369:=kb BK369 hb;replace HK:=ak (KeepBut.trans (kn HK.out) (KeepBut.of_below hb g none) (.inl rfl));replace HB:=ak (below_step (h2 HB.out (IsS95.ge HI0.out) GE369.out) hb);replace HI0:=ak (IsS95.below (g:=g) (IsS95.now HI0.out) hb);clear hb ho22;obtain⟨Ao23,co23,eo23⟩:=R_slice HO386.out;subst eo23)|(refine gs 24 Try.func82 #[.pointer (some ⟨g,0,none⟩),.slice Ao23 y384.length co23] ?_;(with_reducible refine(spec_l1Cur_among.calls g s0_0 t382 t383 _ _ y384 t387 t388 t389 w0 _ ?side1 ?side2 ?side3 ?side4 ?side5 A15.out).mono ?_);(case side1=>exact IsS95.now HI0.out);(case side2=>exact h2 HB.out (IsS95.ge HI0.out) GE369.out);(case side3=>exact cm (R_reads' HO386.out).2.2);(case side4=>exact(R_reads' HO386.out).2.1);(case side5=>exact far_slice (IsS95.own_ne HI0.out HO386.out (by decide)));rintro e w24 ⟨rfl,hi,hb,hk⟩;refine⟨_,rfl,?_⟩;replace HO_5:=ak (R_mono (R_keep (IsS95.apart (show IsS95 w0 _ g s0_0 t382 t383 from(IsS95.now HI0.out)) (rm HO_5.out) (by decide)) hk (fun _ h=>h.2)) (fun _ h=>h.1));replace BK369:=kk BK369 hk NB369_0;replace HO386:=ak (R_mono (R_keep (IsS95.apart (show IsS95 w0 _ g s0_0 t382 t383 from(IsS95.now HI0.out)) (rm HO386.out) (by decide)) hk (fun _ h=>h.2)) (fun _ h=>h.1));replace HK:=ak (KeepBut.trans (kn HK.out) hk (.inl rfl));replace HB:=ak hb;replace HI0:=ak hi;(try clear hb);(try clear hk);(try clear hi))|((with_reducible refine gate_dst (N:=26) rfl ?_);refine R_lit (Kd.int .i64) _ 3 ?hg (N:=26) ?hd (xs:=([1,2,0,3,20]:List Int)) (inner:=[.int .i64 1,.int .i64 2,.int .i64 0,.int .i64 3,.int .i64 20]) (ok:=fun _=>True) (okp:=fun _=>True) ?hr ?hp (fun _ hk=>hk) trivial (Below.refl _ _) (Nat.le_refl _) (by simp) ?_;(case hd=>rfl);(case hg=>rfl);(case hr=>first|(go_simp;done)|(go_simp;rfl));(case hp=>exact(Reps.one (show Kd.M (Kd.int .i64) _ _ _ 1 [.int .i64 1]from rfl) (Reps.one (show Kd.M (Kd.int .i64) _ _ _ 2 [.int .i64 2]from rfl) (Reps.one (show Kd.M (Kd.int .i64) _ _ _ 0 [.int .i64 0]from rfl) (Reps.one (show Kd.M (Kd.int .i64) _ _ _ 3 [.int .i64 3]from rfl) (Reps.one (show Kd.M (Kd.int .i64) _ _ _ 20 [.int .i64 20]from rfl) (Reps.none _ _)))))));intro v391 w25 ho26 hb hg_ hnew_;clear hg_ hnew_;(first|rw[←Ny390.out]at ho26|(simp only[Int.reduceToNat]at ho26;rw[←Ny390.out]at ho26));replace HO_5:=rb HO_5 hb;have HO392:=ak (R_lower (R_new' ho26 (R_lt (rm HO386.out))) (keep_size (w:=w) (g:=g) (row:=none) (kn HK.out)));replace HO386:=ak (R_elder' (rm HO386.out) (R_base ho26) hb);replace BK369:=kb BK369 hb;replace HK:=ak (KeepBut.trans (kn HK.out) (KeepBut.of_below hb g none) (.inl rfl));replace HB:=ak (below_step (h2 HB.out (IsS95.ge HI0.out) GE369.out) hb);replace HI0:=ak (IsS95.below (g:=g) (IsS95.now HI0.out) hb);clear hb ho26;obtain⟨Ao27,co27,eo27⟩:=R_slice HO392.out;subst eo27)|(refine gs 27 Try.func82 #[.pointer (some ⟨g,0,none⟩),.slice Ao27 y390.length co27] ?_;(with_reducible refine(spec_l1Cur_among.calls g s0_0 t388 t389 _ _ y390 t393 t394 t395 w0 _ ?side1 ?side2 ?side3 ?side4 ?side5 A16.out).mono ?_);(case side1=>exact IsS95.now HI0.out);(case side2=>exact h2 HB.out (IsS95.ge HI0.out) GE369.out);(case side3=>exact cm (R_reads' HO392.out).2.2);(case side4=>exact(R_reads' HO392.out).2.1);(case side5=>exact far_slice (IsS95.own_ne HI0.out HO392.out (by decide)));rintro e w28 ⟨rfl,hi,hb,hk⟩;refine⟨_,rfl,?_⟩;replace HO_5:=ak (R_mono (R_keep (IsS95.apart (show IsS95 w0 _ g s0_0 t388 t389 from(IsS95.now HI0.out)) (rm HO_5.out) (by decide)) hk (fun _ h=>h.2)) (fun _ h=>h.1));replace BK369:=kk BK369 hk NB369_0;replace HO386:=ak (R_mono (R_keep (IsS95.apart (show IsS95 w0 _ g s0_0 t388 t389 from(IsS95.now HI0.out)) (rm HO386.out) (by decide)) hk (fun _ h=>h.2)) (fun _ h=>h.1));replace HO392:=ak (R_mono (R_keep (IsS95.apart (show IsS95 w0 _ g s0_0 t388 t389 from(IsS95.now HI0.out)) (rm HO392.out) (by decide)) hk (fun _ h=>h.2)) (fun _ h=>h.1));replace HK:=ak (KeepBut.trans (kn HK.out) hk (.inl rfl));replace HB:=ak hb;replace HI0:=ak hi;(try clear hb);(try clear hk);(try clear hi))|((with_reducible refine gate_builtin (b:=.append) (xs:=#[.tmp 15,.tmp 29]) rfl ?_);at_builtin;refine R_append k63 w.heap.size rfl (.tmp 15) (.tmp 29) 30 63 (.agg #[(.int .i64 0),(.int .i64 0),(.int .i64 0)]) 24 rfl Try.underlying30 info63 rfl (by decide) (by omega) u5 x5_1 (⟨t381,t387,t393⟩:S63) [.int .i64 t381,.int .i64 t387,.int .i64 t393] (fun _=>True) (fun _=>False) rfl rfl ?aP (fun _ hk=>hk.elim) ?aF ?aO (Below.refl _ _) ?aS ?aL ?_;(case aP=>exact k63_mkM _ _ _ (⟨t381,t387,t393⟩:S63));(case aF=>exact(fun _ _=>trivial));(case aO=>exact(rm HO_5.out));(case aS=>exact(keep_size (w:=w) (g:=g) (row:=none) (kn HK.out)));(case aL=>have:=LMc17.out;omega);intro v397 w29 ho hb hg hat;rw[←Ny396.out]at ho;replace BK369:=ak (blk_grown (g:=gb369) (o:=.cells #[.int .i64 a1_0,.bool a1_1] 28 (0,0)) (bm BK369.out) hg (R_ne HO_5.out BK369.out (by decide)));replace HO386:=ak (R_over' (rm HO386.out) (R_typed (rm HO_5.out)) (by decide) hg);replace HO392:=ak (R_over' (rm HO392.out) (R_typed (rm HO_5.out)) (by decide) hg);replace HB:=ak (below_weaken (h2 HB.out (IsS95.ge HI0.out) GE369.out) HL.out hb);replace HI0:=ak (IsS95.grown (show IsS95 w0 _ g s0_0 t394 t395 from(IsS95.now HI0.out)) hg (IsS95.own_ne HI0.out HO_5.out (by decide)));replace HK:=ak (KeepBut.trans (kn HK.out) (KeepBut.of_grown hg g) (R_base2 HO_5.out));have HO398:=ak ho;clear HO_5;clear ho hb hg hat))
  go_roundg k1
  case measure=>have:=HK1.out;omega
  case rel=>exact⟨(y396),(wrap64 (x6_1-1)),(t394),(t395),fd,H',⟨by have:=HK1.out;omega⟩,⟨rm HO398.out⟩,⟨bm BK369.out⟩,⟨(IsS95.now HI0.out)⟩,⟨(kn HK.out)⟩,⟨h2 HB.out (IsS95.ge HI0.out) GE369.out⟩⟩
 rw[if_neg c11]at H
 have c11b0:decide (0<x6_1)=false:=decide_eq_false c11
 clear c11
 obtain⟨⟨t399,t400,t401⟩,A30,H⟩:=bd H;(try dsimp only at H)
 by_cases c31:t399=0
 rotate_left
 ·rw[if_neg c31]at H
  have c31b0: (t399==0)=false:=beq_eq_false_iff_ne.mpr c31
  have c31b1: (t399 !=0)=true:=bne_iff_ne.mpr c31
  by_cases c47:t399=1
  rotate_left
  ·rw[if_neg c47]at H
   have c47b0: (t399==1)=false:=beq_eq_false_iff_ne.mpr c47
   have c47b1: (t399 !=1)=true:=bne_iff_ne.mpr c47
   simp only[Option.some.injEq,Prod.mk.injEq]at H
   obtain⟨rfl,rfl,rfl⟩:=H
   go_wp2_with (first|(refine gs 32 Try.func79 #[.pointer (some ⟨g,0,none⟩),.int .i64 30] ?_;(with_reducible refine(spec_l1Cur_pick.calls g s0_0 x1001_1 x1002_1 30 t399 t400 t401 w0 _ ?side1 ?side2 A30.out).mono ?_);(case side1=>exact IsS95.now HI0.out);(case side2=>exact h2 HB.out (IsS95.ge HI0.out) GE369.out);rintro e w54 ⟨rfl,hi,hb,hk⟩;refine⟨_,rfl,?_⟩;replace HO_5:=ak (R_mono (R_keep (IsS95.apart (show IsS95 w0 _ g s0_0 x1001_1 x1002_1 from(IsS95.now HI0.out)) (rm HO_5.out) (by decide)) hk (fun _ h=>h.2)) (fun _ h=>h.1));replace BK369:=kk BK369 hk NB369_0;replace HK:=ak (KeepBut.trans (kn HK.out) hk (.inl rfl));replace HB:=ak hb;replace HI0:=ak hi;(try clear hb);(try clear hk);(try clear hi)))
   go_ret
   exact⟨_,fe,rm HO_5.out,(IsS95.now HI0.out),h2 HB.out (IsS95.ge HI0.out) GE369.out,(kn HK.out)⟩
  rw[if_pos c47]at H
  have c47b0: (t399==1)=true:=beq_iff_eq.mpr c47
  have c47b1: (t399 !=1)=false:=bne_eq_false_iff_eq.mpr c47
  clear c47
  have H':=Aside0.mk H
  clear H
  go_wp2_with (first|(refine gs 32 Try.func79 #[.pointer (some ⟨g,0,none⟩),.int .i64 30] ?_;(with_reducible refine(spec_l1Cur_pick.calls g s0_0 x1001_1 x1002_1 30 t399 t400 t401 w0 _ ?side1 ?side2 A30.out).mono ?_);(case side1=>exact IsS95.now HI0.out);(case side2=>exact h2 HB.out (IsS95.ge HI0.out) GE369.out);rintro e w48 ⟨rfl,hi,hb,hk⟩;refine⟨_,rfl,?_⟩;replace HO_5:=ak (R_mono (R_keep (IsS95.apart (show IsS95 w0 _ g s0_0 x1001_1 x1002_1 from(IsS95.now HI0.out)) (rm HO_5.out) (by decide)) hk (fun _ h=>h.2)) (fun _ h=>h.1));replace BK369:=kk BK369 hk NB369_0;replace HK:=ak (KeepBut.trans (kn HK.out) hk (.inl rfl));replace HB:=ak hb;replace HI0:=ak hi;(try clear hb);(try clear hk);(try clear hi)))
  go_loopg [5] k1 (fun kq v5 w'=>∃ (x5_2:List (S63)),Aside0 (spec_l1Cur_carriers7.l1 kq x5_2 s0_0 t400 t401=some (r1,r2,r3))∧Aside0 (kq≤k1)∧Aside0 (Kd.R k63 63 w' w.heap.size (fun _=>True) v5 x5_2)∧Aside0 (w'.heap[gb369]? =some (.cells #[.int .i64 a1_0,.bool a1_1] 28 (0,0)))∧Aside0 (IsS95 w0 w' g s0_0 t400 t401)∧Aside0 (KeepBut w w' g none)∧Aside0 (Below w0.heap.size w0 w'))
  case atStart=>exact⟨(x5_1),H',⟨Nat.le_refl _⟩,⟨rm HO_5.out⟩,⟨bm BK369.out⟩,⟨(IsS95.now HI0.out)⟩,⟨(kn HK.out)⟩,⟨h2 HB.out (IsS95.ge HI0.out) GE369.out⟩⟩
  clear H'
  try clear c1
  try clear p2
  try clear c3
  try clear c4
  try clear p6
  try clear c7
  try clear c8
  try clear c9
  try clear c10
  try clear c11
  try clear c11b0
  try clear c17
  try clear c18
  try clear c31
  try clear c31b0
  try clear c31b1
  try clear c34
  try clear c36
  try clear c47
  try clear c47b0
  try clear c47b1
  try clear hcz19_0
  try clear hcz19_1
  try clear hcz37_0
  try clear hcz37_1
  try clear hfz19_0
  try clear hfz19_1
  try clear hfz37_0
  try clear hfz37_1
  try clear p2
  obtain⟨x5_2,HA,HK2,HO_5,BK369,HI0,HK,HB⟩:=hrel
  obtain _|k2:=gk;·cases HA.out
  obtain⟨H⟩:=HA
  simp only[spec_l1Cur_carriers7.l1]at H
  by_cases c49: (x5_2.length:Int)<7
  rotate_left
  ·rw[if_neg c49]at H
   have c49b0:decide ((x5_2.length:Int)<7)=false:=decide_eq_false c49
   have c49b1:decide (x5_2.length<7)=false:=decide_eq_false (by omega)
   clear c49
   simp only[Option.some.injEq,Prod.mk.injEq]at H
   obtain⟨rfl,rfl,rfl⟩:=H
   obtain⟨Ao53,co53,eo53⟩:=R_slice HO_5.out
   subst eo53
   go_wp2
   go_ret
   exact⟨_,fe,rm HO_5.out,(IsS95.now HI0.out),h2 HB.out (IsS95.ge HI0.out) GE369.out,(kn HK.out)⟩
  rw[if_pos c49]at H
  have c49b0:decide ((x5_2.length:Int)<7)=true:=decide_eq_true c49
  have c49b1:decide (x5_2.length<7)=true:=decide_eq_true (by omega)
  clear c49
  obtain⟨c50,H⟩:=gi H
  have LMc50:=Aside0.mk c50
  clear c50
  generalize hy417: (x5_2++[(⟨0,0,0⟩:S63)]:List (S63))=y417 at H
  have Ny417:=ak hy417.symm
  clear hy417
  have H':=Aside0.mk H
  clear H
  obtain⟨Ao51,co51,eo51⟩:=R_slice HO_5.out
  subst eo51
  go_wp2_with (first|((with_reducible refine gate_builtin (b:=.append) (xs:=#[.tmp 52,.tmp 54]) rfl ?_);at_builtin;refine R_append k63 w.heap.size rfl (.tmp 52) (.tmp 54) 30 63 (.agg #[(.int .i64 0),(.int .i64 0),(.int .i64 0)]) 24 rfl Try.underlying30 info63 rfl (by decide) (by omega) (.slice Ao51 x5_2.length co51) x5_2 (⟨0,0,0⟩:S63) [.int .i64 0,.int .i64 0,.int .i64 0] (fun _=>True) (fun _=>False) rfl rfl ?aP (fun _ hk=>hk.elim) ?aF ?aO (Below.refl _ _) ?aS ?aL ?_;(case aP=>exact k63_mkM _ _ _ (⟨0,0,0⟩:S63));(case aF=>exact(fun _ _=>trivial));(case aO=>exact(rm HO_5.out));(case aS=>exact(keep_size (w:=w) (g:=g) (row:=none) (kn HK.out)));(case aL=>have:=LMc50.out;omega);intro v418 w52 ho hb hg hat;rw[←Ny417.out]at ho;replace BK369:=ak (blk_grown (g:=gb369) (o:=.cells #[.int .i64 a1_0,.bool a1_1] 28 (0,0)) (bm BK369.out) hg (R_ne HO_5.out BK369.out (by decide)));replace HB:=ak (below_weaken (h2 HB.out (IsS95.ge HI0.out) GE369.out) HL.out hb);replace HI0:=ak (IsS95.grown (show IsS95 w0 _ g s0_0 t400 t401 from(IsS95.now HI0.out)) hg (IsS95.own_ne HI0.out HO_5.out (by decide)));replace HK:=ak (KeepBut.trans (kn HK.out) (KeepBut.of_grown hg g) (R_base2 HO_5.out));have HO419:=ak ho;clear HO_5;clear ho hb hg hat))
  go_roundg k2
  case measure=>have:=HK1.out;have:=HK2.out;omega
  case rel=>exact⟨(y417),H',⟨by have:=HK1.out;have:=HK2.out;omega⟩,⟨rm HO419.out⟩,⟨bm BK369.out⟩,⟨(IsS95.now HI0.out)⟩,⟨(kn HK.out)⟩,⟨h2 HB.out (IsS95.ge HI0.out) GE369.out⟩⟩
 rw[if_pos c31]at H
 have c31b0: (t399==0)=true:=beq_iff_eq.mpr c31
 have c31b1: (t399 !=0)=false:=bne_eq_false_iff_eq.mpr c31
 clear c31
 generalize hy402: ([(-1),a1_0,0]:List Int)=y402 at H
 have Ny402:=ak hy402.symm
 clear hy402
 obtain⟨⟨t405,t406,t407⟩,A32,H⟩:=bd H;(try dsimp only at H)
 generalize hy408: ([48,49,(-1)]:List Int)=y408 at H
 have Ny408:=ak hy408.symm
 clear hy408
 obtain⟨⟨t411,t412,t413⟩,A33,H⟩:=bd H;(try dsimp only at H)
 obtain⟨c34,H⟩:=gi H
 have LMc34:=Aside0.mk c34
 clear c34
 generalize hy414: (x5_1++[(⟨t405,t411,0⟩:S63)]:List (S63))=y414 at H
 have Ny414:=ak hy414.symm
 clear hy414
 simp only[Option.some.injEq,Prod.mk.injEq]at H
 obtain⟨rfl,rfl,rfl⟩:=H
 go_wp2_with (first|(refine gs 32 Try.func79 #[.pointer (some ⟨g,0,none⟩),.int .i64 30] ?_;(with_reducible refine(spec_l1Cur_pick.calls g s0_0 x1001_1 x1002_1 30 t399 t400 t401 w0 _ ?side1 ?side2 A30.out).mono ?_);(case side1=>exact IsS95.now HI0.out);(case side2=>exact h2 HB.out (IsS95.ge HI0.out) GE369.out);rintro e w35 ⟨rfl,hi,hb,hk⟩;refine⟨_,rfl,?_⟩;replace HO_5:=ak (R_mono (R_keep (IsS95.apart (show IsS95 w0 _ g s0_0 x1001_1 x1002_1 from(IsS95.now HI0.out)) (rm HO_5.out) (by decide)) hk (fun _ h=>h.2)) (fun _ h=>h.1));replace BK369:=kk BK369 hk NB369_0;replace HK:=ak (KeepBut.trans (kn HK.out) hk (.inl rfl));replace HB:=ak hb;replace HI0:=ak hi;(try clear hb);(try clear hk);(try clear hi);have hnb36:=NB369_0.out;have hnc36:=NB0_369.out;have hcz37_0:=bc BK369 0 rfl;have hcz37_1:=bc BK369 1 rfl;have hfz37_0:=bf BK369 0;have hfz37_1:=bf BK369 1)|((with_reducible refine gate_dst (N:=39) rfl ?_);refine R_lit (Kd.int .i64) _ 3 ?hg (N:=39) ?hd (xs:=([(-1),a1_0,0]:List Int)) (inner:=[.int .i64 (-1),.int .i64 a1_0,.int .i64 0]) (ok:=fun _=>True) (okp:=fun _=>True) ?hr ?hp (fun _ hk=>hk) trivial (Below.refl _ _) (Nat.le_refl _) (by simp) ?_;(case hd=>rfl);(case hg=>rfl);(case hr=>first|(go_simp;done)|(go_simp;rfl));(case hp=>exact(Reps.one (show Kd.M (Kd.int .i64) _ _ _ (-1) [.int .i64 (-1)]from rfl) (Reps.one (show Kd.M (Kd.int .i64) _ _ _ a1_0 [.int .i64 a1_0]from rfl) (Reps.one (show Kd.M (Kd.int .i64) _ _ _ 0 [.int .i64 0]from rfl) (Reps.none _ _)))));intro v403 w38 ho39 hb hg_ hnew_;clear hg_ hnew_;(first|rw[←Ny402.out]at ho39|(simp only[Int.reduceToNat]at ho39;rw[←Ny402.out]at ho39));replace HO_5:=rb HO_5 hb;have HO404:=ak (R_lower ho39 (keep_size (w:=w) (g:=g) (row:=none) (kn HK.out)));replace BK369:=kb BK369 hb;replace HK:=ak (KeepBut.trans (kn HK.out) (KeepBut.of_below hb g none) (.inl rfl));replace HB:=ak (below_step (h2 HB.out (IsS95.ge HI0.out) GE369.out) hb);replace HI0:=ak (IsS95.below (g:=g) (IsS95.now HI0.out) hb);clear hb ho39;obtain⟨Ao40,co40,eo40⟩:=R_slice HO404.out;subst eo40)|(refine gs 40 Try.func82 #[.pointer (some ⟨g,0,none⟩),.slice Ao40 y402.length co40] ?_;(with_reducible refine(spec_l1Cur_among.calls g s0_0 t400 t401 _ _ y402 t405 t406 t407 w0 _ ?side1 ?side2 ?side3 ?side4 ?side5 A32.out).mono ?_);(case side1=>exact IsS95.now HI0.out);(case side2=>exact h2 HB.out (IsS95.ge HI0.out) GE369.out);(case side3=>exact cm (R_reads' HO404.out).2.2);(case side4=>exact(R_reads' HO404.out).2.1);(case side5=>exact far_slice (IsS95.own_ne HI0.out HO404.out (by decide)));rintro e w41 ⟨rfl,hi,hb,hk⟩;refine⟨_,rfl,?_⟩;replace HO_5:=ak (R_mono (R_keep (IsS95.apart (show IsS95 w0 _ g s0_0 t400 t401 from(IsS95.now HI0.out)) (rm HO_5.out) (by decide)) hk (fun _ h=>h.2)) (fun _ h=>h.1));replace BK369:=kk BK369 hk NB369_0;replace HO404:=ak (R_mono (R_keep (IsS95.apart (show IsS95 w0 _ g s0_0 t400 t401 from(IsS95.now HI0.out)) (rm HO404.out) (by decide)) hk (fun _ h=>h.2)) (fun _ h=>h.1));replace HK:=ak (KeepBut.trans (kn HK.out) hk (.inl rfl));replace HB:=ak hb;replace HI0:=ak hi;(try clear hb);(try clear hk);(try clear hi))|((with_reducible refine gate_dst (N:=42) rfl ?_);refine R_lit (Kd.int .i64) _ 3 ?hg (N:=42) ?hd (xs:=([48,49,(-1)]:List Int)) (inner:=[.int .i64 48,.int .i64 49,.int .i64 (-1)]) (ok:=fun _=>True) (okp:=fun _=>True) ?hr ?hp (fun _ hk=>hk) trivial (Below.refl _ _) (Nat.le_refl _) (by simp) ?_;(case hd=>rfl);(case hg=>rfl);(case hr=>first|(go_simp;done)|(go_simp;rfl));(case hp=>exact(Reps.one (show Kd.M (Kd.int .i64) _ _ _ 48 [.int .i64 48]from rfl) (Reps.one (show Kd.M (Kd.int .i64) _ _ _ 49 [.int .i64 49]from rfl) (Reps.one (show Kd.M (Kd.int .i64) _ _ _ (-1) [.int .i64 (-1)]from rfl) (Reps.none _ _)))));intro v409 w42 ho43 hb hg_ hnew_;clear hg_ hnew_;(first|rw[←Ny408.out]at ho43|(simp only[Int.reduceToNat]at ho43;rw[←Ny408.out]at ho43));replace HO_5:=rb HO_5 hb;have HO410:=ak (R_lower (R_new' ho43 (R_lt (rm HO404.out))) (keep_size (w:=w) (g:=g) (row:=none) (kn HK.out)));replace HO404:=ak (R_elder' (rm HO404.out) (R_base ho43) hb);replace BK369:=kb BK369 hb;replace HK:=ak (KeepBut.trans (kn HK.out) (KeepBut.of_below hb g none) (.inl rfl));replace HB:=ak (below_step (h2 HB.out (IsS95.ge HI0.out) GE369.out) hb);replace HI0:=ak (IsS95.below (g:=g) (IsS95.now HI0.out) hb);clear hb ho43;obtain⟨Ao44,co44,eo44⟩:=R_slice HO410.out;subst eo44)|(refine gs 43 Try.func82 #[.pointer (some ⟨g,0,none⟩),.slice Ao44 y408.length co44] ?_;(with_reducible refine(spec_l1Cur_among.calls g s0_0 t406 t407 _ _ y408 t411 t412 t413 w0 _ ?side1 ?side2 ?side3 ?side4 ?side5 A33.out).mono ?_);(case side1=>exact IsS95.now HI0.out);(case side2=>exact h2 HB.out (IsS95.ge HI0.out) GE369.out);(case side3=>exact cm (R_reads' HO410.out).2.2);(case side4=>exact(R_reads' HO410.out).2.1);(case side5=>exact far_slice (IsS95.own_ne HI0.out HO410.out (by decide)));rintro e w45 ⟨rfl,hi,hb,hk⟩;refine⟨_,rfl,?_⟩;replace HO_5:=ak (R_mono (R_keep (IsS95.apart (show IsS95 w0 _ g s0_0 t406 t407 from(IsS95.now HI0.out)) (rm HO_5.out) (by decide)) hk (fun _ h=>h.2)) (fun _ h=>h.1));replace BK369:=kk BK369 hk NB369_0;replace HO404:=ak (R_mono (R_keep (IsS95.apart (show IsS95 w0 _ g s0_0 t406 t407 from(IsS95.now HI0.out)) (rm HO404.out) (by decide)) hk (fun _ h=>h.2)) (fun _ h=>h.1));replace HO410:=ak (R_mono (R_keep (IsS95.apart (show IsS95 w0 _ g s0_0 t406 t407 from(IsS95.now HI0.out)) (rm HO410.out) (by decide)) hk (fun _ h=>h.2)) (fun _ h=>h.1));replace HK:=ak (KeepBut.trans (kn HK.out) hk (.inl rfl));replace HB:=ak hb;replace HI0:=ak hi;(try clear hb);(try clear hk);(try clear hi))|((with_reducible refine gate_builtin (b:=.append) (xs:=#[.tmp 35,.tmp 45]) rfl ?_);at_builtin;refine R_append k63 w.heap.size rfl (.tmp 35) (.tmp 45) 30 63 (.agg #[(.int .i64 0),(.int .i64 0),(.int .i64 0)]) 24 rfl Try.underlying30 info63 rfl (by decide) (by omega) u5 x5_1 (⟨t405,t411,0⟩:S63) [.int .i64 t405,.int .i64 t411,.int .i64 0] (fun _=>True) (fun _=>False) rfl rfl ?aP (fun _ hk=>hk.elim) ?aF ?aO (Below.refl _ _) ?aS ?aL ?_;(case aP=>exact k63_mkM _ _ _ (⟨t405,t411,0⟩:S63));(case aF=>exact(fun _ _=>trivial));(case aO=>exact(rm HO_5.out));(case aS=>exact(keep_size (w:=w) (g:=g) (row:=none) (kn HK.out)));(case aL=>have:=LMc34.out;omega);intro v415 w46 ho hb hg hat;rw[←Ny414.out]at ho;replace BK369:=ak (blk_grown (g:=gb369) (o:=.cells #[.int .i64 a1_0,.bool a1_1] 28 (0,0)) (bm BK369.out) hg (R_ne HO_5.out BK369.out (by decide)));replace HO404:=ak (R_over' (rm HO404.out) (R_typed (rm HO_5.out)) (by decide) hg);replace HO410:=ak (R_over' (rm HO410.out) (R_typed (rm HO_5.out)) (by decide) hg);replace HB:=ak (below_weaken (h2 HB.out (IsS95.ge HI0.out) GE369.out) HL.out hb);replace HI0:=ak (IsS95.grown (show IsS95 w0 _ g s0_0 t412 t413 from(IsS95.now HI0.out)) hg (IsS95.own_ne HI0.out HO_5.out (by decide)));replace HK:=ak (KeepBut.trans (kn HK.out) (KeepBut.of_grown hg g) (R_base2 HO_5.out));have HO416:=ak ho;clear HO_5;clear ho hb hg hat))
 go_ret
 exact⟨_,fe,rm HO416.out,(IsS95.now HI0.out),h2 HB.out (IsS95.ge HI0.out) GE369.out,(kn HK.out)⟩
end
end Go.Proofs.Ythagkpoinjpmfaa.QFnRelays
