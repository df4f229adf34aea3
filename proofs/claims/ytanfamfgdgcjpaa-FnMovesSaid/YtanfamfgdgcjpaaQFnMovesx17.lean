/- Functions that the law FnMoves comes to, and their walks: no condition but those named. -/
import Derived.Test.YtanfamfgdgcjpaaQFnMovesx0
import Derived.Test.YtanfamfgdgcjpaaQFnMovesx5
import Derived.Test.YtanfamfgdgcjpaaQFnMovesx6
import Derived.Test.YtanfamfgdgcjpaaQFnMovesx12
namespace Go.Proofs.Ytanfamfgdgcjpaa.QFnMoves
open Go.RowKit Go.Proofs.YtanfamfgdgcjpaaW.PrintWords Go.Proofs.YtanfamfgdgcjpaaW.PrintLast Go.Proofs.YtanfamfgdgcjpaaW.PrintMore Go.Proofs.Ytanfamfgdgcjpaa.Short
attribute [local go_sem] max2_int min2_int max_two min_two max_three min_three max_four min_four
set_option linter.unusedVariables false
set_option linter.unusedSimpArgs false
section
open Kd
mutual
def impl_CanInOrder.j0:Nat→List (S58)→Int→Bool→Int→Bool→Option (Bool × Bool)
 | 0,_,_,_,_,_=>none
 | k+1,x1,x2,x23,x382000,x382001=>if x23=true then(some (false,false))else((impl_Sensor_63.f x1).bind fun t384=>((impl_Sensor_64.f k t384 0).bind fun t387=>((slices_Repeat_int_int.f k (([(-1)]:List Int)) x382000).bind fun t391=>(if 0<(t391.length:Int)then(impl_CanInOrder.l0 k x2 (t391.set (0:Int).toNat 0) t387 (t384.length:Int) 0 x382000 x382001)else(none)))))
def impl_CanInOrder.l0:Nat→Int→List Int→List (S58)→Int→Int→Int→Bool→Option (Bool × Bool)
 | 0,_,_,_,_,_,_,_=>none
 | k+1,x2,x9,x34,x35,x36,x382000,x382001=>if x36<x35 then(if 0≤x36 then(if x36<(x34.length:Int)then((slices_Repeat_int_int.f k (([(-1)]:List Int)) x382000).bind fun t401=>(impl_CanInOrder.l1 k x2 x9 t401 (-1) x34 x35 x36 x382000 0 x382000 x382001 ((rd_T58 x34 x36).f0) ((rd_T58 x34 x36).f1)))else(none))else(none))else((slices_Max_int_int.f k x9).bind fun t395=>(some (decide (t395≥x382000),true)))
def impl_CanInOrder.l1:Nat→Int→List Int→List Int→Int→List (S58)→Int→Int→Int→Int→Int→Bool→Int→Int→Option (Bool × Bool)
 | 0,_,_,_,_,_,_,_,_,_,_,_,_,_=>none
 | k+1,x2,x9,x12,x13,x34,x35,x36,x45,x46,x382000,x382001,x398000,x398001=>if x46<x45 then(if 0≤x46 then(if x46<(x9.length:Int)then(if(mx x13 (rd x9 x46))<0 then(impl_CanInOrder.j3 k x2 x9 x12 (mx x13 (rd x9 x46)) x46 x34 x35 x36 x45 x46 true x382000 x382001 x398000 x398001)else((impl_Road_gap.f x382000 x382001 x398000 x46).bind fun t405=>(impl_CanInOrder.j3 k x2 x9 x12 (mx x13 (rd x9 x46)) x46 x34 x35 x36 x45 x46 (decide (t405>x2)) x382000 x382001 x398000 x398001)))else(none))else(none))else(impl_CanInOrder.l0 k x2 x12 x34 x35 (wrap64 (x36+1)) x382000 x382001)
def impl_CanInOrder.j3:Nat→Int→List Int→List Int→Int→Int→List (S58)→Int→Int→Int→Int→Bool→Int→Bool→Int→Int→Option (Bool × Bool)
 | 0,_,_,_,_,_,_,_,_,_,_,_,_,_,_,_=>none
 | k+1,x2,x9,x12,x13,x14,x34,x35,x36,x45,x46,x65,x382000,x382001,x398000,x398001=>if x65=true then(impl_CanInOrder.l1 k x2 x9 x12 x13 x34 x35 x36 x45 (wrap64 (x46+1)) x382000 x382001 x398000 x398001)else(if 0≤x14 then(if x14<(x12.length:Int)then((some (x12.set (x14:Int).toNat x13:List Int)).bind fun y406=>(if(wrap64 (x14-x398001))≤x13 then(impl_CanInOrder.l1 k x2 x9 (y406.set (x14:Int).toNat (mx x13 (wrap64 ((wrap64 (x14+x398001))+1)))) x13 x34 x35 x36 x45 (wrap64 (x46+1)) x382000 x382001 x398000 x398001)else(impl_CanInOrder.l1 k x2 x9 y406 x13 x34 x35 x36 x45 (wrap64 (x46+1)) x382000 x382001 x398000 x398001)))else(none))else(none))
end
def impl_CanInOrder.f (k:Nat) (a0_0:Int) (a0_1:Bool) (l1:List (S58)) (a2:Int):Option (Bool × Bool):=(impl_isGuarded.f k a0_0 a0_1 l1).bind fun t382=>(if t382=true then((impl_isMove.f a2).bind fun t383=>(impl_CanInOrder.j0 k l1 a2 (!t383) a0_0 a0_1))else(impl_CanInOrder.j0 k l1 a2 true a0_0 a0_1))
theorem impl_CanInOrder.mono_l:∀ k,(∀ y0 y1 y2 y3 y4,LeO (impl_CanInOrder.j0 k y0 y1 y2 y3 y4) (impl_CanInOrder.j0 (k+1) y0 y1 y2 y3 y4))∧(∀ y0 y1 y2 y3 y4 y5 y6,LeO (impl_CanInOrder.l0 k y0 y1 y2 y3 y4 y5 y6) (impl_CanInOrder.l0 (k+1) y0 y1 y2 y3 y4 y5 y6))∧(∀ y0 y1 y2 y3 y4 y5 y6 y7 y8 y9 y10 y11 y12,LeO (impl_CanInOrder.l1 k y0 y1 y2 y3 y4 y5 y6 y7 y8 y9 y10 y11 y12) (impl_CanInOrder.l1 (k+1) y0 y1 y2 y3 y4 y5 y6 y7 y8 y9 y10 y11 y12))∧(∀ y0 y1 y2 y3 y4 y5 y6 y7 y8 y9 y10 y11 y12 y13 y14,LeO (impl_CanInOrder.j3 k y0 y1 y2 y3 y4 y5 y6 y7 y8 y9 y10 y11 y12 y13 y14) (impl_CanInOrder.j3 (k+1) y0 y1 y2 y3 y4 y5 y6 y7 y8 y9 y10 y11 y12 y13 y14))
 | 0=>by
  refine⟨?_,?_,?_,?_⟩<;>(intros;intro r h;simp[impl_CanInOrder.j0,impl_CanInOrder.l0,impl_CanInOrder.l1,impl_CanInOrder.j3]at h)
 | k+1=>by
  obtain⟨ih0,ih1,ih2,ih3⟩:=impl_CanInOrder.mono_l k
  refine⟨?_,?_,?_,?_⟩<;>intros<;>(first|unfold impl_CanInOrder.j0|unfold impl_CanInOrder.l0|unfold impl_CanInOrder.l1|unfold impl_CanInOrder.j3)<;>(repeat' (with_reducible first|exact ih0 ..|exact ih1 ..|exact ih2 ..|exact ih3 ..|exact impl_Sensor_64.mono ..|exact impl_isGuarded.mono ..|exact slices_Max_int_int.mono ..|exact slices_Repeat_int_int.mono ..|exact LeO.refl _|exact LeO.none _|refine LeO.ite ?_ ?_|refine LeO.bind ?_ (fun _=>?_)))
theorem impl_CanInOrder.mono:∀ a0 a1 a2 a3 k,LeO (impl_CanInOrder.f k a0 a1 a2 a3) (impl_CanInOrder.f (k+1) a0 a1 a2 a3):=by
 intro a0 a1 a2 a3 k
 obtain⟨ih0,ih1,ih2,ih3⟩:=impl_CanInOrder.mono_l k
 unfold impl_CanInOrder.f
 repeat' (with_reducible first|exact ih0 ..|exact ih1 ..|exact ih2 ..|exact ih3 ..|exact impl_Sensor_64.mono ..|exact impl_isGuarded.mono ..|exact slices_Max_int_int.mono ..|exact slices_Repeat_int_int.mono ..|exact LeO.refl _|exact LeO.none _|refine LeO.ite ?_ ?_|refine LeO.bind ?_ (fun _=>?_))
set_option maxHeartbeats 8000000 in
set_option maxRecDepth 100000 in
theorem impl_CanInOrder.calls (k:Nat) (a0_0:Int) (a0_1:Bool) (A1:Option Addr) (c1:Nat) (l1:List (S58)) (a2:Int) (r1:Bool) (r2:Bool) (w:World) (hr1:Kd.C k58 w A1 l1.length l1) (hc1:l1.length≤c1) (h:impl_CanInOrder.f k a0_0 a0_1 l1 a2=some (r1,r2)):
  Calls Try.prog 31 #[.agg #[.int .i64 a0_0,.bool a0_1],.slice A1 l1.length c1,.int .i64 a2] w fun e w'=>e= .returned (.tuple #[.bool r1,.bool r2])∧Below w.heap.size w w':=by
 have HR1:=Aside0.mk hr1
 have HC1:=Aside0.mk hc1
 clear hr1 hc1
 have HB:=Aside0.mk (Below.refl w.heap.size w)
 unfold impl_CanInOrder.f at h
 have H:=h
 clear h
 have HC4:=Aside0.mk H
 clear H
 go_enter Try.func31,Try.ntmps31
 go_upto_region 1 with(first|(refine bx 3 #[.int .i64 a0_0,.bool a0_1] 27 ?_;intro gb381 hg w5 hbox hb;have BK381:=ak hbox;have GE381:=gw HB hg;replace HB:=bs HB hb;clear hb hbox hg))
 (try simp only[ap])
 go_cut [23] (fun v23 wc=>∃ (kq:Nat) (x23_3:Bool),v23= .bool x23_3∧Aside0 (impl_CanInOrder.j0 kq l1 a2 x23_3 a0_0 a0_1=some (r1,r2))∧Aside0 (kq≤k)∧Aside0 (wc.heap[gb381]? =some (.cells #[.int .i64 a0_0,.bool a0_1] 27 (0,0)))∧Aside0 (Below w.heap.size w wc))
 case first=>
  have H:=HC4.out
  clear HC4
  obtain⟨t382,A6,H⟩:=bd H;(try dsimp only at H)
  by_cases c7:t382=true
  rotate_left
  ·replace c7:=Bool.eq_false_iff.mpr c7
   subst c7
   rw[if_neg (show ¬(false=true)by decide)]at H
   have H':=Aside0.mk H
   clear H
   have hcz11_0:=bc BK381 0 rfl
   have hcz11_1:=bc BK381 1 rfl
   go_wp2_with (first|(refine gs 17 Try.func50 #[.agg #[.int .i64 a0_0,.bool a0_1],.slice A1 l1.length c1] ?_;(with_reducible refine(impl_isGuarded.calls k a0_0 a0_1 _ _ l1 false _ ?side1 ?side2 A6.out).mono ?_);(case side1=>exact cm (C_below HR1.out HB.out));(case side2=>exact HC1.out);rintro e w12 ⟨rfl,hb⟩;refine⟨_,rfl,?_⟩;replace BK381:=kb BK381 hb;replace HB:=ak (below_step (h1 HB.out GE381.out) hb);(try clear hb);(try clear hk);(try clear hi)))
   go_meet
   case rel=>exact⟨_,(true),fd,H',⟨by first|exact Nat.le_refl _|omega⟩,⟨bm BK381.out⟩,⟨h1 HB.out GE381.out⟩⟩
  subst c7
  rw[if_pos rfl]at H
  obtain⟨t383,A8,H⟩:=bd H;(try dsimp only at H)
  have H':=Aside0.mk H
  clear H
  have hcz9_0:=bc BK381 0 rfl
  have hcz9_1:=bc BK381 1 rfl
  go_wp2_with (first|(refine gs 17 Try.func50 #[.agg #[.int .i64 a0_0,.bool a0_1],.slice A1 l1.length c1] ?_;(with_reducible refine(impl_isGuarded.calls k a0_0 a0_1 _ _ l1 true _ ?side1 ?side2 A6.out).mono ?_);(case side1=>exact cm (C_below HR1.out HB.out));(case side2=>exact HC1.out);rintro e w10 ⟨rfl,hb⟩;refine⟨_,rfl,?_⟩;replace BK381:=kb BK381 hb;replace HB:=ak (below_step (h1 HB.out GE381.out) hb);(try clear hb);(try clear hk);(try clear hi))|(go_at_call 51;(with_reducible refine(impl_isMove.calls a2 t383 _ A8.out).mono ?_);rintro e w' ⟨rfl,⟨nd,rfl⟩⟩))
  go_meet
  case rel=>exact⟨_,(!t383),fd,H',⟨by first|exact Nat.le_refl _|omega⟩,⟨bm BK381.out⟩,⟨h1 HB.out GE381.out⟩⟩
 clear HC4
 obtain⟨kq,x23_3,rfl,HA,HJ3,BK381,HB⟩:=hcut
 obtain _|kj3:=kq;·cases HA.out
 obtain⟨H⟩:=HA
 simp only[impl_CanInOrder.j0]at H
 by_cases c13:x23_3=true
 ·subst c13
  rw[if_pos rfl]at H
  simp only[Option.some.injEq,Prod.mk.injEq]at H
  obtain⟨rfl,rfl⟩:=H
  go_wp2
  go_ret2
  exact⟨fe,h1 HB.out GE381.out⟩
 replace c13:=Bool.eq_false_iff.mpr c13
 subst c13
 rw[if_neg (show ¬(false=true)by decide)]at H
 obtain⟨t384,A14,H⟩:=bd H;(try dsimp only at H)
 obtain⟨t387,A15,H⟩:=bd H;(try dsimp only at H)
 generalize hy388: ([(-1)]:List Int)=y388 at H
 have Ny388:=ak hy388.symm
 clear hy388
 obtain⟨t391,A16,H⟩:=bd H;(try dsimp only at H)
 obtain⟨c17,H⟩:=gi H
 have c17b0:decide (0<(t391.length:Int))=true:=decide_eq_true c17
 clear c17
 generalize hy394: (t391.set (0:Int).toNat 0:List Int)=y394 at H
 have Ny394:=ak hy394.symm
 clear hy394
 have H':=Aside0.mk H
 clear H
 go_wp2_with (first|(refine gs 25 Try.func63 #[.slice A1 l1.length c1] ?_;(with_reducible refine(impl_Sensor_63.calls _ _ l1 t384 _ ?side1 ?side2 A14.out).mono ?_);(case side1=>exact cm (C_below HR1.out HB.out));(case side2=>exact HC1.out);rintro e w19 ⟨v385,rfl,ho0,hb⟩;refine⟨_,rfl,?_⟩;have HO386:=ak (R_lower ho0 (below_size (h1 HB.out GE381.out)));replace BK381:=kb BK381 hb;replace HB:=ak (below_step (h1 HB.out GE381.out) hb);(try clear hb);(try clear hk);(try clear hi);(try clear ho0);obtain⟨Ao20,co20,eo20⟩:=R_slice HO386.out;subst eo20)|(refine gs 27 Try.func64 #[.slice Ao20 t384.length co20,.func (.func 65) #[] #[]] ?_;(with_reducible refine(impl_Sensor_64.calls kj3 (fun k_=>some k_=(.slice Ao20 t384.length co20:Value).ownBlock) (.slice Ao20 t384.length co20) t384 0 t387 w _ ?side1 ?side2 A15.out).mono ?_);(case side1=>exact h1 HB.out GE381.out);(case side2=>exact R_tight rfl HO386.out);rintro e w21 ⟨rfl,hy0,hb,hkp⟩;refine⟨_,rfl,?_⟩;replace BK381:=ak (blk_kept (bm BK381.out) hkp (fun hs_=>(fun e_=>(R_ne HO386.out BK381.out (by decide)) e_) hs_));replace HO386:=ak (R_reok rfl hy0 (fun k_ e_=>HO386.out.1 k_ e_));replace HB:=ak hb;(try clear hb);(try clear hkp);(try clear hy0))|((with_reducible refine gate_dst (N:=28) rfl ?_);refine R_lit (Kd.int .i64) _ 3 ?hg (N:=28) ?hd (xs:=([(-1)]:List Int)) (inner:=[.int .i64 (-1)]) (ok:=fun _=>True) (okp:=fun _=>True) ?hr ?hp (fun _ hk=>hk) trivial (Below.refl _ _) (Nat.le_refl _) (by simp) ?_;(case hd=>rfl);(case hg=>rfl);(case hr=>first|(go_simp;done)|(go_simp;rfl));(case hp=>exact(Reps.one (show Kd.M (Kd.int .i64) _ _ _ (-1) [.int .i64 (-1)]from rfl) (Reps.none _ _)));intro v389 w22 ho23 hb hg_ hnew_;clear hg_ hnew_;(first|rw[←Ny388.out]at ho23|(simp only[Int.reduceToNat]at ho23;rw[←Ny388.out]at ho23));replace HO386:=rb HO386 hb;have HO390:=ak (R_lower ho23 (below_size (h1 HB.out GE381.out)));replace BK381:=kb BK381 hb;replace HB:=ak (below_step (h1 HB.out GE381.out) hb);clear hb ho23;have hcz24_0:=bc BK381 0 rfl;obtain⟨Ao25,co25,eo25⟩:=R_slice HO390.out;subst eo25)|(refine gs 31 Try.func66 #[.slice Ao25 y388.length co25,.int .i64 a0_0] ?_;(with_reducible refine(slices_Repeat_int_int.calls kj3 _ _ y388 a0_0 t391 _ ?side1 ?side2 A16.out).mono ?_);(case side1=>exact cm (R_reads' HO390.out).2.2);(case side2=>exact(R_reads' HO390.out).2.1);rintro e w26 ⟨v392,rfl,ho0,hb⟩;refine⟨_,rfl,?_⟩;replace HO386:=rb HO386 hb;have HO393:=ak (R_lower (R_new' ho0 (R_lt (rm HO390.out))) (below_size (h1 HB.out GE381.out)));replace HO390:=ak (R_elder' (rm HO390.out) (R_base ho0) hb);replace BK381:=kb BK381 hb;replace HB:=ak (below_step (h1 HB.out GE381.out) hb);(try clear hb);(try clear hk);(try clear hi);(try clear ho0);have p18:0≤(0:Int):=(by omega);have q18: (0:Int)<((t391.length:Int):Int):=od;have qi18: (0<t391.length)=True:=eq_true (by omega);obtain⟨go18,co18,eo18,gb18,gl18,cl18,HG18⟩:=R_form HO393.out (by omega);(first|cases eo18|(injection eo18 with ea_ en_ ec_;(first|subst ea_|(injection ea_ with ea_;subst ea_));subst ec_;clear en_));have GB18:=Aside0.mk gb18;clear gb18 gl18 HG18;obtain⟨hx18_0,hf18_0⟩:=R_celln 0 HO393.out (0:Int) p18 q18;(try rw[show((0:Int)).toNat=0 from rfl]at hx18_0);(try simp only[Nat.reduceMul,Nat.zero_mul,Nat.zero_add,Nat.reduceAdd]at hx18_0);(try rw[show((0:Int)).toNat=0 from rfl]at hf18_0);(try simp only[Nat.reduceMul,Nat.zero_mul,Nat.zero_add,Nat.reduceAdd]at hf18_0);replace p18:=eq_true p18;replace q18:=eq_true q18;have n_:=Aside0.mk (R_mono (ok':=(fun k_=>ob k_ (.slice Ao25 y388.length co25))) HO393.out (fun k_ hk=>hk.2));clear HO393;have HO393:=n_;clear n_;obtain⟨hy27_,hz27_⟩:=R_celln 0 HO393.out (0:Int) (by omega) (od);(try simp only[Int.reduceToNat,Int.toNat_zero,Int.toNat_ofNat,Nat.reduceMul,Nat.zero_mul,Nat.zero_add]at hy27_ hz27_);(try rw[show((0:Int)).toNat=0 from rfl]at hy27_);(try rw[show((0:Int)).toNat=0 from rfl]at hz27_);have HP27:=R_putg HO393.out (0:Int) 0)|((with_reducible refine gate_store (t:=3) (p:=33) rfl ?_);refine store_event (t:=3) (p:=33) (v:=?vo_w28) (w1:=(w26.setCell ⟨go18,(0:Int).toNat,none⟩ (.int .i64 0))) ?hg ?ho ?hn ?hr ?_;(case ho=>rfl);(case hg=>rfl);(case hn=>rfl);(case hr=>first|(go_simp;done)|(go_simp;rfl));intro w28 hw;have hg:w26.grownBy w28 (some go18):=(by rw[hw];exact HP27.2);have hp_:Kd.R (Kd.int .i64) 3 w28 w.heap.size (fun k_=>ob k_ (.slice Ao25 y388.length co25)) (.slice (some ⟨go18,0,none⟩) t391.length co18) y394:=(by rw[hw,Ny394.out];exact HP27.1);clear HP27;replace BK381:=ak (blk_grown (g:=gb381) (o:=.cells #[.int .i64 a0_0,.bool a0_1] 27 (0,0)) (bm BK381.out) hg (R_ne HO393.out BK381.out (by decide)));replace HO386:=ak (R_over' (v:=(.slice (some ⟨go18,0,none⟩) t391.length co18)) (rm HO386.out) (R_typed HO393.out) (by decide) hg);replace HO390:=ak (R_after (v:=(.slice (some ⟨go18,0,none⟩) t391.length co18)) (v1:=(.slice (some ⟨go18,0,none⟩) t391.length co18)) (ok:=(fun _=>True)) (rm HO390.out) hg (.inl rfl));replace HO393:=ak hp_;replace HB:=ak ((by rw[hw];exact below_set (HB.out) GB18.out:Below w.heap.size w w28));clear hg hw hp_))
 go_loopg [9,36] kj3 (fun kq v9 v36 w'=>∃ (x9_2:List Int) (x36_2:Int),v36= .int .i64 x36_2∧Aside0 (impl_CanInOrder.l0 kq a2 x9_2 t387 (t384.length:Int) x36_2 a0_0 a0_1=some (r1,r2))∧Aside0 (kq≤kj3)∧Aside0 (Kd.R (Kd.int .i64) 3 w' w.heap.size (fun _=>True) v9 x9_2)∧Aside0 (Kd.R k58 58 w' w.heap.size (fun _=>True) (.slice Ao20 t384.length co20) t387)∧Aside0 (w'.heap[gb381]? =some (.cells #[.int .i64 a0_0,.bool a0_1] 27 (0,0)))∧Aside0 (Below w.heap.size w w'))
 case atStart=>exact⟨(y394),(0),fd,H',⟨Nat.le_refl _⟩,⟨rm (R_mono HO393.out (fun _ hk=>trivial))⟩,⟨rm HO386.out⟩,⟨bm BK381.out⟩,⟨h1 HB.out GE381.out⟩⟩
 clear H'
 obtain⟨x9_2,x36_2,rfl,HA,HK2,HO_9,HO_34,BK381,HB⟩:=hrel
 have hl34_2:=(R_reads' HO_34.out).1
 rw[hl34_2]at HO_34
 (try simp only[hl34_2])
 (try simp only[hl34_2]at BK381)
 (try simp only[hl34_2]at HO_9)
 obtain _|k2:=gk;·cases HA.out
 obtain⟨H⟩:=HA
 simp only[impl_CanInOrder.l0]at H
 by_cases c29:x36_2<(t384.length:Int)
 rotate_left
 ·rw[if_neg c29]at H
  have c29b0:decide (x36_2<(t384.length:Int))=false:=decide_eq_false c29
  (try simp only[hl34_2]at c29b0)
  clear c29
  obtain⟨t395,A71,H⟩:=bd H;(try dsimp only at H)
  simp only[Option.some.injEq,Prod.mk.injEq]at H
  obtain⟨rfl,rfl⟩:=H
  try go_wp2
  replace HO_9:=ak (R_drew HO_9.out)
  replace HO_34:=ak (R_drew HO_34.out)
  replace BK381:=ak (blk_drew BK381.out)
  replace HB:=ak (below_drew1 HB.out)
  obtain⟨Ao73,co73,eo73⟩:=R_slice HO_9.out
  (first|subst eo73|(injection eo73 with f1_ f2_ f3_;have f4_:=f1_.symm;have f5_:=f3_.symm;clear f1_ f2_ f3_;subst f4_;subst f5_))
  refine start_ (n:=7) (S:=fun w'=>w'.cell? ⟨gb381,0,none⟩=some (.int .i64 a0_0)∧w'.cell? ⟨gb381,1,none⟩=some (.bool a0_1)) (ds:=[]) (lb 7 0) (by kernel_rfl) rfl rfl ⟨bc BK381 0 rfl,bc BK381 1 rfl⟩ (fun hHeld=>?_)
  generalize wr.drew=w72 at HO_9 HO_34 BK381 HB hHeld⊢
  refine pure_ (i:=0) (N:=some 89) (v:=?_) (a':=?_) (lb 7 1) rfl rfl (by kernel_rfl) (fun _ _ _ h=>h) (Or.inl ⟨by rfl,?_⟩) ?_ ?_
  rotate_left
  ·intro w'
   go_simp
   with_reducible rfl
  rotate_left
  ·simp only[ap]
   rfl
  refine pure_ (i:=2) (N:=some 91) (v:=?_) (a':=?_) (lb 7 5) rfl rfl (by kernel_rfl) (fun _ _ _ h=>h) (Or.inl ⟨by rfl,?_⟩) ?_ ?_
  rotate_left
  ·intro w'
   go_simp
   with_reducible rfl
  rotate_left
  ·simp only[ap]
   rfl
  refine take_ (i:=3) (N:=some 92) (v:=?_) (a':=?_) (lb 7 13) rfl rfl (by kernel_rfl) (fun _ _ _ h=>h) (Or.inl ⟨by rfl,?_⟩) hHeld ?_ ?_
  rotate_left
  ·rintro w' ⟨s0,s1⟩
   go_simp
   with_reducible rfl
  rotate_left
  ·simp only[ap]
   rfl
  refine one_ (i:=1) (N:=some 90) (lb 7 15) rfl rfl (by kernel_rfl) (by decide) (fun K hK=>?_)
  refine goes_ Try.func67 (by kernel_rfl) rfl #[.slice Ao73 x9_2.length co73] (by rfl) rfl rfl gl ?_
  with_reducible refine(slices_Max_int_int.calls k2 _ _ x9_2 t395 _ ?side1 ?side2 A71.out).mono ?_
  (case side1=>exact cm (R_reads' HO_9.out).2.2)
  (case side2=>exact(R_reads' HO_9.out).2.1)
  rintro e w74 ⟨rfl,hb⟩
  refine⟨_,rfl,?_⟩
  replace HO_9:=rb HO_9 hb
  replace HO_34:=rb HO_34 hb
  replace BK381:=kb BK381 hb
  replace HB:=ak (below_step (h1 HB.out GE381.out) hb)
  (try clear hb)
  (try clear hb2)
  (try clear hk)
  (try clear hi)
  refine hK.out _ _ ⟨bc BK381 0 rfl,bc BK381 1 rfl⟩ (fun hHeld=>?_)
  clear hK K
  refine norm_ (a':=?_) ?_ ?_
  rotate_left
  ·show Act.put _ (some 90) _=_
   simp only[ap]
   rfl
  refine pure_ (i:=4) (N:=some 93) (v:=?_) (a':=?_) (lb 7 31) rfl rfl (by kernel_rfl) (fun _ _ _ h=>h) (Or.inl ⟨by rfl,?_⟩) ?_ ?_
  rotate_left
  ·intro w'
   go_simp
   with_reducible rfl
  rotate_left
  ·simp only[ap]
   rfl
  refine pure_ (i:=5) (N:=some 6) (v:=?_) (a':=?_) (lb 7 63) rfl rfl (by kernel_rfl) (fun _ _ _ h=>h) (Or.inl ⟨by rfl,?_⟩) ?_ ?_
  rotate_left
  ·intro w'
   go_simp
   with_reducible rfl
  rotate_left
  ·simp only[ap]
   rfl
  refine pure_ (i:=6) (N:=some 7) (v:=?_) (a':=?_) (lb 7 127) rfl rfl (by kernel_rfl) (fun _ _ _ h=>h) (Or.inl ⟨by rfl,?_⟩) ?_ ?_
  rotate_left
  ·intro w'
   go_simp
   with_reducible rfl
  rotate_left
  ·simp only[ap]
   rfl
  refine done_ (by kernel_rfl) ?_
  try go_wp2
  go_ret2
  exact⟨fe,h1 HB.out GE381.out⟩
 rw[if_pos c29]at H
 have c29b0:decide (x36_2<(t384.length:Int))=true:=decide_eq_true c29
 (try simp only[hl34_2]at c29b0)
 clear c29
 obtain⟨c30,H⟩:=gi H
 have c30b0:decide (0≤x36_2)=true:=decide_eq_true c30
 clear c30
 obtain⟨c31,H⟩:=gi H
 have c31b0:decide (x36_2<(t387.length:Int))=true:=decide_eq_true c31
 (try simp only[hl34_2]at c31b0)
 clear c31
 generalize hy398: ([(-1)]:List Int)=y398 at H
 have Ny398:=ak hy398.symm
 clear hy398
 obtain⟨t401,A32,H⟩:=bd H;(try dsimp only at H)
 have H':=Aside0.mk H
 clear H
 have p396:0≤(x36_2:Int):=od
 have q396:x36_2<(t387.length:Int):=od
 obtain⟨ad396,e396,hx396_0,hx396_1⟩:=at_T58 (R_reads' HO_34.out).2.2 x36_2 p396 q396
 cases e396
 replace p396:=eq_true p396
 replace q396:=eq_true q396
 go_wp2_with (first|(refine bx 11 #[.int .i64 0,.int .i64 0] 58 ?_;intro gb397 hg w33 hbox hb;replace HO_9:=rb HO_9 hb;replace HO_34:=ak (R_below (R_elderB (rm HO_34.out) gb397 (Nat.le_of_eq hg.symm)) hb);have BK397:=ak hbox;have GE397:=ak ((by rw[hg];exact(below_size (h1 HB.out GE381.out)):w.heap.size≤gb397));replace HB:=ak (below_step (h1 HB.out GE381.out) hb);have NB381_397:=nl BK381 hg;have NB397_381:=ng BK381 hg;replace BK381:=kb BK381 hb;clear hb hbox hg;have hcz35_0:=bc BK397 0 rfl;have hcz35_1:=bc BK397 1 rfl;have hfz35_0:=bf BK397 0;have hfz35_1:=bf BK397 1)|((with_reducible refine gate_dst (N:=40) rfl ?_);refine R_lit (Kd.int .i64) _ 3 ?hg (N:=40) ?hd (xs:=([(-1)]:List Int)) (inner:=[.int .i64 (-1)]) (ok:=fun _=>True) (okp:=fun _=>True) ?hr ?hp (fun _ hk=>hk) trivial (Below.refl _ _) (Nat.le_refl _) (by simp) ?_;(case hd=>rfl);(case hg=>rfl);(case hr=>first|(go_simp;done)|(go_simp;rfl));(case hp=>exact(Reps.one (show Kd.M (Kd.int .i64) _ _ _ (-1) [.int .i64 (-1)]from rfl) (Reps.none _ _)));intro v399 w36 ho37 hb hg_ hnew_;clear hg_ hnew_;(first|rw[←Ny398.out]at ho37|(simp only[Int.reduceToNat]at ho37;rw[←Ny398.out]at ho37));replace HO_34:=ak (R_below (by(with_reducible repeat(first|apply R_alloc|apply R_drewN|apply R_drew));exact(R_mono (R_far (p:=⟨gb397,1,none⟩) (R_far (p:=⟨gb397,0,none⟩) (R_mono HO_34.out (fun k_ hk=>(⟨hk,hk.2⟩:_∧k_≠gb397))) (fun _ hk=>hk.2) (.int .i64 ((rd_T58 t387 x36_2).f0))) (fun _ hk=>hk.2) (.int .i64 ((rd_T58 t387 x36_2).f1))) (fun _ h_=>h_.1))) hb);have HO400:=ak (R_lower (R_new' ho37 (R_lt (by(with_reducible repeat(first|apply R_alloc|apply R_drewN|apply R_drew));exact(R_mono (R_far (p:=⟨gb397,1,none⟩) (R_far (p:=⟨gb397,0,none⟩) (R_types HO_9.out BK397.out (by decide)) (fun _ hk=>hk.2) (.int .i64 ((rd_T58 t387 x36_2).f0))) (fun _ hk=>hk.2) (.int .i64 ((rd_T58 t387 x36_2).f1))) (fun _ h_=>h_.1))))) (below_size (h2 HB.out GE381.out GE397.out)));replace HO_9:=ak (R_elder' (by(with_reducible repeat(first|apply R_alloc|apply R_drewN|apply R_drew));exact(R_mono (R_far (p:=⟨gb397,1,none⟩) (R_far (p:=⟨gb397,0,none⟩) (R_types HO_9.out BK397.out (by decide)) (fun _ hk=>hk.2) (.int .i64 ((rd_T58 t387 x36_2).f0))) (fun _ hk=>hk.2) (.int .i64 ((rd_T58 t387 x36_2).f1))) (fun _ h_=>h_.1))) (R_base ho37) hb);replace BK381:=ak (blk_below (g:=gb381) (o:=.cells #[.int .i64 a0_0,.bool a0_1] 27 (0,0)) (by(with_reducible repeat(first|apply blk_drewN|apply blk_drew|apply blk_alloc));refine blk_far ?_ NB381_397.out _;(with_reducible repeat(first|apply blk_drewN|apply blk_drew|apply blk_alloc));refine blk_far ?_ NB381_397.out _;exact bm BK381.out) hb);replace BK397:=ak (blk_below (g:=gb397) (o:=.cells #[.int .i64 ((rd_T58 t387 x36_2).f0),.int .i64 ((rd_T58 t387 x36_2).f1)] 58 (0,0)) (by(with_reducible repeat(first|apply blk_drewN|apply blk_drew|apply blk_alloc));refine blk_put (cs:=#[.int .i64 ((rd_T58 t387 x36_2).f0),.int .i64 0]) ?_ 1 _ rfl;(with_reducible repeat(first|apply blk_drewN|apply blk_drew|apply blk_alloc));refine blk_put (cs:=#[.int .i64 0,.int .i64 0]) ?_ 0 _ rfl;exact bm BK397.out) hb);replace HB:=ak (below_step (h2 HB.out GE381.out GE397.out) hb);clear hb ho37;have hcz38_0:=bc BK381 0 rfl;obtain⟨Ao39,co39,eo39⟩:=R_slice HO400.out;subst eo39)|(refine gs 43 Try.func66 #[.slice Ao39 y398.length co39,.int .i64 a0_0] ?_;(with_reducible refine(slices_Repeat_int_int.calls k2 _ _ y398 a0_0 t401 _ ?side1 ?side2 A32.out).mono ?_);(case side1=>exact cm (R_reads' HO400.out).2.2);(case side2=>exact(R_reads' HO400.out).2.1);rintro e w40 ⟨v402,rfl,ho0,hb⟩;refine⟨_,rfl,?_⟩;replace HO_34:=rb HO_34 hb;have HO403:=ak (R_lower (R_new' (R_new' ho0 (R_lt (rm HO_9.out))) (R_lt (rm HO400.out))) (below_size (h2 HB.out GE381.out GE397.out)));replace HO_9:=ak (R_elder' (rm HO_9.out) (R_base ho0) hb);replace HO400:=ak (R_elder' (rm HO400.out) (R_base ho0) hb);replace BK381:=kb BK381 hb;replace BK397:=kb BK397 hb;replace HB:=ak (below_step (h2 HB.out GE381.out GE397.out) hb);(try clear hb);(try clear hk);(try clear hi);(try clear ho0);have hcz41_0:=bc BK381 0 rfl))
 go_loopg [13,46] k2 (fun kq v13 v46 w'=>∃ (x12_3:List Int) (x13_3:Int) (x46_3:Int),v13= .int .i64 x13_3∧v46= .int .i64 x46_3∧Aside0 (impl_CanInOrder.l1 kq a2 x9_2 x12_3 x13_3 t387 (t384.length:Int) x36_2 a0_0 x46_3 a0_0 a0_1 ((rd_T58 t387 x36_2).f0) ((rd_T58 t387 x36_2).f1)=some (r1,r2))∧Aside0 (kq≤k2)∧Aside0 (Kd.R (Kd.int .i64) 3 w' w.heap.size (fun k_=>ob k_ v402) u9 x9_2)∧Aside0 (Kd.R (Kd.int .i64) 3 w' w.heap.size (fun k_=>ob k_ u9) v402 x12_3)∧Aside0 (Kd.R k58 58 w' w.heap.size (fun k_=>k_≠gb397) (.slice (some ad396) t387.length co20) t387)∧Aside0 (w'.heap[gb381]? =some (.cells #[.int .i64 a0_0,.bool a0_1] 27 (0,0)))∧Aside0 (w'.heap[gb397]? =some (.cells #[.int .i64 ((rd_T58 t387 x36_2).f0),.int .i64 ((rd_T58 t387 x36_2).f1)] 58 (0,0)))∧Aside0 (Below w.heap.size w w'))
 case atStart=>exact⟨(t401),((-1)),(0),fd,fd,H',⟨Nat.le_refl _⟩,⟨by(try simp only[hl34_2]);(with_reducible repeat(first|apply R_alloc|apply R_drewN|apply R_drew));exact R_mono HO_9.out (fun _ hk=>hk.2)⟩,⟨by(try simp only[hl34_2]);(with_reducible repeat(first|apply R_alloc|apply R_drewN|apply R_drew));exact R_mono HO403.out (fun _ hk=>hk.1.2)⟩,⟨by(try simp only[hl34_2]);(with_reducible repeat(first|apply R_alloc|apply R_drewN|apply R_drew));exact R_mono HO_34.out (fun _ hk=>hk.2)⟩,⟨by(try simp only[hl34_2]);exact bm BK381.out⟩,⟨by(try simp only[hl34_2]);exact bm BK397.out⟩,⟨h2 HB.out GE381.out GE397.out⟩⟩
 clear H'
 obtain⟨x12_3,x13_3,x46_3,rfl,rfl,HA,HK3,HO_9,HO_12,HO_34,BK381,BK397,HB⟩:=hrel
 obtain _|k3:=gk;·cases HA.out
 obtain⟨H⟩:=HA
 simp only[impl_CanInOrder.l1]at H
 by_cases c42:x46_3<a0_0
 rotate_left
 ·rw[if_neg c42]at H
  have c42b0:decide (x46_3<a0_0)=false:=decide_eq_false c42
  clear c42
  have H':=Aside0.mk H
  clear H
  go_wp2
  (try simp only[←hl34_2])
  go_roundg k3
  case measure=>have:=HJ3.out;have:=HK2.out;have:=HK3.out;omega
  case rel=>exact⟨(x12_3),(wrap64 (x36_2+1)),fd,H',⟨by have:=HJ3.out;have:=HK2.out;have:=HK3.out;omega⟩,⟨by(try simp only[hl34_2]);(with_reducible repeat(first|apply R_alloc|apply R_drewN|apply R_drew));exact R_mono HO_12.out (fun _ hk=>trivial)⟩,⟨by(try simp only[hl34_2]);(with_reducible repeat(first|apply R_alloc|apply R_drewN|apply R_drew));exact R_mono HO_34.out (fun _ hk=>trivial)⟩,⟨by(try simp only[hl34_2]);exact bm BK381.out⟩,⟨h2 HB.out GE381.out GE397.out⟩⟩
 rw[if_pos c42]at H
 have c42b0:decide (x46_3<a0_0)=true:=decide_eq_true c42
 clear c42
 obtain⟨c43,H⟩:=gi H
 have c43b0:decide (0≤x46_3)=true:=decide_eq_true c43
 clear c43
 obtain⟨c44,H⟩:=gi H
 have c44b0:decide (x46_3<(x9_2.length:Int))=true:=decide_eq_true c44
 (try simp only[hl34_2]at c44b0)
 clear c44
 generalize hji45: (mx x13_3 (rd x9_2 x46_3))=ji45 at H
 have hji45_: (if x13_3<(rd x9_2 x46_3)then(rd x9_2 x46_3)else x13_3)=ji45:=hji45
 have HC46:=Aside0.mk H
 clear H
 obtain⟨Ao47,co47,eo47⟩:=R_slice HO_9.out
 subst eo47
 have p404:0≤(x46_3:Int):=od
 have q404:x46_3<(x9_2.length:Int):=od
 obtain⟨ad404,e404,hx404_0⟩:=Kd.at_int (R_reads' HO_9.out).2.2 x46_3 p404 q404
 cases e404
 replace p404:=eq_true p404
 replace q404:=eq_true q404
 go_upto_region 15 with(fail)
 go_cut [65] (fun v65 wc=>∃ (kq:Nat) (x65_45:Bool),v65= .bool x65_45∧Aside0 (impl_CanInOrder.j3 kq a2 x9_2 x12_3 ji45 x46_3 t387 (t384.length:Int) x36_2 a0_0 x46_3 x65_45 a0_0 a0_1 ((rd_T58 t387 x36_2).f0) ((rd_T58 t387 x36_2).f1)=some (r1,r2))∧Aside0 (kq≤k3)∧Aside0 (Kd.R (Kd.int .i64) 3 wc w.heap.size (fun k_=>ob k_ v402) (.slice (some ad404) x9_2.length co47) x9_2)∧Aside0 (Kd.R (Kd.int .i64) 3 wc w.heap.size (fun k_=>some k_≠((.slice (some ad404) x9_2.length co47):Value).ownBlock) v402 x12_3)∧Aside0 (Kd.R k58 58 wc w.heap.size (fun k_=>k_≠gb397) (.slice (some ad396) t387.length co20) t387)∧Aside0 (wc.heap[gb381]? =some (.cells #[.int .i64 a0_0,.bool a0_1] 27 (0,0)))∧Aside0 (wc.heap[gb397]? =some (.cells #[.int .i64 ((rd_T58 t387 x36_2).f0),.int .i64 ((rd_T58 t387 x36_2).f1)] 58 (0,0)))∧Aside0 (Below w.heap.size w wc))
 case first=>
  have H:=HC46.out
  clear HC46
  by_cases c48: (ji45)<0
  ·rw[if_pos c48]at H
   have c48b0:decide ((ji45)<0)=true:=decide_eq_true c48
   clear c48
   (first|rw[c48b0]|(simp only[i64_w,i32_w];rw[c48b0])|skip)
   have H':=Aside0.mk H
   clear H
   go_wp2
   go_meet
   case rel=>exact⟨_,(true),fd,H',⟨by first|exact Nat.le_refl _|(have:=HJ3.out;have:=HK2.out;have:=HK3.out;omega)⟩,⟨by(try simp only[hl34_2]);(with_reducible repeat(first|apply R_alloc|apply R_drewN|apply R_drew));exact HO_9.out⟩,⟨by(try simp only[hl34_2]);(with_reducible repeat(first|apply R_alloc|apply R_drewN|apply R_drew));exact HO_12.out⟩,⟨by(try simp only[hl34_2]);(with_reducible repeat(first|apply R_alloc|apply R_drewN|apply R_drew));exact HO_34.out⟩,⟨by(try simp only[hl34_2]);exact bm BK381.out⟩,⟨by(try simp only[hl34_2]);exact bm BK397.out⟩,⟨h2 HB.out GE381.out GE397.out⟩⟩
  rw[if_neg c48]at H
  have c48b0:decide ((ji45)<0)=false:=decide_eq_false c48
  clear c48
  (first|rw[c48b0]|(simp only[i64_w,i32_w];rw[c48b0])|skip)
  obtain⟨t405,A49,H⟩:=bd H;(try dsimp only at H)
  have H':=Aside0.mk H
  clear H
  have hcz51_0:=bc BK381 0 rfl
  have hcz51_1:=bc BK381 1 rfl
  have hcz52_0:=bc BK397 0 rfl
  go_wp2_with (first|(go_at_call 57;(with_reducible refine(impl_Road_gap.calls a0_0 a0_1 ((rd_T58 t387 x36_2).f0) x46_3 t405 _ A49.out).mono ?_);rintro e w53 ⟨rfl,hb⟩;replace HO_9:=rb HO_9 hb;replace HO_12:=rb HO_12 hb;replace HO_34:=rb HO_34 hb;replace BK381:=kb BK381 hb;replace BK397:=kb BK397 hb;replace HB:=ak (below_step (h2 HB.out GE381.out GE397.out) hb);(try clear hb);(try clear hk);(try clear hi)))
  go_meet
  case rel=>exact⟨_,(decide (t405>a2)),fd,H',⟨by first|exact Nat.le_refl _|(have:=HJ3.out;have:=HK2.out;have:=HK3.out;omega)⟩,⟨by(try simp only[hl34_2]);(with_reducible repeat(first|apply R_alloc|apply R_drewN|apply R_drew));exact HO_9.out⟩,⟨by(try simp only[hl34_2]);(with_reducible repeat(first|apply R_alloc|apply R_drewN|apply R_drew));exact HO_12.out⟩,⟨by(try simp only[hl34_2]);(with_reducible repeat(first|apply R_alloc|apply R_drewN|apply R_drew));exact HO_34.out⟩,⟨by(try simp only[hl34_2]);exact bm BK381.out⟩,⟨by(try simp only[hl34_2]);exact bm BK397.out⟩,⟨h2 HB.out GE381.out GE397.out⟩⟩
 clear HC46
 obtain⟨kq,x65_45,rfl,HA,HJ45,HO_9,HO_12,HO_34,BK381,BK397,HB⟩:=hcut
 obtain _|kj45:=kq;·cases HA.out
 obtain⟨H⟩:=HA
 simp only[impl_CanInOrder.j3]at H
 by_cases c54:x65_45=true
 ·subst c54
  rw[if_pos rfl]at H
  have H':=Aside0.mk H
  clear H
  go_wp2
  go_roundg kj45
  case measure=>have:=HJ3.out;have:=HK2.out;have:=HK3.out;have:=HJ45.out;omega
  case rel=>exact⟨(x12_3),(ji45),(wrap64 (x46_3+1)),(by first|rfl|(simp;done)|(simp only[←hji45]<;>(first|rfl|simp))|(simp[*];done)),fd,H',⟨by have:=HJ3.out;have:=HK2.out;have:=HK3.out;have:=HJ45.out;omega⟩,⟨by(try simp only[hl34_2]);(with_reducible repeat(first|apply R_alloc|apply R_drewN|apply R_drew));exact HO_9.out⟩,⟨by(try simp only[hl34_2]);(with_reducible repeat(first|apply R_alloc|apply R_drewN|apply R_drew));exact HO_12.out⟩,⟨by(try simp only[hl34_2]);(with_reducible repeat(first|apply R_alloc|apply R_drewN|apply R_drew));exact HO_34.out⟩,⟨by(try simp only[hl34_2]);exact bm BK381.out⟩,⟨by(try simp only[hl34_2]);exact bm BK397.out⟩,⟨h2 HB.out GE381.out GE397.out⟩⟩
 replace c54:=Bool.eq_false_iff.mpr c54
 subst c54
 rw[if_neg (show ¬(false=true)by decide)]at H
 obtain⟨c55,H⟩:=gi H
 have c55b0:decide (0≤x46_3)=true:=decide_eq_true c55
 clear c55
 obtain⟨c56,H⟩:=gi H
 have c56b0:decide (x46_3<(x12_3.length:Int))=true:=decide_eq_true c56
 (try simp only[hl34_2]at c56b0)
 clear c56
 obtain⟨y406,hy406⟩:∃ y_:List Int,y_=(x12_3.set (x46_3:Int).toNat ji45):=⟨_,rfl⟩
 replace H: (if(wrap64 (x46_3-((rd_T58 t387 x36_2).f1)))≤ji45 then(impl_CanInOrder.l1 kj45 a2 x9_2 (y406.set (x46_3:Int).toNat (mx ji45 (wrap64 ((wrap64 (x46_3+((rd_T58 t387 x36_2).f1)))+1)))) ji45 t387 (t384.length:Int) x36_2 a0_0 (wrap64 (x46_3+1)) a0_0 a0_1 ((rd_T58 t387 x36_2).f0) ((rd_T58 t387 x36_2).f1))else(impl_CanInOrder.l1 kj45 a2 x9_2 y406 ji45 t387 (t384.length:Int) x36_2 a0_0 (wrap64 (x46_3+1)) a0_0 a0_1 ((rd_T58 t387 x36_2).f0) ((rd_T58 t387 x36_2).f1)))=some (r1,r2):=by subst hy406;first|(with_reducible exact H)|exact H
 have Ny406:=Aside0.mk hy406
 clear hy406
 by_cases c58: (wrap64 (x46_3-((rd_T58 t387 x36_2).f1)))≤ji45
 rotate_left
 ·rw[if_neg c58]at H
  have c58b0:decide ((wrap64 (x46_3-((rd_T58 t387 x36_2).f1)))≤ji45)=false:=decide_eq_false c58
  clear c58
  have H':=Aside0.mk H
  clear H
  have p57:0≤(x46_3:Int):=od
  have q57: (x46_3:Int)<((x12_3.length:Int):Int):=od
  obtain⟨go57,co57,eo57,gb57,gl57,cl57,HG57⟩:=R_form HO_12.out (by omega)
  (first|cases eo57|(injection eo57 with ea_ en_ ec_;(first|subst ea_|(injection ea_ with ea_;subst ea_));subst ec_;clear en_))
  have GB57:=Aside0.mk gb57
  clear gb57 gl57 HG57
  obtain⟨hx57_0,hf57_0⟩:=R_celln 0 HO_12.out (x46_3:Int) p57 q57
  replace p57:=eq_true p57
  replace q57:=eq_true q57
  have HP67:=R_putg HO_12.out (x46_3:Int) ji45
  go_wp2_with (first|((with_reducible refine gate_store (t:=3) (p:=69) rfl ?_);refine store_event (t:=3) (p:=69) (v:=?vo_w68) (w1:=(wc.setCell ⟨go57,(x46_3:Int).toNat,none⟩ (.int .i64 ji45))) ?hg ?ho ?hn ?hr ?_;(case ho=>rfl);(case hg=>rfl);(case hn=>rfl);(case hr=>first|(go_simp;done)|(go_simp;rfl));intro w68 hw;have hg:wc.grownBy w68 (some go57):=(by rw[hw];exact HP67.2);have hp_:Kd.R (Kd.int .i64) 3 w68 w.heap.size (fun k_=>some k_≠(.slice (some ad404) x9_2.length co47:Value).ownBlock) (.slice (some ⟨go57,0,none⟩) x12_3.length co57) y406:=(by rw[hw,Ny406.out];exact HP67.1);clear HP67;replace HO_9:=ak (R_after (v:=(.slice (some ⟨go57,0,none⟩) x12_3.length co57)) (v1:=(.slice (some ⟨go57,0,none⟩) x12_3.length co57)) (ok:=(fun _=>True)) (rm (R_mono HO_9.out (fun _ hk=>⟨trivial,hk⟩))) hg (.inl rfl));replace HO_34:=ak (R_over' (v:=(.slice (some ⟨go57,0,none⟩) x12_3.length co57)) (rm HO_34.out) (R_typed HO_12.out) (by decide) hg);replace BK381:=ak (blk_grown (g:=gb381) (o:=.cells #[.int .i64 a0_0,.bool a0_1] 27 (0,0)) (bm BK381.out) hg (R_ne HO_12.out BK381.out (by decide)));replace BK397:=ak (blk_grown (g:=gb397) (o:=.cells #[.int .i64 ((rd_T58 t387 x36_2).f0),.int .i64 ((rd_T58 t387 x36_2).f1)] 58 (0,0)) (bm BK397.out) hg (R_ne HO_12.out BK397.out (by decide)));replace HO_12:=ak hp_;replace HB:=ak ((by rw[hw];exact below_set (HB.out) GB57.out:Below w.heap.size w w68));clear hg hw hp_;have hcz70_1:=bc BK397 1 rfl))
  go_roundg kj45
  case measure=>have:=HJ3.out;have:=HK2.out;have:=HK3.out;have:=HJ45.out;omega
  case rel=>exact⟨(y406),(ji45),(wrap64 (x46_3+1)),(by first|rfl|(simp;done)|(simp only[←hji45]<;>(first|rfl|simp))|(simp[*];done)),fd,H',⟨by have:=HJ3.out;have:=HK2.out;have:=HK3.out;have:=HJ45.out;omega⟩,⟨by(try simp only[hl34_2]);(with_reducible repeat(first|apply R_alloc|apply R_drewN|apply R_drew));exact R_mono HO_9.out (fun _ hk=>hk.2)⟩,⟨by(try simp only[hl34_2]);(with_reducible repeat(first|apply R_alloc|apply R_drewN|apply R_drew));exact HO_12.out⟩,⟨by(try simp only[hl34_2]);(with_reducible repeat(first|apply R_alloc|apply R_drewN|apply R_drew));exact HO_34.out⟩,⟨by(try simp only[hl34_2]);exact bm BK381.out⟩,⟨by(try simp only[hl34_2]);exact bm BK397.out⟩,⟨h2 HB.out GE381.out GE397.out⟩⟩
 rw[if_pos c58]at H
 have c58b0:decide ((wrap64 (x46_3-((rd_T58 t387 x36_2).f1)))≤ji45)=true:=decide_eq_true c58
 clear c58
 generalize hji59: (mx ji45 (wrap64 ((wrap64 (x46_3+((rd_T58 t387 x36_2).f1)))+1)))=ji59 at H
 have hji59_: (if ji45<(wrap64 ((wrap64 (x46_3+((rd_T58 t387 x36_2).f1)))+1))then(wrap64 ((wrap64 (x46_3+((rd_T58 t387 x36_2).f1)))+1))else ji45)=ji59:=hji59
 generalize hy407: (y406.set (x46_3:Int).toNat (ji59):List Int)=y407 at H
 have Ny407:=ak hy407.symm
 clear hy407
 have H':=Aside0.mk H
 clear H
 have p57:0≤(x46_3:Int):=od
 have q57: (x46_3:Int)<((x12_3.length:Int):Int):=od
 obtain⟨go57,co57,eo57,gb57,gl57,cl57,HG57⟩:=R_form HO_12.out (by omega)
 (first|cases eo57|(injection eo57 with ea_ en_ ec_;(first|subst ea_|(injection ea_ with ea_;subst ea_));subst ec_;clear en_))
 have GB57:=Aside0.mk gb57
 clear gb57 gl57 HG57
 obtain⟨hx57_0,hf57_0⟩:=R_celln 0 HO_12.out (x46_3:Int) p57 q57
 replace p57:=eq_true p57
 replace q57:=eq_true q57
 have HP61:=R_putg HO_12.out (x46_3:Int) ji45
 go_wp2_with (first|((with_reducible refine gate_store (t:=3) (p:=69) rfl ?_);refine store_event (t:=3) (p:=69) (v:=?vo_w62) (w1:=(wc.setCell ⟨go57,(x46_3:Int).toNat,none⟩ (.int .i64 ji45))) ?hg ?ho ?hn ?hr ?_;(case ho=>rfl);(case hg=>rfl);(case hn=>rfl);(case hr=>first|(go_simp;done)|(go_simp;rfl));intro w62 hw;have hg:wc.grownBy w62 (some go57):=(by rw[hw];exact HP61.2);have hp_:Kd.R (Kd.int .i64) 3 w62 w.heap.size (fun k_=>some k_≠(.slice (some ad404) x9_2.length co47:Value).ownBlock) (.slice (some ⟨go57,0,none⟩) x12_3.length co57) y406:=(by rw[hw,Ny406.out];exact HP61.1);clear HP61;replace HO_9:=ak (R_after (v:=(.slice (some ⟨go57,0,none⟩) x12_3.length co57)) (v1:=(.slice (some ⟨go57,0,none⟩) x12_3.length co57)) (ok:=(fun _=>True)) (rm (R_mono HO_9.out (fun _ hk=>⟨trivial,hk⟩))) hg (.inl rfl));replace HO_34:=ak (R_over' (v:=(.slice (some ⟨go57,0,none⟩) x12_3.length co57)) (rm HO_34.out) (R_typed HO_12.out) (by decide) hg);replace BK381:=ak (blk_grown (g:=gb381) (o:=.cells #[.int .i64 a0_0,.bool a0_1] 27 (0,0)) (bm BK381.out) hg (R_ne HO_12.out BK381.out (by decide)));replace BK397:=ak (blk_grown (g:=gb397) (o:=.cells #[.int .i64 ((rd_T58 t387 x36_2).f0),.int .i64 ((rd_T58 t387 x36_2).f1)] 58 (0,0)) (bm BK397.out) hg (R_ne HO_12.out BK397.out (by decide)));replace HO_12:=ak hp_;replace HB:=ak ((by rw[hw];exact below_set (HB.out) GB57.out:Below w.heap.size w w62));clear hg hw hp_;have hcz64_1:=bc BK397 1 rfl;have p60:0≤(x46_3:Int):=od;have q60: (x46_3:Int)<((x12_3.length:Int):Int):=od;obtain⟨hx60_0,hf60_0⟩:=R_celln 0 HO_12.out (x46_3:Int) p60 q60;replace p60:=eq_true p60;replace q60:=eq_true q60;obtain⟨hy65_,hz65_⟩:=R_celln 0 HO_12.out (x46_3:Int) (od) (od);have HP65:=R_putg HO_12.out (x46_3:Int) ji59)|((with_reducible refine gate_store (t:=3) (p:=85) rfl ?_);refine store_event (t:=3) (p:=85) (v:=?vo_w66) (w1:=(w62.setCell ⟨go57,(x46_3:Int).toNat,none⟩ (.int .i64 ji59))) ?hg ?ho ?hn ?hr ?_;(case ho=>rfl);(case hg=>rfl);(case hn=>rfl);(case hr=>first|(go_simp;done)|(go_simp;rfl));intro w66 hw;have hg:w62.grownBy w66 (some go57):=(by rw[hw];exact HP65.2);have hp_:Kd.R (Kd.int .i64) 3 w66 w.heap.size (fun k_=>some k_≠(.slice (some ad404) x9_2.length co47:Value).ownBlock) (.slice (some ⟨go57,0,none⟩) x12_3.length co57) y407:=(by rw[hw,Ny407.out];exact HP65.1);clear HP65;replace HO_9:=ak (R_after (v:=(.slice (some ⟨go57,0,none⟩) x12_3.length co57)) (v1:=(.slice (some ⟨go57,0,none⟩) x12_3.length co57)) (ok:=(fun _=>True)) (rm HO_9.out) hg (.inl rfl));replace HO_34:=ak (R_over' (v:=(.slice (some ⟨go57,0,none⟩) x12_3.length co57)) (rm HO_34.out) (R_typed HO_12.out) (by decide) hg);replace BK381:=ak (blk_grown (g:=gb381) (o:=.cells #[.int .i64 a0_0,.bool a0_1] 27 (0,0)) (bm BK381.out) hg (R_ne HO_12.out BK381.out (by decide)));replace BK397:=ak (blk_grown (g:=gb397) (o:=.cells #[.int .i64 ((rd_T58 t387 x36_2).f0),.int .i64 ((rd_T58 t387 x36_2).f1)] 58 (0,0)) (bm BK397.out) hg (R_ne HO_12.out BK397.out (by decide)));replace HO_12:=ak hp_;replace HB:=ak ((by rw[hw];exact below_set (HB.out) GB57.out:Below w.heap.size w w66));clear hg hw hp_))
 go_roundg kj45
 case measure=>have:=HJ3.out;have:=HK2.out;have:=HK3.out;have:=HJ45.out;omega
 case rel=>exact⟨(y407),(ji45),(wrap64 (x46_3+1)),(by first|rfl|(simp;done)|(simp only[←hji45]<;>(first|rfl|simp))|(simp[*];done)),fd,H',⟨by have:=HJ3.out;have:=HK2.out;have:=HK3.out;have:=HJ45.out;omega⟩,⟨by(try simp only[hl34_2]);(with_reducible repeat(first|apply R_alloc|apply R_drewN|apply R_drew));exact R_mono HO_9.out (fun _ hk=>hk.2)⟩,⟨by(try simp only[hl34_2]);(with_reducible repeat(first|apply R_alloc|apply R_drewN|apply R_drew));exact HO_12.out⟩,⟨by(try simp only[hl34_2]);(with_reducible repeat(first|apply R_alloc|apply R_drewN|apply R_drew));exact HO_34.out⟩,⟨by(try simp only[hl34_2]);exact bm BK381.out⟩,⟨by(try simp only[hl34_2]);exact bm BK397.out⟩,⟨h2 HB.out GE381.out GE397.out⟩⟩
def laws_vBig.f (l0:List Int):Option (Bool):=some (decide ((l0.length:Int)>65536))
set_option maxHeartbeats 8000000 in
set_option maxRecDepth 100000 in
theorem laws_vBig.calls (A0:Option Addr) (c0:Nat) (l0:List Int) (r:Bool) (w:World) (hr0:Kd.C (Kd.int .u8) w A0 l0.length l0) (hc0:l0.length≤c0) (h:laws_vBig.f l0=some r):
  Calls Try.prog 32 #[.slice A0 l0.length c0] w fun e w'=>e= .returned (.bool r)∧Drawn0 w w':=by
 clear hr0 hc0
 unfold laws_vBig.f at h
 have H:=h
 clear h
 obtain rfl:=Option.some.inj H
 go_enter Try.func32,Try.ntmps32
 go_wp2
 go_ret
 exact⟨by first|rfl|(simp;done)|(simp[*];done),by repeat(first|exact Drawn0.refl _|apply Drawn0.step)⟩
end
end Go.Proofs.Ytanfamfgdgcjpaa.QFnMoves
