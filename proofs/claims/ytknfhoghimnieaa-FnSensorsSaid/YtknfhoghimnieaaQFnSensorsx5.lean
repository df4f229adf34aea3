/- Functions that the law FnSensors comes to, as Lean functions, with the proof that the Go code does what they say: written by a program of this session over the kit's print. No condition but those named. -/
import Derived.Test.YtknfhoghimnieaaQFnSensorsx0
import Derived.Test.YtknfhoghimnieaaQFnSensorsx3
import Derived.Test.YtknfhoghimnieaaQFnSensorsx4
namespace Go.Proofs.Ytknfhoghimnieaa.QFnSensors
open Go.RowKit Go.Proofs.YtknfhoghimnieaaW.PrintWords Go.Proofs.YtknfhoghimnieaaW.PrintLast Go.Proofs.YtknfhoghimnieaaW.PrintMore Go.Proofs.Ytknfhoghimnieaa.Short
attribute [local go_sem] max2_int min2_int max_two min_two max_three min_three max_four min_four   -- for this text's walks alone
set_option linter.unusedVariables false
set_option linter.unusedSimpArgs false

section
open Kd
/-! ### spec_MirrorSensors: function 16 -/
def spec_MirrorSensors.l0 : Nat → List (S59) → List (S59) → Int → Int → Bool → Option ((List (S59)) × Bool)
 | 0,_,_,_,_,_=>none
 | k + 1,x1,x6,x7,x135000,x135001=>if x7 < (x1.length : Int) then (if 0 ≤ x7 then (if x6.length < 8796093022208 then (spec_MirrorSensors.l0 k x1 (x6 ++ [(⟨wrap64 ((wrap64 (x135000 - 1)) - ((rd_T59 x1 x7).f0)),(rd_T59 x1 x7).f1⟩ : S59)]) (wrap64 (x7 + 1)) x135000 x135001) else (none)) else (none)) else (some (x6,true))
def spec_MirrorSensors.f (k : Nat) (a0_0 : Int) (a0_1 : Bool) (l1 : List (S59)) : Option ((List (S59)) × Bool):=(some (([] : List (S59)) : List (S59))).bind fun y135=>((spec_l9Sensors.f k a0_0 a0_1 l1).bind fun t138=>(if t138 = true then (spec_MirrorSensors.l0 k l1 y135 0 a0_0 a0_1) else (some (y135,false))))
theorem spec_MirrorSensors.mono_l : ∀ k,(∀ y0 y1 y2 y3 y4,LeO (spec_MirrorSensors.l0 k y0 y1 y2 y3 y4) (spec_MirrorSensors.l0 (k + 1) y0 y1 y2 y3 y4))
 | 0=>by
  refine ?_<;>(intros;intro r h;simp [spec_MirrorSensors.l0] at h)
 | k + 1=>by
  have ih0:=spec_MirrorSensors.mono_l k
  refine ?_<;>intros<;>(first|unfold spec_MirrorSensors.l0)<;>(repeat' first|(with_reducible exact ih0 ..)|(with_reducible exact spec_l9Sensors.mono _ _ _ _)|(with_reducible exact LeO.refl _)|(with_reducible exact LeO.none _)|(with_reducible refine LeO.ite ?_ ?_)|(with_reducible refine LeO.bind ?_ (fun _=>?_))|exact ih0 ..|exact spec_l9Sensors.mono _ _ _ _|exact LeO.none _|refine LeO.ite ?_ ?_|refine LeO.bind ?_ (fun _=>?_))
theorem spec_MirrorSensors.mono : ∀ a0 a1 a2 k,LeO (spec_MirrorSensors.f k a0 a1 a2) (spec_MirrorSensors.f (k + 1) a0 a1 a2):=by
 intro a0 a1 a2 k
 have ih0:=spec_MirrorSensors.mono_l k
 unfold spec_MirrorSensors.f
 repeat' first
   | (with_reducible exact ih0 _ _ _ _ _)
   | (with_reducible exact spec_l9Sensors.mono _ _ _ _)
   | (with_reducible exact LeO.refl _)
   | (with_reducible exact LeO.none _)
   | (with_reducible refine LeO.ite ?_ ?_)
   | (with_reducible refine LeO.bind ?_ (fun _=>?_))
   | exact ih0 _ _ _ _ _
   | exact spec_l9Sensors.mono _ _ _ _
   | exact LeO.none _
   | refine LeO.ite ?_ ?_
   | refine LeO.bind ?_ (fun _=>?_)
def spec_MirrorSensors.T7 : Bool × List (List Nat × List Nat):=(true,[([],[]),([],[]),([1],[1]),([2],[2]),([],[]),([],[]),([4,5],[4,5]),([6],[6]),([7],[7]),([3,8],[3,8]),([],[]),([],[]),([10,11],[10,11]),([12],[12]),([13],[13]),([9,14],[9,14]),([15],[15]),([0,16],[0,16]),([17,17,0,1,2,3,4,5,6,7,8,9,10,11,12,13,14,15,16,17],[0,17])])
def spec_MirrorSensors.B7 : List Nat:=[0,0,2,6,0,0,48,112,240,510,0,0,3072,7168,15360,32766,65534,131071,262143]
theorem spec_MirrorSensors.tab7 : rtab .any (opsOf Try.f16 7) = spec_MirrorSensors.T7:=by kernel_rfl
theorem spec_MirrorSensors.bits7 : waitsOk spec_MirrorSensors.T7.2 spec_MirrorSensors.B7 = true:=by kernel_rfl
set_option maxHeartbeats 8000000 in
set_option maxRecDepth 100000 in
theorem spec_MirrorSensors.calls (k : Nat) (a0_0 : Int) (a0_1 : Bool) (A1 : Option Addr) (c1 : Nat) (l1 : List (S59)) (r1 : List (S59)) (r2 : Bool) (w : World) (hr1 : Kd.C k59 w A1 l1.length l1) (hc1 : l1.length ≤ c1) (h : spec_MirrorSensors.f k a0_0 a0_1 l1 = some (r1,r2)) :
  Calls Try.prog 16 #[.agg #[.int .i64 a0_0,.bool a0_1],.slice A1 l1.length c1] w fun e w'=>∃ v0_ : Value,e = .returned (.tuple #[v0_,.bool r2]) ∧ Kd.R k59 59 w' w.heap.size (fun _=>True) v0_ r1 ∧ Below w.heap.size w w':=by
 have hu28:=Try.underlying28
 have hu59:=Try.underlying59
 have HR1:=Aside0.mk hr1
 have HC1:=Aside0.mk hc1
 clear hr1 hc1
 have HB:=Aside0.mk (Below.refl w.heap.size w)
 have H : ((some (([] : List (S59)) : List (S59))).bind fun y135=>((spec_l9Sensors.f k a0_0 a0_1 l1).bind fun t138=>(if t138 = true then (spec_MirrorSensors.l0 k l1 y135 0 a0_0 a0_1) else (some (y135,false))))) = some (r1,r2):=h
 clear h
 obtain ⟨y135,hy135⟩ : ∃ y_ : List (S59),y_ = (([] : List (S59))):=⟨_,rfl⟩
 replace H : ((spec_l9Sensors.f k a0_0 a0_1 l1).bind fun t138=>(if t138 = true then (spec_MirrorSensors.l0 k l1 y135 0 a0_0 a0_1) else (some (y135,false)))) = some (r1,r2):=by first|(rw [hy135];with_reducible exact H)|(have H2_:=(Option.bind_some _ _).symm.trans H;rw [hy135];with_reducible exact H2_)|(have H2_:=(Option.bind_some _ _).symm.trans H;with_reducible exact H2_)|with_reducible exact H|(rw [hy135];exact H)|exact H
 have Ny135:=Aside0.mk hy135
 clear hy135
 replace H:=Option.bind_eq_some_iff.mp H
 obtain ⟨t138,A30,H⟩:=H
 (try dsimp only at H)
 have A3:=Aside0.mk A30
 clear A30
 by_cases c4 : t138 = true
 rotate_left
 ·replace c4:=Bool.eq_false_iff.mpr c4
  subst c4
  rw [if_neg (show ¬ (false = true) by decide)] at H
  simp only [Option.some.injEq,Prod.mk.injEq] at H
  obtain ⟨rfl,rfl⟩:=H
  go_enter Try.func16,Try.ntmps16
  go_wp2_with (first|((with_reducible refine gate_dst (N:=2) rfl ?_);refine box_event ?hg (N:=2) ?hd (cs:=#[.int .i64 a0_0,.bool a0_1]) (t:=28) ?hr ?_;(case hd=>rfl);(case hg=>rfl);(case hr=>first|(go_simp;done)|(go_simp;rfl));intro gb134 hg w15 hbox hb;have BK134:=ak hbox;have GW134:=ak ((by rw [hg];exact (below_size (hm HB.out)) : w.heap.size ≤ gb134));have GE134:=ak ((by rw [hg];exact (below_size (hm HB.out)) : w.heap.size ≤ gb134));replace HB:=bs HB hb;clear hb hbox hg)|((with_reducible refine gate_dst (N:=8) rfl ?_);refine R_lit k59 _ 59 ?hg (N:=8) ?hd (xs:=([] : List (S59))) (inner:=[]) (ok:=fun _=>True) (okp:=fun _=>True) ?hr ?hp (fun _ hk=>hk) trivial (Below.refl _ _) (Nat.le_refl _) (by simp) ?_;(case hd=>rfl);(case hg=>rfl);(case hr=>first|(go_simp;done)|(go_simp;rfl));(case hp=>exact (Reps.none _ _));intro v136 w16 ho17 hb hg_ hnew_;clear hg_ hnew_;(first|rw [← Ny135.out] at ho17|(simp only [Int.reduceToNat] at ho17;rw [← Ny135.out] at ho17));have HO137:=ak (R_lower ho17 (below_size (h1 HB.out GE134.out)));replace BK134:=kb BK134 hb;replace HB:=ak (below_step (h1 HB.out GE134.out) hb);clear hb ho17;have hcz18_0 : w16.cell? ⟨gb134,0,none⟩ = some (.int .i64 a0_0):=(blk_cell BK134.out 0).trans rfl;have hcz18_1 : w16.cell? ⟨gb134,1,none⟩ = some (.bool a0_1):=(blk_cell BK134.out 1).trans rfl;have hfz18_0:=blk_frozen BK134.out 0;have hfz18_1:=blk_frozen BK134.out 1)|((with_reducible refine gate_callee (f:=43) rfl ?_);refine goesL_ (some 11) rfl rfl Try.func43 (by kernel_rfl) rfl #[.agg #[.int .i64 a0_0,.bool a0_1],.slice A1 l1.length c1] rfl gl ?_;(with_reducible refine (spec_l9Sensors.calls k a0_0 a0_1 _ _ l1 false _ ?side1 ?side2 A3.out).mono ?_);(case side1=>exact cm (C_below HR1.out HB.out));(case side2=>exact HC1.out);rintro e w19 ⟨rfl,hb⟩;refine ⟨_,rfl,?_⟩;replace HO137:=rb HO137 hb;replace BK134:=kb BK134 hb;replace HB:=ak (below_step (h1 HB.out GE134.out) hb);(try clear hb);(try clear hk);(try clear hi)))
  go_ret2
  exact ⟨_,fe,rm HO137.out,h1 HB.out GE134.out⟩
 subst c4
 rw [if_pos rfl] at H
 have H':=Aside0.mk H
 clear H
 go_enter Try.func16,Try.ntmps16
 go_wp2_with (first|((with_reducible refine gate_dst (N:=2) rfl ?_);refine box_event ?hg (N:=2) ?hd (cs:=#[.int .i64 a0_0,.bool a0_1]) (t:=28) ?hr ?_;(case hd=>rfl);(case hg=>rfl);(case hr=>first|(go_simp;done)|(go_simp;rfl));intro gb134 hg w5 hbox hb;have BK134:=ak hbox;have GW134:=ak ((by rw [hg];exact (below_size (hm HB.out)) : w.heap.size ≤ gb134));have GE134:=ak ((by rw [hg];exact (below_size (hm HB.out)) : w.heap.size ≤ gb134));replace HB:=bs HB hb;clear hb hbox hg)|((with_reducible refine gate_dst (N:=8) rfl ?_);refine R_lit k59 _ 59 ?hg (N:=8) ?hd (xs:=([] : List (S59))) (inner:=[]) (ok:=fun _=>True) (okp:=fun _=>True) ?hr ?hp (fun _ hk=>hk) trivial (Below.refl _ _) (Nat.le_refl _) (by simp) ?_;(case hd=>rfl);(case hg=>rfl);(case hr=>first|(go_simp;done)|(go_simp;rfl));(case hp=>exact (Reps.none _ _));intro v136 w6 ho7 hb hg_ hnew_;clear hg_ hnew_;(first|rw [← Ny135.out] at ho7|(simp only [Int.reduceToNat] at ho7;rw [← Ny135.out] at ho7));have HO137:=ak (R_lower ho7 (below_size (h1 HB.out GE134.out)));replace BK134:=kb BK134 hb;replace HB:=ak (below_step (h1 HB.out GE134.out) hb);clear hb ho7;have hcz8_0 : w6.cell? ⟨gb134,0,none⟩ = some (.int .i64 a0_0):=(blk_cell BK134.out 0).trans rfl;have hcz8_1 : w6.cell? ⟨gb134,1,none⟩ = some (.bool a0_1):=(blk_cell BK134.out 1).trans rfl;have hfz8_0:=blk_frozen BK134.out 0;have hfz8_1:=blk_frozen BK134.out 1)|((with_reducible refine gate_callee (f:=43) rfl ?_);refine goesL_ (some 11) rfl rfl Try.func43 (by kernel_rfl) rfl #[.agg #[.int .i64 a0_0,.bool a0_1],.slice A1 l1.length c1] rfl gl ?_;(with_reducible refine (spec_l9Sensors.calls k a0_0 a0_1 _ _ l1 true _ ?side1 ?side2 A3.out).mono ?_);(case side1=>exact cm (C_below HR1.out HB.out));(case side2=>exact HC1.out);rintro e w9 ⟨rfl,hb⟩;refine ⟨_,rfl,?_⟩;replace HO137:=rb HO137 hb;replace BK134:=kb BK134 hb;replace HB:=ak (below_step (h1 HB.out GE134.out) hb);(try clear hb);(try clear hk);(try clear hi)))
 go_loopg [6,7] k (fun kq v6 v7 w'=>∃ (x6_1 : List (S59)) (x7_1 : Int),v7 = .int .i64 x7_1 ∧ Aside0 (spec_MirrorSensors.l0 kq l1 x6_1 x7_1 a0_0 a0_1 = some (r1,r2)) ∧ Aside0 (kq ≤ k) ∧ Aside0 (Kd.R k59 59 w' w.heap.size (fun _=>True) v6 x6_1) ∧ Aside0 (w'.heap[gb134]? = some (.cells #[.int .i64 a0_0,.bool a0_1] 28 (0,0))) ∧ Aside0 (Below w.heap.size w w'))
 case atStart=>exact ⟨(y135),(0),fd,H',⟨Nat.le_refl _⟩,⟨rm HO137.out⟩,⟨bm BK134.out⟩,⟨h1 HB.out GE134.out⟩⟩
 clear H'
 try clear c1
 try clear p2
 try clear c4
 try clear hcz8_0
 try clear hcz8_1
 try clear hfz8_0
 try clear hfz8_1
 obtain ⟨x6_1,x7_1,rfl,HA,HK1,HO_6,BK134,HB⟩:=hrel
 cases gk with
 | zero=>exact absurd HA.out (by simp [spec_MirrorSensors.l0])
 | succ k1 =>
  have H:=HA.out
  clear HA
  simp only [spec_MirrorSensors.l0] at H
  by_cases c10 : x7_1 < (l1.length : Int)
  rotate_left
  ·rw [if_neg c10] at H
   have c10b0 : decide (x7_1 < (l1.length : Int)) = false:=decide_eq_false c10
   clear c10
   simp only [Option.some.injEq,Prod.mk.injEq] at H
   obtain ⟨rfl,rfl⟩:=H
   go_wp2
   go_ret2
   exact ⟨_,fe,rm HO_6.out,h1 HB.out GE134.out⟩
  rw [if_pos c10] at H
  have c10b0 : decide (x7_1 < (l1.length : Int)) = true:=decide_eq_true c10
  clear c10
  by_cases c11 : 0 ≤ x7_1
  rotate_left
  ·rw [if_neg c11] at H
   exact absurd H (by simp)
  rw [if_pos c11] at H
  have c11b0 : decide (0 ≤ x7_1) = true:=decide_eq_true c11
  clear c11
  by_cases c12 : x6_1.length < 8796093022208
  rotate_left
  ·rw [if_neg c12] at H
   exact absurd H (by simp)
  rw [if_pos c12] at H
  have LMc12:=Aside0.mk c12
  clear c12
  obtain ⟨y141,hy141⟩ : ∃ y_ : List (S59),y_ = (x6_1 ++ [(⟨wrap64 ((wrap64 (a0_0 - 1)) - ((rd_T59 l1 x7_1).f0)),(rd_T59 l1 x7_1).f1⟩ : S59)]):=⟨_,rfl⟩
  replace H : (spec_MirrorSensors.l0 k1 l1 y141 (wrap64 (x7_1 + 1)) a0_0 a0_1) = some (r1,r2):=by first|(rw [hy141];with_reducible exact H)|(have H2_:=(Option.bind_some _ _).symm.trans H;rw [hy141];with_reducible exact H2_)|(have H2_:=(Option.bind_some _ _).symm.trans H;with_reducible exact H2_)|with_reducible exact H|(rw [hy141];exact H)|exact H
  have Ny141:=Aside0.mk hy141
  clear hy141
  have H':=Aside0.mk H
  clear H
  try go_wp2
  replace HO_6:=ak (R_drew HO_6.out)
  replace BK134:=ak (blk_drew BK134.out)
  replace HB:=ak (below_drew1 HB.out)
  have p139 : 0 ≤ (x7_1 : Int):=od
  have q139 : x7_1 < (l1.length : Int):=od
  obtain ⟨ad139,e139,hx139_0,hx139_1⟩:=at_T59 HR1.out x7_1 p139 q139
  have hw139_1:=hx139_1
  have hw139_0:=hx139_0
  cases e139
  replace hx139_0:=(HB.out.cell (World.block_lt_of_cell? w _ hx139_0)).trans hx139_0
  replace hx139_1:=(HB.out.cell (World.block_lt_of_cell? w _ hx139_1)).trans hx139_1
  replace p139:=eq_true p139
  replace q139:=eq_true q139
  have p140 : 0 ≤ (x7_1 : Int):=od
  have q140 : x7_1 < (l1.length : Int):=od
  obtain ⟨ad140,e140,hx140_0,hx140_1⟩:=at_T59 HR1.out x7_1 p140 q140
  have hw140_1:=hx140_1
  have hw140_0:=hx140_0
  obtain rfl : ad139 = ad140:=(by injection e140)
  replace hx140_0:=(HB.out.cell (World.block_lt_of_cell? w _ hx140_0)).trans hx140_0
  replace hx140_1:=(HB.out.cell (World.block_lt_of_cell? w _ hx140_1)).trans hx140_1
  replace p140:=eq_true p140
  replace q140:=eq_true q140
  refine start_ (n:=19) (S:=fun w'=>w'.cell? ⟨gb134,0,none⟩ = some (.int .i64 a0_0) ∧ w'.cell? ⟨gb134,1,none⟩ = some (.bool a0_1) ∧ w'.cell? (ad139.add ((x7_1).toNat * 2)) = some (.int .i64 ((rd_T59 l1 x7_1).f0)) ∧ w'.cell? ⟨(ad139.add ((x7_1).toNat * 2)).block,(ad139.add ((x7_1).toNat * 2)).off + 1,none⟩ = some (.int .i64 ((rd_T59 l1 x7_1).f1)) ∧ w'.cell? (ad139.add ((x7_1).toNat * 2)) = some (.int .i64 ((rd_T59 l1 x7_1).f0)) ∧ w'.cell? ⟨(ad139.add ((x7_1).toNat * 2)).block,(ad139.add ((x7_1).toNat * 2)).off + 1,none⟩ = some (.int .i64 ((rd_T59 l1 x7_1).f1))) (ds:=[]) (lb 19 0) (by kernel_rfl) rfl rfl ⟨(blk_cell BK134.out 0).trans rfl,(blk_cell BK134.out 1).trans rfl,((HB.out.cell (World.block_lt_of_cell? w _ hw139_0)).trans hw139_0),((HB.out.cell (World.block_lt_of_cell? w _ hw139_1)).trans hw139_1),((HB.out.cell (World.block_lt_of_cell? w _ hw140_0)).trans hw140_0),((HB.out.cell (World.block_lt_of_cell? w _ hw140_1)).trans hw140_1)⟩ (fun hHeld=>?_);refine with_tabW spec_MirrorSensors.tab7 spec_MirrorSensors.bits7 (fun HT_ HW_=>?_)
  generalize wr.drew = w13 at HO_6 BK134 HB hx139_0 hx139_1 hx140_0 hx140_1 hHeld ⊢
  refine pu 0 (N:=some 20) (v:=?_) (a':=?_) (lb 19 1) HT_ (by kernel_rfl) rfl rfl rfl (fun _ _ _ h=>h) ?_ ?_ ?_
  rotate_left
  ·intro w'
   go_simp
   with_reducible rfl
  rotate_left
  ·simp only [ap]
   rfl
  refine pu 1 (N:=some 21) (v:=?_) (a':=?_) (lb 19 3) HT_ (by kernel_rfl) rfl rfl rfl (fun _ _ _ h=>h) ?_ ?_ ?_
  rotate_left
  ·intro w'
   go_simp
   with_reducible rfl
  rotate_left
  ·simp only [ap]
   rfl
  refine pu 4 (N:=some 24) (v:=?_) (a':=?_) (lb 19 19) HT_ (by kernel_rfl) rfl rfl rfl (fun _ _ _ h=>h) ?_ ?_ ?_
  rotate_left
  ·intro w'
   go_simp
   with_reducible rfl
  rotate_left
  ·simp only [ap]
   rfl
  refine pu 5 (N:=some 25) (v:=?_) (a':=?_) (lb 19 51) HT_ (by kernel_rfl) rfl rfl rfl (fun _ _ _ h=>h) ?_ ?_ ?_
  rotate_left
  ·intro w'
   go_simp
   with_reducible rfl
  rotate_left
  ·simp only [ap]
   rfl
  refine pu 6 (N:=some 26) (v:=?_) (a':=?_) (lb 19 115) HT_ (by kernel_rfl) rfl rfl rfl (fun _ _ _ h=>h) ?_ ?_ ?_
  rotate_left
  ·intro w'
   go_simp
   with_reducible rfl
  rotate_left
  ·simp only [ap]
   rfl
  refine pu 7 (N:=some 27) (v:=?_) (a':=?_) (lb 19 243) HT_ (by kernel_rfl) rfl rfl rfl (fun _ _ _ h=>h) ?_ ?_ ?_
  rotate_left
  ·intro w'
   go_simp
   with_reducible rfl
  rotate_left
  ·simp only [ap]
   rfl
  refine pu 10 (N:=some 30) (v:=?_) (a':=?_) (lb 19 1267) HT_ (by kernel_rfl) rfl rfl rfl (fun _ _ _ h=>h) ?_ ?_ ?_
  rotate_left
  ·intro w'
   go_simp
   with_reducible rfl
  rotate_left
  ·simp only [ap]
   rfl
  refine pu 11 (N:=some 31) (v:=?_) (a':=?_) (lb 19 3315) HT_ (by kernel_rfl) rfl rfl rfl (fun _ _ _ h=>h) ?_ ?_ ?_
  rotate_left
  ·intro w'
   go_simp
   with_reducible rfl
  rotate_left
  ·simp only [ap]
   rfl
  refine pu 12 (N:=some 32) (v:=?_) (a':=?_) (lb 19 7411) HT_ (by kernel_rfl) rfl rfl rfl (fun _ _ _ h=>h) ?_ ?_ ?_
  rotate_left
  ·intro w'
   go_simp
   with_reducible rfl
  rotate_left
  ·simp only [ap]
   rfl
  refine pu 13 (N:=some 33) (v:=?_) (a':=?_) (lb 19 15603) HT_ (by kernel_rfl) rfl rfl rfl (fun _ _ _ h=>h) ?_ ?_ ?_
  rotate_left
  ·intro w'
   go_simp
   with_reducible rfl
  rotate_left
  ·simp only [ap]
   rfl
  refine take_ (i:=2) (N:=some 22) (v:=?_) (a':=?_) (lb 19 15607) rfl rfl (take_ofW HT_.out HW_.out (by kernel_rfl)) (fun _ _ _ h=>h) (Or.inl ⟨by rfl,?_⟩) hHeld ?_ ?_
  rotate_left
  ·rintro w' ⟨s0,s1,s2,s3,s4,s5⟩
   go_simp
   with_reducible rfl
  rotate_left
  ·simp only [ap]
   rfl
  refine pu 3 (N:=some 23) (v:=?_) (a':=?_) (lb 19 15615) HT_ (by kernel_rfl) rfl rfl rfl (fun _ _ _ h=>h) ?_ ?_ ?_
  rotate_left
  ·intro w'
   go_simp
   with_reducible rfl
  rotate_left
  ·simp only [ap]
   rfl
  refine take_ (i:=8) (N:=some 28) (v:=?_) (a':=?_) (lb 19 15871) rfl rfl (take_ofW HT_.out HW_.out (by kernel_rfl)) (fun _ _ _ h=>h) (Or.inl ⟨by rfl,?_⟩) hHeld ?_ ?_
  rotate_left
  ·rintro w' ⟨s0,s1,s2,s3,s4,s5⟩
   go_simp
   with_reducible rfl
  rotate_left
  ·simp only [ap]
   rfl
  refine pu 9 (N:=some 29) (v:=?_) (a':=?_) (lb 19 16383) HT_ (by kernel_rfl) rfl rfl rfl (fun _ _ _ h=>h) ?_ ?_ ?_
  rotate_left
  ·intro w'
   go_simp
   with_reducible rfl
  rotate_left
  ·simp only [ap]
   rfl
  refine take_ (i:=14) (N:=some 34) (v:=?_) (a':=?_) (lb 19 32767) rfl rfl (take_ofW HT_.out HW_.out (by kernel_rfl)) (fun _ _ _ h=>h) (Or.inl ⟨by rfl,?_⟩) hHeld ?_ ?_
  rotate_left
  ·rintro w' ⟨s0,s1,s2,s3,s4,s5⟩
   go_simp
   with_reducible rfl
  rotate_left
  ·simp only [ap]
   rfl
  refine pu 15 (N:=some 35) (v:=?_) (a':=?_) (lb 19 65535) HT_ (by kernel_rfl) rfl rfl rfl (fun _ _ _ h=>h) ?_ ?_ ?_
  rotate_left
  ·intro w'
   go_simp
   with_reducible rfl
  rotate_left
  ·simp only [ap]
   rfl
  refine one_ (i:=16) (N:=some 36) (lb 19 131071) rfl rfl (one_of HT_.out (by kernel_rfl)) (by decide) (fun K hK=>?_)
  refine value_ (w1:=?_) (v:=?_) (by rfl) rfl ?_ ?_
  rotate_left 2
  ·go_simp
   constructor
   rotate_left
   ·rfl
   rfl
  refine hK.out _ _ ⟨(blk_cell (blk_alloc BK134.out _) 0).trans rfl,(blk_cell (blk_alloc BK134.out _) 1).trans rfl,(World.cell?_alloc_lt _ _ _ (World.block_lt_of_cell? _ _ (((HB.out.cell (World.block_lt_of_cell? w _ hw139_0)).trans hw139_0)))).trans (((HB.out.cell (World.block_lt_of_cell? w _ hw139_0)).trans hw139_0)),(World.cell?_alloc_lt _ _ _ (World.block_lt_of_cell? _ _ (((HB.out.cell (World.block_lt_of_cell? w _ hw139_1)).trans hw139_1)))).trans (((HB.out.cell (World.block_lt_of_cell? w _ hw139_1)).trans hw139_1)),(World.cell?_alloc_lt _ _ _ (World.block_lt_of_cell? _ _ (((HB.out.cell (World.block_lt_of_cell? w _ hw140_0)).trans hw140_0)))).trans (((HB.out.cell (World.block_lt_of_cell? w _ hw140_0)).trans hw140_0)),(World.cell?_alloc_lt _ _ _ (World.block_lt_of_cell? _ _ (((HB.out.cell (World.block_lt_of_cell? w _ hw140_1)).trans hw140_1)))).trans (((HB.out.cell (World.block_lt_of_cell? w _ hw140_1)).trans hw140_1))⟩ (fun hHeld=>?_)
  clear hK K
  refine norm_ (a':=?_) ?_ ?_
  rotate_left
  ·show Act.put _ (some 36) _ = _
   simp only [ap]
   rfl
  refine one_ (i:=17) (N:=some 37) (lb 19 262143) rfl rfl (one_of HT_.out (by kernel_rfl)) (by decide) (fun K hK=>?_)
  refine R_append_step k59 (w0:=w) w.heap.size (by rfl) (.tmp 20) (.tmp 36) 30 59 (.agg #[(.int .i64 0),(.int .i64 0)]) 16 rfl Try.underlying30 info59 rfl (by decide) (by omega) u6 x6_1 (⟨wrap64 ((wrap64 (a0_0 - 1)) - ((rd_T59 l1 x7_1).f0)),(rd_T59 l1 x7_1).f1⟩ : S59) [.int .i64 (wrap64 ((wrap64 (a0_0 - 1)) - ((rd_T59 l1 x7_1).f0))),.int .i64 ((rd_T59 l1 x7_1).f1)] (fun _=>True) (fun _=>False) rfl rfl ?aP (fun _ hk=>hk.elim) ?aF ?aO ?aB ?aS ?aL ?_
  (case aP=>exact k59_mkM _ _ _ (⟨wrap64 ((wrap64 (a0_0 - 1)) - ((rd_T59 l1 x7_1).f0)),(rd_T59 l1 x7_1).f1⟩ : S59))
  (case aB=>exact (h1 HB.out GE134.out))
  (case aF=>exact (fun _ _=>trivial))
  (case aO=>exact (rm HO_6.out))
  (case aS=>exact (below_size (h1 HB.out GE134.out)))
  (case aL=>have:=LMc12.out;omega)
  intro v142 w14 ho hb hg hat
  rw [← Ny141.out] at ho
  replace BK134:=ak (blk_grown (g:=gb134) (o:=.cells #[.int .i64 a0_0,.bool a0_1] 28 (0,0)) (bm BK134.out) hg (R_ne HO_6.out BK134.out (by decide)))
  replace HB:=ak hb
  have HO143:=ak ho
  clear HO_6
  clear ho hb hg hat
  refine hK.out _ _ ⟨(blk_cell BK134.out 0).trans rfl,(blk_cell BK134.out 1).trans rfl,((HB.out.cell (World.block_lt_of_cell? w _ hw139_0)).trans hw139_0),((HB.out.cell (World.block_lt_of_cell? w _ hw139_1)).trans hw139_1),((HB.out.cell (World.block_lt_of_cell? w _ hw140_0)).trans hw140_0),((HB.out.cell (World.block_lt_of_cell? w _ hw140_1)).trans hw140_1)⟩ (fun hHeld=>?_)
  clear hK K
  refine norm_ (a':=?_) ?_ ?_
  rotate_left
  ·show Act.put _ (some 37) _ = _
   simp only [ap]
   rfl
  refine pu 18 (N:=some 6) (v:=?_) (a':=?_) (lb 19 524287) HT_ (by kernel_rfl) rfl rfl rfl (fun _ _ _ h=>h) ?_ ?_ ?_
  rotate_left
  ·intro w'
   go_simp
   with_reducible rfl
  rotate_left
  ·simp only [ap]
   rfl
  refine done_ (done_of HT_.out (by kernel_rfl)) ?_
  try go_wp2
  go_roundg k1
  case measure=>have:=HK1.out;omega
  case rel=>exact ⟨(y141),(wrap64 (x7_1 + 1)),fd,H',⟨by have:=HK1.out;omega⟩,⟨rm HO143.out⟩,⟨bm BK134.out⟩,⟨h1 HB.out GE134.out⟩⟩

/-! ### impl_isGuarded: function 48 -/
def impl_isGuarded.f (k : Nat) (a0_0 : Int) (a0_1 : Bool) (l1 : List (S59)) : Option (Bool):=(impl_isLine.f a0_0 a0_1).bind fun t145=>(if t145 = true then ((impl_Road_areSensors.f k a0_0 a0_1 l1).bind fun t146=>(some t146)) else (some false))
theorem impl_isGuarded.mono : ∀ a0 a1 a2 k,LeO (impl_isGuarded.f k a0 a1 a2) (impl_isGuarded.f (k + 1) a0 a1 a2):=by
 intro a0 a1 a2 k
 unfold impl_isGuarded.f
 repeat' first
   | (with_reducible exact impl_Road_areSensors.mono _ _ _ _)
   | (with_reducible exact LeO.refl _)
   | (with_reducible exact LeO.none _)
   | (with_reducible refine LeO.ite ?_ ?_)
   | (with_reducible refine LeO.bind ?_ (fun _=>?_))
   | exact impl_Road_areSensors.mono _ _ _ _
   | exact LeO.none _
   | refine LeO.ite ?_ ?_
   | refine LeO.bind ?_ (fun _=>?_)
set_option maxHeartbeats 8000000 in
set_option maxRecDepth 100000 in
theorem impl_isGuarded.calls (k : Nat) (a0_0 : Int) (a0_1 : Bool) (A1 : Option Addr) (c1 : Nat) (l1 : List (S59)) (r : Bool) (w : World) (hr1 : Kd.C k59 w A1 l1.length l1) (hc1 : l1.length ≤ c1) (h : impl_isGuarded.f k a0_0 a0_1 l1 = some r) :
  Calls Try.prog 48 #[.agg #[.int .i64 a0_0,.bool a0_1],.slice A1 l1.length c1] w fun e w'=>e = .returned (.bool r) ∧ Below w.heap.size w w':=by
 have hu28:=Try.underlying28
 have HR1:=Aside0.mk hr1
 have HC1:=Aside0.mk hc1
 clear hr1 hc1
 have HB:=Aside0.mk (Below.refl w.heap.size w)
 have H : ((impl_isLine.f a0_0 a0_1).bind fun t145=>(if t145 = true then ((impl_Road_areSensors.f k a0_0 a0_1 l1).bind fun t146=>(some t146)) else (some false))) = some r:=h
 clear h
 replace H:=Option.bind_eq_some_iff.mp H
 obtain ⟨t145,A30,H⟩:=H
 (try dsimp only at H)
 have A3:=Aside0.mk A30
 clear A30
 by_cases c4 : t145 = true
 rotate_left
 ·replace c4:=Bool.eq_false_iff.mpr c4
  subst c4
  rw [if_neg (show ¬ (false = true) by decide)] at H
  obtain rfl:=Option.some.inj H
  go_enter Try.func48,Try.ntmps48
  go_wp2_with (first|((with_reducible refine gate_dst (N:=2) rfl ?_);refine box_event ?hg (N:=2) ?hd (cs:=#[.int .i64 a0_0,.bool a0_1]) (t:=28) ?hr ?_;(case hd=>rfl);(case hg=>rfl);(case hr=>first|(go_simp;done)|(go_simp;rfl));intro gb144 hg w11 hbox hb;have BK144:=ak hbox;have GW144:=ak ((by rw [hg];exact (below_size (hm HB.out)) : w.heap.size ≤ gb144));have GE144:=ak ((by rw [hg];exact (below_size (hm HB.out)) : w.heap.size ≤ gb144));replace HB:=bs HB hb;clear hb hbox hg;have hcz12_0 : w11.cell? ⟨gb144,0,none⟩ = some (.int .i64 a0_0):=(blk_cell BK144.out 0).trans rfl;have hcz12_1 : w11.cell? ⟨gb144,1,none⟩ = some (.bool a0_1):=(blk_cell BK144.out 1).trans rfl;have hfz12_0:=blk_frozen BK144.out 0;have hfz12_1:=blk_frozen BK144.out 1)|((with_reducible refine gate_callee (f:=45) rfl ?_);refine goesL_ (some 6) rfl rfl Try.func45 (by kernel_rfl) rfl #[.agg #[.int .i64 a0_0,.bool a0_1]] rfl gl ?_;(with_reducible refine (impl_isLine.calls a0_0 a0_1 false _ A3.out).mono ?_);rintro e w13 ⟨rfl,hb⟩;refine ⟨_,rfl,?_⟩;replace BK144:=kb BK144 hb;replace HB:=ak (below_step (h1 HB.out GE144.out) hb);(try clear hb);(try clear hk);(try clear hi)))
  go_ret
  exact ⟨fe,h1 HB.out GE144.out⟩
 subst c4
 rw [if_pos rfl] at H
 replace H:=Option.bind_eq_some_iff.mp H
 obtain ⟨t146,A50,H⟩:=H
 (try dsimp only at H)
 have A5:=Aside0.mk A50
 clear A50
 obtain rfl:=Option.some.inj H
 go_enter Try.func48,Try.ntmps48
 go_wp2_with (first|((with_reducible refine gate_dst (N:=2) rfl ?_);refine box_event ?hg (N:=2) ?hd (cs:=#[.int .i64 a0_0,.bool a0_1]) (t:=28) ?hr ?_;(case hd=>rfl);(case hg=>rfl);(case hr=>first|(go_simp;done)|(go_simp;rfl));intro gb144 hg w6 hbox hb;have BK144:=ak hbox;have GW144:=ak ((by rw [hg];exact (below_size (hm HB.out)) : w.heap.size ≤ gb144));have GE144:=ak ((by rw [hg];exact (below_size (hm HB.out)) : w.heap.size ≤ gb144));replace HB:=bs HB hb;clear hb hbox hg;have hcz7_0 : w6.cell? ⟨gb144,0,none⟩ = some (.int .i64 a0_0):=(blk_cell BK144.out 0).trans rfl;have hcz7_1 : w6.cell? ⟨gb144,1,none⟩ = some (.bool a0_1):=(blk_cell BK144.out 1).trans rfl;have hfz7_0:=blk_frozen BK144.out 0;have hfz7_1:=blk_frozen BK144.out 1)|((with_reducible refine gate_callee (f:=45) rfl ?_);refine goesL_ (some 6) rfl rfl Try.func45 (by kernel_rfl) rfl #[.agg #[.int .i64 a0_0,.bool a0_1]] rfl gl ?_;(with_reducible refine (impl_isLine.calls a0_0 a0_1 true _ A3.out).mono ?_);rintro e w8 ⟨rfl,hb⟩;refine ⟨_,rfl,?_⟩;replace BK144:=kb BK144 hb;replace HB:=ak (below_step (h1 HB.out GE144.out) hb);(try clear hb);(try clear hk);(try clear hi);have hcz9_0 : w8.cell? ⟨gb144,0,none⟩ = some (.int .i64 a0_0):=(blk_cell BK144.out 0).trans rfl;have hcz9_1 : w8.cell? ⟨gb144,1,none⟩ = some (.bool a0_1):=(blk_cell BK144.out 1).trans rfl;have hfz9_0:=blk_frozen BK144.out 0;have hfz9_1:=blk_frozen BK144.out 1)|(go_at_call 46;(with_reducible refine (impl_Road_areSensors.calls k a0_0 a0_1 _ _ l1 t146 _ ?side1 ?side2 A5.out).mono ?_);(case side1=>exact cm (C_below HR1.out HB.out));(case side2=>exact HC1.out);rintro e w10 ⟨rfl,hb⟩;replace BK144:=kb BK144 hb;replace HB:=ak (below_step (h1 HB.out GE144.out) hb);(try clear hb);(try clear hk);(try clear hi)))
 go_ret
 exact ⟨fe,h1 HB.out GE144.out⟩

/-! ### impl_Road_mirror: function 49 -/
def impl_Road_mirror.f (a0_0 : Int) (a0_1 : Bool) (a1 : Int) : Option (Int):=some (wrap64 ((wrap64 (a0_0 - 1)) - a1))
set_option maxHeartbeats 8000000 in
set_option maxRecDepth 100000 in
theorem impl_Road_mirror.calls (a0_0 : Int) (a0_1 : Bool) (a1 : Int) (r : Int) (w : World) (h : impl_Road_mirror.f a0_0 a0_1 a1 = some r) :
  Calls Try.prog 49 #[.agg #[.int .i64 a0_0,.bool a0_1],.int .i64 a1] w fun e w'=>e = .returned (.int .i64 r) ∧ Below w.heap.size w w':=by
 have hu28:=Try.underlying28
 have HB:=Aside0.mk (Below.refl w.heap.size w)
 have H : (some (wrap64 ((wrap64 (a0_0 - 1)) - a1))) = some r:=h
 clear h
 obtain rfl:=Option.some.inj H
 go_enter Try.func49,Try.ntmps49
 go_wp2_with (first|((with_reducible refine gate_dst (N:=2) rfl ?_);refine box_event ?hg (N:=2) ?hd (cs:=#[.int .i64 a0_0,.bool a0_1]) (t:=28) ?hr ?_;(case hd=>rfl);(case hg=>rfl);(case hr=>first|(go_simp;done)|(go_simp;rfl));intro gb147 hg w3 hbox hb;have BK147:=ak hbox;have GW147:=ak ((by rw [hg];exact (below_size (hm HB.out)) : w.heap.size ≤ gb147));have GE147:=ak ((by rw [hg];exact (below_size (hm HB.out)) : w.heap.size ≤ gb147));replace HB:=bs HB hb;clear hb hbox hg;have hcz4_0 : w3.cell? ⟨gb147,0,none⟩ = some (.int .i64 a0_0):=(blk_cell BK147.out 0).trans rfl;have hcz4_1 : w3.cell? ⟨gb147,1,none⟩ = some (.bool a0_1):=(blk_cell BK147.out 1).trans rfl;have hfz4_0:=blk_frozen BK147.out 0;have hfz4_1:=blk_frozen BK147.out 1))
 go_ret
 exact ⟨fe,h1 HB.out GE147.out⟩

/-! ### impl_MirrorSensors: function 17 -/
def impl_MirrorSensors.l0 : Nat → List (S59) → List (S59) → Int → Int → Int → Bool → Option ((List (S59)) × Bool)
 | 0,_,_,_,_,_,_=>none
 | k + 1,x6,x14,x15,x16,x149000,x149001=>if x16 < x15 then (if 0 ≤ x16 then (if x16 < (x14.length : Int) then ((impl_Road_mirror.f x149000 x149001 ((rd_T59 x14 x16).f0)).bind fun t155=>(if x6.length < 8796093022208 then (impl_MirrorSensors.l0 k (x6 ++ [(⟨t155,(rd_T59 x14 x16).f1⟩ : S59)]) x14 x15 (wrap64 (x16 + 1)) x149000 x149001) else (none))) else (none)) else (none)) else (some (x6,true))
def impl_MirrorSensors.f (k : Nat) (a0_0 : Int) (a0_1 : Bool) (l1 : List (S59)) : Option ((List (S59)) × Bool):=(impl_isGuarded.f k a0_0 a0_1 l1).bind fun t149=>(if t149 = true then (impl_MirrorSensors.l0 k (([] : List (S59))) l1 (l1.length : Int) 0 a0_0 a0_1) else (some (([] : List (S59)),false)))
theorem impl_MirrorSensors.mono_l : ∀ k,(∀ y0 y1 y2 y3 y4 y5,LeO (impl_MirrorSensors.l0 k y0 y1 y2 y3 y4 y5) (impl_MirrorSensors.l0 (k + 1) y0 y1 y2 y3 y4 y5))
 | 0=>by
  refine ?_<;>(intros;intro r h;simp [impl_MirrorSensors.l0] at h)
 | k + 1=>by
  have ih0:=impl_MirrorSensors.mono_l k
  refine ?_<;>intros<;>(first|unfold impl_MirrorSensors.l0)<;>(repeat' first|(with_reducible exact ih0 ..)|(with_reducible exact impl_isGuarded.mono _ _ _ _)|(with_reducible exact LeO.refl _)|(with_reducible exact LeO.none _)|(with_reducible refine LeO.ite ?_ ?_)|(with_reducible refine LeO.bind ?_ (fun _=>?_))|exact ih0 ..|exact impl_isGuarded.mono _ _ _ _|exact LeO.none _|refine LeO.ite ?_ ?_|refine LeO.bind ?_ (fun _=>?_))
theorem impl_MirrorSensors.mono : ∀ a0 a1 a2 k,LeO (impl_MirrorSensors.f k a0 a1 a2) (impl_MirrorSensors.f (k + 1) a0 a1 a2):=by
 intro a0 a1 a2 k
 have ih0:=impl_MirrorSensors.mono_l k
 unfold impl_MirrorSensors.f
 repeat' first
   | (with_reducible exact ih0 _ _ _ _ _ _)
   | (with_reducible exact impl_isGuarded.mono _ _ _ _)
   | (with_reducible exact LeO.refl _)
   | (with_reducible exact LeO.none _)
   | (with_reducible refine LeO.ite ?_ ?_)
   | (with_reducible refine LeO.bind ?_ (fun _=>?_))
   | exact ih0 _ _ _ _ _ _
   | exact impl_isGuarded.mono _ _ _ _
   | exact LeO.none _
   | refine LeO.ite ?_ ?_
   | refine LeO.bind ?_ (fun _=>?_)
def impl_MirrorSensors.T7 : Bool × List (List Nat × List Nat):=(true,[([],[]),([],[]),([],[]),([2],[2]),([1,3],[1,3]),([],[]),([5],[5]),([4,6],[4,6]),([7],[7]),([0,8,4],[0,8]),([9,9,0,1,2,3,4,5,6,7,8,9],[0,9])])
def impl_MirrorSensors.B7 : List Nat:=[0,0,0,4,14,0,32,126,254,511,1023]
theorem impl_MirrorSensors.tab7 : rtab .any (opsOf Try.f17 7) = impl_MirrorSensors.T7:=by kernel_rfl
theorem impl_MirrorSensors.bits7 : waitsOk impl_MirrorSensors.T7.2 impl_MirrorSensors.B7 = true:=by kernel_rfl
set_option maxHeartbeats 8000000 in
set_option maxRecDepth 100000 in
theorem impl_MirrorSensors.calls (k : Nat) (a0_0 : Int) (a0_1 : Bool) (A1 : Option Addr) (c1 : Nat) (l1 : List (S59)) (r1 : List (S59)) (r2 : Bool) (w : World) (hr1 : Kd.C k59 w A1 l1.length l1) (hc1 : l1.length ≤ c1) (h : impl_MirrorSensors.f k a0_0 a0_1 l1 = some (r1,r2)) :
  Calls Try.prog 17 #[.agg #[.int .i64 a0_0,.bool a0_1],.slice A1 l1.length c1] w fun e w'=>∃ v0_ : Value,e = .returned (.tuple #[v0_,.bool r2]) ∧ Kd.R k59 59 w' w.heap.size (fun _=>True) v0_ r1 ∧ Below w.heap.size w w':=by
 have hu28:=Try.underlying28
 have hu59:=Try.underlying59
 have HR1:=Aside0.mk hr1
 have HC1:=Aside0.mk hc1
 clear hr1 hc1
 have HB:=Aside0.mk (Below.refl w.heap.size w)
 have H : ((impl_isGuarded.f k a0_0 a0_1 l1).bind fun t149=>(if t149 = true then (impl_MirrorSensors.l0 k (([] : List (S59))) l1 (l1.length : Int) 0 a0_0 a0_1) else (some (([] : List (S59)),false)))) = some (r1,r2):=h
 clear h
 replace H:=Option.bind_eq_some_iff.mp H
 obtain ⟨t149,A30,H⟩:=H
 (try dsimp only at H)
 have A3:=Aside0.mk A30
 clear A30
 by_cases c4 : t149 = true
 rotate_left
 ·replace c4:=Bool.eq_false_iff.mpr c4
  subst c4
  rw [if_neg (show ¬ (false = true) by decide)] at H
  simp only [Option.some.injEq,Prod.mk.injEq] at H
  obtain ⟨rfl,rfl⟩:=H
  go_enter Try.func17,Try.ntmps17
  go_wp2_with (first|((with_reducible refine gate_dst (N:=2) rfl ?_);refine box_event ?hg (N:=2) ?hd (cs:=#[.int .i64 a0_0,.bool a0_1]) (t:=28) ?hr ?_;(case hd=>rfl);(case hg=>rfl);(case hr=>first|(go_simp;done)|(go_simp;rfl));intro gb148 hg w22 hbox hb;have BK148:=ak hbox;have GW148:=ak ((by rw [hg];exact (below_size (hm HB.out)) : w.heap.size ≤ gb148));have GE148:=ak ((by rw [hg];exact (below_size (hm HB.out)) : w.heap.size ≤ gb148));replace HB:=bs HB hb;clear hb hbox hg;have hcz23_0 : w22.cell? ⟨gb148,0,none⟩ = some (.int .i64 a0_0):=(blk_cell BK148.out 0).trans rfl;have hcz23_1 : w22.cell? ⟨gb148,1,none⟩ = some (.bool a0_1):=(blk_cell BK148.out 1).trans rfl;have hfz23_0:=blk_frozen BK148.out 0;have hfz23_1:=blk_frozen BK148.out 1)|((with_reducible refine gate_callee (f:=48) rfl ?_);refine goesL_ (some 11) rfl rfl Try.func48 (by kernel_rfl) rfl #[.agg #[.int .i64 a0_0,.bool a0_1],.slice A1 l1.length c1] rfl gl ?_;(with_reducible refine (impl_isGuarded.calls k a0_0 a0_1 _ _ l1 false _ ?side1 ?side2 A3.out).mono ?_);(case side1=>exact cm (C_below HR1.out HB.out));(case side2=>exact HC1.out);rintro e w24 ⟨rfl,hb⟩;refine ⟨_,rfl,?_⟩;replace BK148:=kb BK148 hb;replace HB:=ak (below_step (h1 HB.out GE148.out) hb);(try clear hb);(try clear hk);(try clear hi)))
  go_ret2
  exact ⟨_,fe,by first|exact R_nil _ _ _ _ _|exact Kd.N_nil _ _ _ _ _|exact Kd.V_nil _ _ _ _ _|exact Kd.Q_nil _ _ _ _ _|exact Kd.S_nil _ _ _ _ _,h1 HB.out GE148.out⟩
 subst c4
 rw [if_pos rfl] at H
 obtain ⟨y150,hy150⟩ : ∃ y_ : List (S59),y_ = (([] : List (S59))):=⟨_,rfl⟩
 replace H : (impl_MirrorSensors.l0 k y150 l1 (l1.length : Int) 0 a0_0 a0_1) = some (r1,r2):=by first|(rw [hy150];with_reducible exact H)|(have H2_:=(Option.bind_some _ _).symm.trans H;rw [hy150];with_reducible exact H2_)|(have H2_:=(Option.bind_some _ _).symm.trans H;with_reducible exact H2_)|with_reducible exact H|(rw [hy150];exact H)|exact H
 have Ny150:=Aside0.mk hy150
 clear hy150
 have H':=Aside0.mk H
 clear H
 go_enter Try.func17,Try.ntmps17
 go_wp2_with (first|((with_reducible refine gate_dst (N:=2) rfl ?_);refine box_event ?hg (N:=2) ?hd (cs:=#[.int .i64 a0_0,.bool a0_1]) (t:=28) ?hr ?_;(case hd=>rfl);(case hg=>rfl);(case hr=>first|(go_simp;done)|(go_simp;rfl));intro gb148 hg w5 hbox hb;have BK148:=ak hbox;have GW148:=ak ((by rw [hg];exact (below_size (hm HB.out)) : w.heap.size ≤ gb148));have GE148:=ak ((by rw [hg];exact (below_size (hm HB.out)) : w.heap.size ≤ gb148));replace HB:=bs HB hb;clear hb hbox hg;have hcz6_0 : w5.cell? ⟨gb148,0,none⟩ = some (.int .i64 a0_0):=(blk_cell BK148.out 0).trans rfl;have hcz6_1 : w5.cell? ⟨gb148,1,none⟩ = some (.bool a0_1):=(blk_cell BK148.out 1).trans rfl;have hfz6_0:=blk_frozen BK148.out 0;have hfz6_1:=blk_frozen BK148.out 1)|((with_reducible refine gate_callee (f:=48) rfl ?_);refine goesL_ (some 11) rfl rfl Try.func48 (by kernel_rfl) rfl #[.agg #[.int .i64 a0_0,.bool a0_1],.slice A1 l1.length c1] rfl gl ?_;(with_reducible refine (impl_isGuarded.calls k a0_0 a0_1 _ _ l1 true _ ?side1 ?side2 A3.out).mono ?_);(case side1=>exact cm (C_below HR1.out HB.out));(case side2=>exact HC1.out);rintro e w7 ⟨rfl,hb⟩;refine ⟨_,rfl,?_⟩;replace BK148:=kb BK148 hb;replace HB:=ak (below_step (h1 HB.out GE148.out) hb);(try clear hb);(try clear hk);(try clear hi))|((with_reducible refine gate_dst (N:=13) rfl ?_);refine R_lit k59 _ 59 ?hg (N:=13) ?hd (xs:=([] : List (S59))) (inner:=[]) (ok:=fun _=>True) (okp:=fun _=>True) ?hr ?hp (fun _ hk=>hk) trivial (Below.refl _ _) (Nat.le_refl _) (by simp) ?_;(case hd=>rfl);(case hg=>rfl);(case hr=>first|(go_simp;done)|(go_simp;rfl));(case hp=>exact (Reps.none _ _));intro v151 w8 ho9 hb hg_ hnew_;clear hg_ hnew_;(first|rw [← Ny150.out] at ho9|(simp only [Int.reduceToNat] at ho9;rw [← Ny150.out] at ho9));have HO152:=ak (R_lower ho9 (below_size (h1 HB.out GE148.out)));replace BK148:=kb BK148 hb;replace HB:=ak (below_step (h1 HB.out GE148.out) hb);clear hb ho9))
 go_loopg [6,16] k (fun kq v6 v16 w'=>∃ (x6_1 : List (S59)) (x16_1 : Int),v16 = .int .i64 x16_1 ∧ Aside0 (impl_MirrorSensors.l0 kq x6_1 l1 (l1.length : Int) x16_1 a0_0 a0_1 = some (r1,r2)) ∧ Aside0 (kq ≤ k) ∧ Aside0 (Kd.R k59 59 w' w.heap.size (fun _=>True) v6 x6_1) ∧ Aside0 (w'.heap[gb148]? = some (.cells #[.int .i64 a0_0,.bool a0_1] 28 (0,0))) ∧ Aside0 (Below w.heap.size w w'))
 case atStart=>exact ⟨(y150),(0),fd,H',⟨Nat.le_refl _⟩,⟨rm HO152.out⟩,⟨bm BK148.out⟩,⟨h1 HB.out GE148.out⟩⟩
 clear H'
 try clear c1
 try clear p2
 try clear c4
 try clear hcz6_0
 try clear hcz6_1
 try clear hfz6_0
 try clear hfz6_1
 obtain ⟨x6_1,x16_1,rfl,HA,HK1,HO_6,BK148,HB⟩:=hrel
 cases gk with
 | zero=>exact absurd HA.out (by simp [impl_MirrorSensors.l0])
 | succ k1 =>
  have H:=HA.out
  clear HA
  simp only [impl_MirrorSensors.l0] at H
  by_cases c10 : x16_1 < (l1.length : Int)
  rotate_left
  ·rw [if_neg c10] at H
   have c10b0 : decide (x16_1 < (l1.length : Int)) = false:=decide_eq_false c10
   clear c10
   simp only [Option.some.injEq,Prod.mk.injEq] at H
   obtain ⟨rfl,rfl⟩:=H
   go_wp2
   go_ret2
   exact ⟨_,fe,rm HO_6.out,h1 HB.out GE148.out⟩
  rw [if_pos c10] at H
  have c10b0 : decide (x16_1 < (l1.length : Int)) = true:=decide_eq_true c10
  clear c10
  by_cases c11 : 0 ≤ x16_1
  rotate_left
  ·rw [if_neg c11] at H
   exact absurd H (by simp)
  rw [if_pos c11] at H
  have c11b0 : decide (0 ≤ x16_1) = true:=decide_eq_true c11
  clear c11
  by_cases c12 : x16_1 < (l1.length : Int)
  rotate_left
  ·rw [if_neg c12] at H
   exact absurd H (by simp)
  rw [if_pos c12] at H
  have c12b0 : decide (x16_1 < (l1.length : Int)) = true:=decide_eq_true c12
  clear c12
  replace H:=Option.bind_eq_some_iff.mp H
  obtain ⟨t155,A130,H⟩:=H
  (try dsimp only at H)
  have A13:=Aside0.mk A130
  clear A130
  by_cases c14 : x6_1.length < 8796093022208
  rotate_left
  ·rw [if_neg c14] at H
   exact absurd H (by simp)
  rw [if_pos c14] at H
  have LMc14:=Aside0.mk c14
  clear c14
  obtain ⟨y156,hy156⟩ : ∃ y_ : List (S59),y_ = (x6_1 ++ [(⟨t155,(rd_T59 l1 x16_1).f1⟩ : S59)]):=⟨_,rfl⟩
  replace H : (impl_MirrorSensors.l0 k1 y156 l1 (l1.length : Int) (wrap64 (x16_1 + 1)) a0_0 a0_1) = some (r1,r2):=by first|(rw [hy156];with_reducible exact H)|(have H2_:=(Option.bind_some _ _).symm.trans H;rw [hy156];with_reducible exact H2_)|(have H2_:=(Option.bind_some _ _).symm.trans H;with_reducible exact H2_)|with_reducible exact H|(rw [hy156];exact H)|exact H
  have Ny156:=Aside0.mk hy156
  clear hy156
  have H':=Aside0.mk H
  clear H
  have p153 : 0 ≤ (x16_1 : Int):=od
  have q153 : x16_1 < (l1.length : Int):=od
  obtain ⟨ad153,e153,hx153_0,hx153_1⟩:=at_T59 HR1.out x16_1 p153 q153
  cases e153
  replace hx153_0:=(HB.out.cell (World.block_lt_of_cell? w _ hx153_0)).trans hx153_0
  replace hx153_1:=(HB.out.cell (World.block_lt_of_cell? w _ hx153_1)).trans hx153_1
  replace p153:=eq_true p153
  replace q153:=eq_true q153
  try go_wp2_with (first|((with_reducible refine gate_dst (N:=8) rfl ?_);refine box_event ?hg (N:=8) ?hd (cs:=#[.int .i64 0,.int .i64 0]) (t:=59) ?hr ?_;(case hd=>rfl);(case hg=>rfl);(case hr=>first|(go_simp;done)|(go_simp;rfl));intro gb154 hg w15 hbox hb;replace HO_6:=ak (R_below (R_elderB (rm HO_6.out) gb154 (Nat.le_of_eq hg.symm)) hb);have BK154:=ak hbox;have GW154:=ak ((by rw [hg];exact (below_size (h1 HB.out GE148.out)) : w.heap.size ≤ gb154));have GE154:=ak ((by rw [hg];exact (below_size (h1 HB.out GE148.out)) : w.heap.size ≤ gb154));replace HB:=ak (below_step (h1 HB.out GE148.out) hb);have NB148_154:=ak ((by rw [hg];exact Nat.ne_of_lt (blk_lt (g:=gb148) (o:=.cells #[.int .i64 a0_0,.bool a0_1] 28 (0,0)) (bm BK148.out)) : gb148 ≠ gb154));have NB154_148:=ak ((by rw [hg];exact Nat.ne_of_gt (blk_lt (g:=gb148) (o:=.cells #[.int .i64 a0_0,.bool a0_1] 28 (0,0)) (bm BK148.out)) : gb154 ≠ gb148));replace BK148:=kb BK148 hb;clear hb hbox hg;have hnb16:=NB154_148.out;have hnc16:=NB148_154.out;have hcz17_0 : w15.cell? ⟨gb154,0,none⟩ = some (.int .i64 0):=(blk_cell BK154.out 0).trans rfl;have hcz17_1 : w15.cell? ⟨gb154,1,none⟩ = some (.int .i64 0):=(blk_cell BK154.out 1).trans rfl;have hfz17_0:=blk_frozen BK154.out 0;have hfz17_1:=blk_frozen BK154.out 1))
  have n0_ : Aside0 (Kd.R k59 59 ((w15.setCell ⟨gb154,0,none⟩ (.int .i64 ((rd_T59 l1 x16_1).f0))).setCell ⟨gb154,1,none⟩ (.int .i64 ((rd_T59 l1 x16_1).f1))) w.heap.size (fun k_=>k_ ≠ gb154) u6 x6_1):=⟨by (with_reducible repeat (first|apply R_alloc|apply R_drewN|apply R_drew));exact R_mono (R_far (p:=⟨gb154,1,none⟩) (R_far (p:=⟨gb154,0,none⟩) (R_mono HO_6.out (fun k_ hk=>(⟨hk,hk.2⟩ : _ ∧ k_ ≠ gb154))) (fun _ hk=>hk.2) (.int .i64 ((rd_T59 l1 x16_1).f0))) (fun _ hk=>hk.2) (.int .i64 ((rd_T59 l1 x16_1).f1))) (fun _ hk=>hk.1.2)⟩
  have n1_ : Aside0 (((w15.setCell ⟨gb154,0,none⟩ (.int .i64 ((rd_T59 l1 x16_1).f0))).setCell ⟨gb154,1,none⟩ (.int .i64 ((rd_T59 l1 x16_1).f1))).heap[gb148]? = some (.cells #[.int .i64 a0_0,.bool a0_1] 28 (0,0))):=⟨by (with_reducible repeat (first|apply blk_drewN|apply blk_drew|apply blk_alloc));refine blk_far ?_ NB148_154.out _;(with_reducible repeat (first|apply blk_drewN|apply blk_drew|apply blk_alloc));refine blk_far ?_ NB148_154.out _;exact bm BK148.out⟩
  have n2_ : Aside0 (((w15.setCell ⟨gb154,0,none⟩ (.int .i64 ((rd_T59 l1 x16_1).f0))).setCell ⟨gb154,1,none⟩ (.int .i64 ((rd_T59 l1 x16_1).f1))).heap[gb154]? = some (.cells #[.int .i64 ((rd_T59 l1 x16_1).f0),.int .i64 ((rd_T59 l1 x16_1).f1)] 59 (0,0))):=⟨by (with_reducible repeat (first|apply blk_drewN|apply blk_drew|apply blk_alloc));refine blk_put (cs:=#[.int .i64 ((rd_T59 l1 x16_1).f0),.int .i64 0]) ?_ 1 _ rfl;(with_reducible repeat (first|apply blk_drewN|apply blk_drew|apply blk_alloc));refine blk_put (cs:=#[.int .i64 0,.int .i64 0]) ?_ 0 _ rfl;exact bm BK154.out⟩
  have n3_ : Aside0 (Below w.heap.size w ((w15.setCell ⟨gb154,0,none⟩ (.int .i64 ((rd_T59 l1 x16_1).f0))).setCell ⟨gb154,1,none⟩ (.int .i64 ((rd_T59 l1 x16_1).f1)))):=⟨h2 HB.out GE148.out GE154.out⟩
  (try clear HO_6)
  (try clear BK148)
  (try clear BK154)
  (try clear HB)
  generalize ((w15.setCell ⟨gb154,0,none⟩ (.int .i64 ((rd_T59 l1 x16_1).f0))).setCell ⟨gb154,1,none⟩ (.int .i64 ((rd_T59 l1 x16_1).f1))) = w18 at n0_ n1_ n2_ n3_ ⊢
  have HO_6:=n0_
  have BK148:=n1_
  have BK154:=n2_
  have HB:=n3_
  clear n0_ n1_ n2_ n3_
  replace HO_6:=ak (R_drew HO_6.out)
  replace BK148:=ak (blk_drew BK148.out)
  replace BK154:=ak (blk_drew BK154.out)
  replace HB:=ak (below_drew1 HB.out)
  refine start_ (n:=11) (S:=fun w'=>w'.cell? ⟨gb148,0,none⟩ = some (.int .i64 a0_0) ∧ w'.cell? ⟨gb148,1,none⟩ = some (.bool a0_1) ∧ w'.cell? ⟨gb154,0,none⟩ = some (.int .i64 ((rd_T59 l1 x16_1).f0)) ∧ w'.cell? ⟨gb154,1,none⟩ = some (.int .i64 ((rd_T59 l1 x16_1).f1))) (ds:=[]) (lb 11 0) (by kernel_rfl) rfl rfl ⟨(blk_cell BK148.out 0).trans rfl,(blk_cell BK148.out 1).trans rfl,(blk_cell BK154.out 0).trans rfl,(blk_cell BK154.out 1).trans rfl⟩ (fun hHeld=>?_);refine with_tabW impl_MirrorSensors.tab7 impl_MirrorSensors.bits7 (fun HT_ HW_=>?_)
  generalize w18.drew = w19 at HO_6 BK148 BK154 HB hHeld ⊢
  refine pu 0 (N:=some 20) (v:=?_) (a':=?_) (lb 11 1) HT_ (by kernel_rfl) rfl rfl rfl (fun _ _ _ h=>h) ?_ ?_ ?_
  rotate_left
  ·intro w'
   go_simp
   with_reducible rfl
  rotate_left
  ·simp only [ap]
   rfl
  refine pu 2 (N:=some 22) (v:=?_) (a':=?_) (lb 11 5) HT_ (by kernel_rfl) rfl rfl rfl (fun _ _ _ h=>h) ?_ ?_ ?_
  rotate_left
  ·intro w'
   go_simp
   with_reducible rfl
  rotate_left
  ·simp only [ap]
   rfl
  refine pu 5 (N:=some 25) (v:=?_) (a':=?_) (lb 11 37) HT_ (by kernel_rfl) rfl rfl rfl (fun _ _ _ h=>h) ?_ ?_ ?_
  rotate_left
  ·intro w'
   go_simp
   with_reducible rfl
  rotate_left
  ·simp only [ap]
   rfl
  refine take_ (i:=1) (N:=some 21) (v:=?_) (a':=?_) (lb 11 39) rfl rfl (take_ofW HT_.out HW_.out (by kernel_rfl)) (fun _ _ _ h=>h) (Or.inl ⟨by rfl,?_⟩) hHeld ?_ ?_
  rotate_left
  ·rintro w' ⟨s0,s1,s2,s3⟩
   go_simp
   with_reducible rfl
  rotate_left
  ·simp only [ap]
   rfl
  refine take_ (i:=3) (N:=some 23) (v:=?_) (a':=?_) (lb 11 47) rfl rfl (take_ofW HT_.out HW_.out (by kernel_rfl)) (fun _ _ _ h=>h) (Or.inl ⟨by rfl,?_⟩) hHeld ?_ ?_
  rotate_left
  ·rintro w' ⟨s0,s1,s2,s3⟩
   go_simp
   with_reducible rfl
  rotate_left
  ·simp only [ap]
   rfl
  refine take_ (i:=6) (N:=some 26) (v:=?_) (a':=?_) (lb 11 111) rfl rfl (take_ofW HT_.out HW_.out (by kernel_rfl)) (fun _ _ _ h=>h) (Or.inl ⟨by rfl,?_⟩) hHeld ?_ ?_
  rotate_left
  ·rintro w' ⟨s0,s1,s2,s3⟩
   go_simp
   with_reducible rfl
  rotate_left
  ·simp only [ap]
   rfl
  refine one_ (i:=4) (N:=some 24) (lb 11 127) rfl rfl (one_of HT_.out (by kernel_rfl)) (by decide) (fun K hK=>?_)
  refine goes_ Try.func49 (by kernel_rfl) rfl #[.agg #[.int .i64 a0_0,.bool a0_1],.int .i64 ((rd_T59 l1 x16_1).f0)] (by rfl) rfl rfl gl ?_
  with_reducible refine (impl_Road_mirror.calls a0_0 a0_1 ((rd_T59 l1 x16_1).f0) t155 _ A13.out).mono ?_
  rintro e w20 ⟨rfl,hb⟩
  refine ⟨_,rfl,?_⟩
  replace HO_6:=rb HO_6 hb
  replace BK148:=kb BK148 hb
  replace BK154:=kb BK154 hb
  replace HB:=ak (below_step (h2 HB.out GE148.out GE154.out) hb)
  (try clear hb)
  (try clear hb2)
  (try clear hk)
  (try clear hi)
  refine hK.out _ _ ⟨(blk_cell BK148.out 0).trans rfl,(blk_cell BK148.out 1).trans rfl,(blk_cell BK154.out 0).trans rfl,(blk_cell BK154.out 1).trans rfl⟩ (fun hHeld=>?_)
  clear hK K
  refine norm_ (a':=?_) ?_ ?_
  rotate_left
  ·show Act.put _ (some 24) _ = _
   simp only [ap]
   rfl
  refine pu 7 (N:=some 27) (v:=?_) (a':=?_) (lb 11 255) HT_ (by kernel_rfl) rfl rfl rfl (fun _ _ _ h=>h) ?_ ?_ ?_
  rotate_left
  ·intro w'
   go_simp
   with_reducible rfl
  rotate_left
  ·simp only [ap]
   rfl
  refine one_ (i:=8) (N:=some 28) (lb 11 511) rfl rfl (one_of HT_.out (by kernel_rfl)) (by decide) (fun K hK=>?_)
  refine value_ (w1:=?_) (v:=?_) (by rfl) rfl ?_ ?_
  rotate_left 2
  ·go_simp
   constructor
   rotate_left
   ·rfl
   rfl
  refine hK.out _ _ ⟨(blk_cell (blk_alloc BK148.out _) 0).trans rfl,(blk_cell (blk_alloc BK148.out _) 1).trans rfl,(blk_cell (blk_alloc BK154.out _) 0).trans rfl,(blk_cell (blk_alloc BK154.out _) 1).trans rfl⟩ (fun hHeld=>?_)
  clear hK K
  refine norm_ (a':=?_) ?_ ?_
  rotate_left
  ·show Act.put _ (some 28) _ = _
   simp only [ap]
   rfl
  refine one_ (i:=9) (N:=some 29) (lb 11 1023) rfl rfl (one_of HT_.out (by kernel_rfl)) (by decide) (fun K hK=>?_)
  refine R_append_step k59 (w0:=w) w.heap.size (by rfl) (.tmp 20) (.tmp 28) 30 59 (.agg #[(.int .i64 0),(.int .i64 0)]) 16 rfl Try.underlying30 info59 rfl (by decide) (by omega) u6 x6_1 (⟨t155,(rd_T59 l1 x16_1).f1⟩ : S59) [.int .i64 t155,.int .i64 ((rd_T59 l1 x16_1).f1)] (fun k_=>k_ ≠ gb154) (fun _=>False) rfl rfl ?aP (fun _ hk=>hk.elim) ?aF ?aO ?aB ?aS ?aL ?_
  (case aP=>exact k59_mkM _ _ _ (⟨t155,(rd_T59 l1 x16_1).f1⟩ : S59))
  (case aB=>exact (h2 HB.out GE148.out GE154.out))
  (case aF=>exact (fun k_ hk=>Kd.freshB (g:=gb154) (o:=.cells #[.int .i64 ((rd_T59 l1 x16_1).f0),.int .i64 ((rd_T59 l1 x16_1).f1)] 59 (0,0)) (bm BK154.out) k_ hk))
  (case aO=>exact (rm HO_6.out))
  (case aS=>exact (below_size (h2 HB.out GE148.out GE154.out)))
  (case aL=>have:=LMc14.out;omega)
  intro v157 w21 ho hb hg hat
  rw [← Ny156.out] at ho
  replace BK148:=ak (blk_grown (g:=gb148) (o:=.cells #[.int .i64 a0_0,.bool a0_1] 28 (0,0)) (bm BK148.out) hg (R_ne HO_6.out BK148.out (by decide)))
  replace BK154:=ak (blk_grown (g:=gb154) (o:=.cells #[.int .i64 ((rd_T59 l1 x16_1).f0),.int .i64 ((rd_T59 l1 x16_1).f1)] 59 (0,0)) (bm BK154.out) hg (R_away HO_6.out (fun _ hk=>hk)))
  replace HB:=ak hb
  have HO158:=ak ho
  clear HO_6
  clear ho hb hg hat
  refine hK.out _ _ ⟨(blk_cell BK148.out 0).trans rfl,(blk_cell BK148.out 1).trans rfl,(blk_cell BK154.out 0).trans rfl,(blk_cell BK154.out 1).trans rfl⟩ (fun hHeld=>?_)
  clear hK K
  refine norm_ (a':=?_) ?_ ?_
  rotate_left
  ·show Act.put _ (some 29) _ = _
   simp only [ap]
   rfl
  refine pu 10 (N:=some 6) (v:=?_) (a':=?_) (lb 11 2047) HT_ (by kernel_rfl) rfl rfl rfl (fun _ _ _ h=>h) ?_ ?_ ?_
  rotate_left
  ·intro w'
   go_simp
   with_reducible rfl
  rotate_left
  ·simp only [ap]
   rfl
  refine done_ (done_of HT_.out (by kernel_rfl)) ?_
  try go_wp2
  go_roundg k1
  case measure=>have:=HK1.out;omega
  case rel=>exact ⟨(y156),(wrap64 (x16_1 + 1)),fd,H',⟨by have:=HK1.out;omega⟩,⟨rm (R_mono HO158.out (fun _ hk=>trivial))⟩,⟨bm BK148.out⟩,⟨h2 HB.out GE148.out GE154.out⟩⟩

/-! ### spec_l1Least: function 63 -/
def spec_l1Least.f (a0 : Int) (a1 : Int) : Option (Int):=if a0 < a1 then (some a0) else (some a1)
set_option maxHeartbeats 8000000 in
set_option maxRecDepth 100000 in
theorem spec_l1Least.calls (a0 : Int) (a1 : Int) (r : Int) (w : World) (h : spec_l1Least.f a0 a1 = some r) :
  Calls Try.prog 63 #[.int .i64 a0,.int .i64 a1] w fun e w'=>e = .returned (.int .i64 r) ∧ Drawn0 w w':=by
 have H : (if a0 < a1 then (some a0) else (some a1)) = some r:=h
 clear h
 by_cases c3 : a0 < a1
 ·rw [if_pos c3] at H
  have c3b0 : decide (a0 < a1) = true:=decide_eq_true c3
  clear c3
  obtain rfl:=Option.some.inj H
  go_enter Try.func63,Try.ntmps63
  go_wp2
  go_ret
  exact ⟨by first|rfl|(simp;done)|(simp [*];done),by repeat (first|exact Drawn0.refl _|apply Drawn0.step)⟩
 rw [if_neg c3] at H
 have c3b0 : decide (a0 < a1) = false:=decide_eq_false c3
 clear c3
 obtain rfl:=Option.some.inj H
 go_enter Try.func63,Try.ntmps63
 go_wp2
 go_ret
 exact ⟨by first|rfl|(simp;done)|(simp [*];done),by repeat (first|exact Drawn0.refl _|apply Drawn0.step)⟩

/-! ### spec_l1Most: function 69 -/
def spec_l1Most.f (a0 : Int) (a1 : Int) : Option (Int):=if a0 > a1 then (some a0) else (some a1)
set_option maxHeartbeats 8000000 in
set_option maxRecDepth 100000 in
theorem spec_l1Most.calls (a0 : Int) (a1 : Int) (r : Int) (w : World) (h : spec_l1Most.f a0 a1 = some r) :
  Calls Try.prog 69 #[.int .i64 a0,.int .i64 a1] w fun e w'=>e = .returned (.int .i64 r) ∧ Drawn0 w w':=by
 have H : (if a0 > a1 then (some a0) else (some a1)) = some r:=h
 clear h
 by_cases c3 : a0 > a1
 ·rw [if_pos c3] at H
  have c3b0 : decide (a1 < a0) = true:=decide_eq_true c3
  clear c3
  obtain rfl:=Option.some.inj H
  go_enter Try.func69,Try.ntmps69
  go_wp2
  go_ret
  exact ⟨by first|rfl|(simp;done)|(simp [*];done),by repeat (first|exact Drawn0.refl _|apply Drawn0.step)⟩
 rw [if_neg c3] at H
 have c3b0 : decide (a1 < a0) = false:=decide_eq_false c3
 clear c3
 obtain rfl:=Option.some.inj H
 go_enter Try.func69,Try.ntmps69
 go_wp2
 go_ret
 exact ⟨by first|rfl|(simp;done)|(simp [*];done),by repeat (first|exact Drawn0.refl _|apply Drawn0.step)⟩

/-! ### spec_l2Gap: function 65 -/
def spec_l2Gap.f (a0_0 : Int) (a0_1 : Bool) (a1 : Int) (a2 : Int) : Option (Int):=(spec_l1Most.f (wrap64 (a1 - a2)) (wrap64 (a2 - a1))).bind fun t160=>(if a0_1 = true then ((spec_l1Least.f t160 (wrap64 (a0_0 - t160))).bind fun t161=>(some t161)) else (some t160))
set_option maxHeartbeats 8000000 in
set_option maxRecDepth 100000 in
theorem spec_l2Gap.calls (a0_0 : Int) (a0_1 : Bool) (a1 : Int) (a2 : Int) (r : Int) (w : World) (h : spec_l2Gap.f a0_0 a0_1 a1 a2 = some r) :
  Calls Try.prog 65 #[.agg #[.int .i64 a0_0,.bool a0_1],.int .i64 a1,.int .i64 a2] w fun e w'=>e = .returned (.int .i64 r) ∧ Below w.heap.size w w':=by
 have hu28:=Try.underlying28
 have HB:=Aside0.mk (Below.refl w.heap.size w)
 have H : ((spec_l1Most.f (wrap64 (a1 - a2)) (wrap64 (a2 - a1))).bind fun t160=>(if a0_1 = true then ((spec_l1Least.f t160 (wrap64 (a0_0 - t160))).bind fun t161=>(some t161)) else (some t160))) = some r:=h
 clear h
 replace H:=Option.bind_eq_some_iff.mp H
 obtain ⟨t160,A40,H⟩:=H
 (try dsimp only at H)
 have A4:=Aside0.mk A40
 clear A40
 by_cases c5 : a0_1 = true
 rotate_left
 ·replace c5:=Bool.eq_false_iff.mpr c5
  subst c5
  rw [if_neg (show ¬ (false = true) by decide)] at H
  obtain rfl:=Option.some.inj H
  go_enter Try.func65,Try.ntmps65
  go_wp2_with (first|((with_reducible refine gate_dst (N:=3) rfl ?_);refine box_event ?hg (N:=3) ?hd (cs:=#[.int .i64 a0_0,.bool false]) (t:=28) ?hr ?_;(case hd=>rfl);(case hg=>rfl);(case hr=>first|(go_simp;done)|(go_simp;rfl));intro gb159 hg w9 hbox hb;have BK159:=ak hbox;have GW159:=ak ((by rw [hg];exact (below_size (hm HB.out)) : w.heap.size ≤ gb159));have GE159:=ak ((by rw [hg];exact (below_size (hm HB.out)) : w.heap.size ≤ gb159));replace HB:=bs HB hb;clear hb hbox hg)|((with_reducible refine gate_callee (f:=69) rfl ?_);refine goesL_ (some 14) rfl rfl Try.func69 (by kernel_rfl) rfl #[.int .i64 (wrap64 (a1 - a2)),.int .i64 (wrap64 (a2 - a1))] rfl gl ?_;(with_reducible refine (spec_l1Most.calls (wrap64 (a1 - a2)) (wrap64 (a2 - a1)) t160 _ A4.out).mono ?_);rintro e w' ⟨rfl,⟨nd,rfl⟩⟩;refine ⟨_,rfl,?_⟩;have hcz10_0 : w9.cell? ⟨gb159,0,none⟩ = some (.int .i64 a0_0):=(blk_cell BK159.out 0).trans rfl;have hcz10_1 : w9.cell? ⟨gb159,1,none⟩ = some (.bool false):=(blk_cell BK159.out 1).trans rfl;have hfz10_0:=blk_frozen BK159.out 0;have hfz10_1:=blk_frozen BK159.out 1))
  go_ret
  exact ⟨fe,h1 HB.out GE159.out⟩
 subst c5
 rw [if_pos rfl] at H
 replace H:=Option.bind_eq_some_iff.mp H
 obtain ⟨t161,A60,H⟩:=H
 (try dsimp only at H)
 have A6:=Aside0.mk A60
 clear A60
 obtain rfl:=Option.some.inj H
 go_enter Try.func65,Try.ntmps65
 go_wp2_with (first|((with_reducible refine gate_dst (N:=3) rfl ?_);refine box_event ?hg (N:=3) ?hd (cs:=#[.int .i64 a0_0,.bool true]) (t:=28) ?hr ?_;(case hd=>rfl);(case hg=>rfl);(case hr=>first|(go_simp;done)|(go_simp;rfl));intro gb159 hg w7 hbox hb;have BK159:=ak hbox;have GW159:=ak ((by rw [hg];exact (below_size (hm HB.out)) : w.heap.size ≤ gb159));have GE159:=ak ((by rw [hg];exact (below_size (hm HB.out)) : w.heap.size ≤ gb159));replace HB:=bs HB hb;clear hb hbox hg)|((with_reducible refine gate_callee (f:=69) rfl ?_);refine goesL_ (some 14) rfl rfl Try.func69 (by kernel_rfl) rfl #[.int .i64 (wrap64 (a1 - a2)),.int .i64 (wrap64 (a2 - a1))] rfl gl ?_;(with_reducible refine (spec_l1Most.calls (wrap64 (a1 - a2)) (wrap64 (a2 - a1)) t160 _ A4.out).mono ?_);rintro e w' ⟨rfl,⟨nd,rfl⟩⟩;refine ⟨_,rfl,?_⟩;have hcz8_0 : w7.cell? ⟨gb159,0,none⟩ = some (.int .i64 a0_0):=(blk_cell BK159.out 0).trans rfl;have hcz8_1 : w7.cell? ⟨gb159,1,none⟩ = some (.bool true):=(blk_cell BK159.out 1).trans rfl;have hfz8_0:=blk_frozen BK159.out 0;have hfz8_1:=blk_frozen BK159.out 1)|((with_reducible refine gate_callee (f:=63) rfl ?_);refine goesL_ (some 22) rfl rfl Try.func63 (by kernel_rfl) rfl #[.int .i64 t160,.int .i64 (wrap64 (a0_0 - t160))] rfl gl ?_;(with_reducible refine (spec_l1Least.calls t160 (wrap64 (a0_0 - t160)) t161 _ A6.out).mono ?_);rintro e w' ⟨rfl,⟨nd,rfl⟩⟩;refine ⟨_,rfl,?_⟩))
 go_ret
 exact ⟨fe,h1 HB.out GE159.out⟩


end
end Go.Proofs.Ytknfhoghimnieaa.QFnSensors
