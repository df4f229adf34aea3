/- Functions that the law FnSensors comes to, as Lean functions, with the proof that the Go code does what they say: written by a program of this session over the kit's print. No condition but those named. -/
import Derived.Test.YtknfhoghimnieaaQFnSensorsx0
import Derived.Test.YtknfhoghimnieaaQFnSensorsx3
import Derived.Test.YtknfhoghimnieaaQFnSensorsx6
namespace Go.Proofs.Ytknfhoghimnieaa.QFnSensors
open Go.RowKit Go.Proofs.YtknfhoghimnieaaW.PrintWords Go.Proofs.YtknfhoghimnieaaW.PrintLast Go.Proofs.YtknfhoghimnieaaW.PrintMore Go.Proofs.Ytknfhoghimnieaa.Short
attribute [local go_sem] max2_int min2_int max_two min_two max_three min_three max_four min_four   -- for this text's walks alone
set_option linter.unusedVariables false
set_option linter.unusedSimpArgs false

section
open Kd
/-! ### spec_SpareSensors: function 32 -/
def spec_SpareSensors.l0 : Nat → List (S59) → List Int → Int → Int → Bool → Option (List Int × Bool)
 | 0,_,_,_,_,_=>none
 | k + 1,x1,x6,x7,x247000,x247001=>if x7 < (x1.length : Int) then ((some (([] : List (S59)) : List (S59))).bind fun y251=>(if 0 ≤ x7 then (if x7 ≤ (x1.length : Int) then ((some (x1.take (x7 : Int).toNat : List (S59))).bind fun y254=>(if y251.length + y254.length < 8796093022208 then ((some (y251 ++ y254 : List (S59))).bind fun y258=>(if 0 ≤ (wrap64 (x7 + 1)) then (if (wrap64 (x7 + 1)) ≤ (x1.length : Int) then ((some (x1.drop ((wrap64 (x7 + 1)) : Int).toNat : List (S59))).bind fun y261=>(if y258.length + y261.length < 8796093022208 then ((spec_l9Strength.f k x247000 x247001 (y258 ++ y261)).bind fun t268=>(if t268 > 0 then (if x6.length < 17592186044416 then (spec_SpareSensors.l0 k x1 (x6 ++ [x7]) (wrap64 (x7 + 1)) x247000 x247001) else (none)) else (spec_SpareSensors.l0 k x1 x6 (wrap64 (x7 + 1)) x247000 x247001))) else (none))) else (none)) else (none))) else (none))) else (none)) else (none))) else (some (x6,true))
def spec_SpareSensors.f (k : Nat) (a0_0 : Int) (a0_1 : Bool) (l1 : List (S59)) : Option (List Int × Bool):=(some (([] : List Int) : List Int)).bind fun y247=>((spec_l9Sensors.f k a0_0 a0_1 l1).bind fun t250=>(if t250 = true then (spec_SpareSensors.l0 k l1 y247 0 a0_0 a0_1) else (some (y247,false))))
theorem spec_SpareSensors.mono_l : ∀ k,(∀ y0 y1 y2 y3 y4,LeO (spec_SpareSensors.l0 k y0 y1 y2 y3 y4) (spec_SpareSensors.l0 (k + 1) y0 y1 y2 y3 y4))
 | 0=>by
  refine ?_<;>(intros;intro r h;simp [spec_SpareSensors.l0] at h)
 | k + 1=>by
  have ih0:=spec_SpareSensors.mono_l k
  refine ?_<;>intros<;>(first|unfold spec_SpareSensors.l0)<;>(repeat' first|(with_reducible exact ih0 ..)|(with_reducible exact spec_l9Sensors.mono _ _ _ _)|(with_reducible exact spec_l9Strength.mono _ _ _ _)|(with_reducible exact LeO.refl _)|(with_reducible exact LeO.none _)|(with_reducible refine LeO.ite ?_ ?_)|(with_reducible refine LeO.bind ?_ (fun _=>?_))|exact ih0 ..|exact spec_l9Sensors.mono _ _ _ _|exact spec_l9Strength.mono _ _ _ _|exact LeO.none _|refine LeO.ite ?_ ?_|refine LeO.bind ?_ (fun _=>?_))
theorem spec_SpareSensors.mono : ∀ a0 a1 a2 k,LeO (spec_SpareSensors.f k a0 a1 a2) (spec_SpareSensors.f (k + 1) a0 a1 a2):=by
 intro a0 a1 a2 k
 have ih0:=spec_SpareSensors.mono_l k
 unfold spec_SpareSensors.f
 repeat' first
   | (with_reducible exact ih0 _ _ _ _ _)
   | (with_reducible exact spec_l9Sensors.mono _ _ _ _)
   | (with_reducible exact spec_l9Strength.mono _ _ _ _)
   | (with_reducible exact LeO.refl _)
   | (with_reducible exact LeO.none _)
   | (with_reducible refine LeO.ite ?_ ?_)
   | (with_reducible refine LeO.bind ?_ (fun _=>?_))
   | exact ih0 _ _ _ _ _
   | exact spec_l9Sensors.mono _ _ _ _
   | exact spec_l9Strength.mono _ _ _ _
   | exact LeO.none _
   | refine LeO.ite ?_ ?_
   | refine LeO.bind ?_ (fun _=>?_)
def spec_SpareSensors.T7 : Bool × List (List Nat × List Nat):=(true,[([],[]),([],[]),([],[]),([1,2],[1,2]),([0,3],[0,3]),([],[]),([],[]),([6],[6]),([5,7],[5,7]),([4,8,4],[4,8]),([9,9,0,1,2,3,4,5,6,7,8,9],[9])])
def spec_SpareSensors.B7 : List Nat:=[0,0,0,6,15,0,0,64,224,511,1023]
theorem spec_SpareSensors.tab7 : rtab .any (opsOf Try.f32 7) = spec_SpareSensors.T7:=by kernel_rfl
theorem spec_SpareSensors.bits7 : waitsOk spec_SpareSensors.T7.2 spec_SpareSensors.B7 = true:=by kernel_rfl
set_option maxHeartbeats 8000000 in
set_option maxRecDepth 100000 in
theorem spec_SpareSensors.calls (k : Nat) (a0_0 : Int) (a0_1 : Bool) (A1 : Option Addr) (c1 : Nat) (l1 : List (S59)) (r1 : List Int) (r2 : Bool) (w : World) (hr1 : Kd.C k59 w A1 l1.length l1) (hc1 : l1.length ≤ c1) (h : spec_SpareSensors.f k a0_0 a0_1 l1 = some (r1,r2)) :
  Calls Try.prog 32 #[.agg #[.int .i64 a0_0,.bool a0_1],.slice A1 l1.length c1] w fun e w'=>∃ v0_ : Value,e = .returned (.tuple #[v0_,.bool r2]) ∧ Kd.R (Kd.int .i64) 3 w' w.heap.size (fun _=>True) v0_ r1 ∧ Below w.heap.size w w':=by
 have hu28:=Try.underlying28
 have HR1:=Aside0.mk hr1
 have HC1:=Aside0.mk hc1
 clear hr1 hc1
 have HB:=Aside0.mk (Below.refl w.heap.size w)
 have H : ((some (([] : List Int) : List Int)).bind fun y247=>((spec_l9Sensors.f k a0_0 a0_1 l1).bind fun t250=>(if t250 = true then (spec_SpareSensors.l0 k l1 y247 0 a0_0 a0_1) else (some (y247,false))))) = some (r1,r2):=h
 clear h
 obtain ⟨y247,hy247⟩ : ∃ y_ : List Int,y_ = (([] : List Int)):=⟨_,rfl⟩
 replace H : ((spec_l9Sensors.f k a0_0 a0_1 l1).bind fun t250=>(if t250 = true then (spec_SpareSensors.l0 k l1 y247 0 a0_0 a0_1) else (some (y247,false)))) = some (r1,r2):=by first|(rw [hy247];with_reducible exact H)|(have H2_:=(Option.bind_some _ _).symm.trans H;rw [hy247];with_reducible exact H2_)|(have H2_:=(Option.bind_some _ _).symm.trans H;with_reducible exact H2_)|with_reducible exact H|(rw [hy247];exact H)|exact H
 have Ny247:=Aside0.mk hy247
 clear hy247
 replace H:=Option.bind_eq_some_iff.mp H
 obtain ⟨t250,A30,H⟩:=H
 (try dsimp only at H)
 have A3:=Aside0.mk A30
 clear A30
 by_cases c4 : t250 = true
 rotate_left
 ·replace c4:=Bool.eq_false_iff.mpr c4
  subst c4
  rw [if_neg (show ¬ (false = true) by decide)] at H
  simp only [Option.some.injEq,Prod.mk.injEq] at H
  obtain ⟨rfl,rfl⟩:=H
  go_enter Try.func32,Try.ntmps32
  go_wp2_with (first|((with_reducible refine gate_dst (N:=2) rfl ?_);refine box_event ?hg (N:=2) ?hd (cs:=#[.int .i64 a0_0,.bool a0_1]) (t:=28) ?hr ?_;(case hd=>rfl);(case hg=>rfl);(case hr=>first|(go_simp;done)|(go_simp;rfl));intro gb246 hg w42 hbox hb;have BK246:=ak hbox;have GW246:=ak ((by rw [hg];exact (below_size (hm HB.out)) : w.heap.size ≤ gb246));have GE246:=ak ((by rw [hg];exact (below_size (hm HB.out)) : w.heap.size ≤ gb246));replace HB:=bs HB hb;clear hb hbox hg)|((with_reducible refine gate_dst (N:=9) rfl ?_);refine R_lit (Kd.int .i64) _ 3 ?hg (N:=9) ?hd (xs:=([] : List Int)) (inner:=[]) (ok:=fun _=>True) (okp:=fun _=>True) ?hr ?hp (fun _ hk=>hk) trivial (Below.refl _ _) (Nat.le_refl _) (by simp) ?_;(case hd=>rfl);(case hg=>rfl);(case hr=>first|(go_simp;done)|(go_simp;rfl));(case hp=>exact (Reps.none _ _));intro v248 w43 ho44 hb hg_ hnew_;clear hg_ hnew_;(first|rw [← Ny247.out] at ho44|(simp only [Int.reduceToNat] at ho44;rw [← Ny247.out] at ho44));have HO249:=ak (R_lower ho44 (below_size (h1 HB.out GE246.out)));replace BK246:=kb BK246 hb;replace HB:=ak (below_step (h1 HB.out GE246.out) hb);clear hb ho44;have hcz45_0 : w43.cell? ⟨gb246,0,none⟩ = some (.int .i64 a0_0):=(blk_cell BK246.out 0).trans rfl;have hcz45_1 : w43.cell? ⟨gb246,1,none⟩ = some (.bool a0_1):=(blk_cell BK246.out 1).trans rfl;have hfz45_0:=blk_frozen BK246.out 0;have hfz45_1:=blk_frozen BK246.out 1)|((with_reducible refine gate_callee (f:=43) rfl ?_);refine goesL_ (some 12) rfl rfl Try.func43 (by kernel_rfl) rfl #[.agg #[.int .i64 a0_0,.bool a0_1],.slice A1 l1.length c1] rfl gl ?_;(with_reducible refine (spec_l9Sensors.calls k a0_0 a0_1 _ _ l1 false _ ?side1 ?side2 A3.out).mono ?_);(case side1=>exact cm (C_below HR1.out HB.out));(case side2=>exact HC1.out);rintro e w46 ⟨rfl,hb⟩;refine ⟨_,rfl,?_⟩;replace HO249:=rb HO249 hb;replace BK246:=kb BK246 hb;replace HB:=ak (below_step (h1 HB.out GE246.out) hb);(try clear hb);(try clear hk);(try clear hi)))
  go_ret2
  exact ⟨_,fe,rm HO249.out,h1 HB.out GE246.out⟩
 subst c4
 rw [if_pos rfl] at H
 have H':=Aside0.mk H
 clear H
 go_enter Try.func32,Try.ntmps32
 go_wp2_with (first|((with_reducible refine gate_dst (N:=2) rfl ?_);refine box_event ?hg (N:=2) ?hd (cs:=#[.int .i64 a0_0,.bool a0_1]) (t:=28) ?hr ?_;(case hd=>rfl);(case hg=>rfl);(case hr=>first|(go_simp;done)|(go_simp;rfl));intro gb246 hg w5 hbox hb;have BK246:=ak hbox;have GW246:=ak ((by rw [hg];exact (below_size (hm HB.out)) : w.heap.size ≤ gb246));have GE246:=ak ((by rw [hg];exact (below_size (hm HB.out)) : w.heap.size ≤ gb246));replace HB:=bs HB hb;clear hb hbox hg)|((with_reducible refine gate_dst (N:=9) rfl ?_);refine R_lit (Kd.int .i64) _ 3 ?hg (N:=9) ?hd (xs:=([] : List Int)) (inner:=[]) (ok:=fun _=>True) (okp:=fun _=>True) ?hr ?hp (fun _ hk=>hk) trivial (Below.refl _ _) (Nat.le_refl _) (by simp) ?_;(case hd=>rfl);(case hg=>rfl);(case hr=>first|(go_simp;done)|(go_simp;rfl));(case hp=>exact (Reps.none _ _));intro v248 w6 ho7 hb hg_ hnew_;clear hg_ hnew_;(first|rw [← Ny247.out] at ho7|(simp only [Int.reduceToNat] at ho7;rw [← Ny247.out] at ho7));have HO249:=ak (R_lower ho7 (below_size (h1 HB.out GE246.out)));replace BK246:=kb BK246 hb;replace HB:=ak (below_step (h1 HB.out GE246.out) hb);clear hb ho7;have hcz8_0 : w6.cell? ⟨gb246,0,none⟩ = some (.int .i64 a0_0):=(blk_cell BK246.out 0).trans rfl;have hcz8_1 : w6.cell? ⟨gb246,1,none⟩ = some (.bool a0_1):=(blk_cell BK246.out 1).trans rfl;have hfz8_0:=blk_frozen BK246.out 0;have hfz8_1:=blk_frozen BK246.out 1)|((with_reducible refine gate_callee (f:=43) rfl ?_);refine goesL_ (some 12) rfl rfl Try.func43 (by kernel_rfl) rfl #[.agg #[.int .i64 a0_0,.bool a0_1],.slice A1 l1.length c1] rfl gl ?_;(with_reducible refine (spec_l9Sensors.calls k a0_0 a0_1 _ _ l1 true _ ?side1 ?side2 A3.out).mono ?_);(case side1=>exact cm (C_below HR1.out HB.out));(case side2=>exact HC1.out);rintro e w9 ⟨rfl,hb⟩;refine ⟨_,rfl,?_⟩;replace HO249:=rb HO249 hb;replace BK246:=kb BK246 hb;replace HB:=ak (below_step (h1 HB.out GE246.out) hb);(try clear hb);(try clear hk);(try clear hi)))
 go_loopg [6,7] k (fun kq v6 v7 w'=>∃ (x6_1 : List Int) (x7_1 : Int),v7 = .int .i64 x7_1 ∧ Aside0 (spec_SpareSensors.l0 kq l1 x6_1 x7_1 a0_0 a0_1 = some (r1,r2)) ∧ Aside0 (kq ≤ k) ∧ Aside0 (Kd.R (Kd.int .i64) 3 w' w.heap.size (fun _=>True) v6 x6_1) ∧ Aside0 (w'.heap[gb246]? = some (.cells #[.int .i64 a0_0,.bool a0_1] 28 (0,0))) ∧ Aside0 (Below w.heap.size w w'))
 case atStart=>exact ⟨(y247),(0),fd,H',⟨Nat.le_refl _⟩,⟨rm HO249.out⟩,⟨bm BK246.out⟩,⟨h1 HB.out GE246.out⟩⟩
 clear H'
 try clear c1
 try clear p2
 try clear c3
 try clear c4
 try clear hcz8_0
 try clear hcz8_1
 try clear hfz8_0
 try clear hfz8_1
 obtain ⟨x6_1,x7_1,rfl,HA,HK1,HO_6,BK246,HB⟩:=hrel
 cases gk with
 | zero=>exact absurd HA.out (by simp [spec_SpareSensors.l0])
 | succ k1 =>
  have H:=HA.out
  clear HA
  simp only [spec_SpareSensors.l0] at H
  by_cases c10 : x7_1 < (l1.length : Int)
  rotate_left
  ·rw [if_neg c10] at H
   have c10b0 : decide (x7_1 < (l1.length : Int)) = false:=decide_eq_false c10
   clear c10
   simp only [Option.some.injEq,Prod.mk.injEq] at H
   obtain ⟨rfl,rfl⟩:=H
   go_wp2
   go_ret2
   exact ⟨_,fe,rm HO_6.out,h1 HB.out GE246.out⟩
  rw [if_pos c10] at H
  have c10b0 : decide (x7_1 < (l1.length : Int)) = true:=decide_eq_true c10
  clear c10
  obtain ⟨y251,hy251⟩ : ∃ y_ : List (S59),y_ = (([] : List (S59))):=⟨_,rfl⟩
  replace H : (if 0 ≤ x7_1 then (if x7_1 ≤ (l1.length : Int) then ((some (l1.take (x7_1 : Int).toNat : List (S59))).bind fun y254=>(if y251.length + y254.length < 8796093022208 then ((some (y251 ++ y254 : List (S59))).bind fun y258=>(if 0 ≤ (wrap64 (x7_1 + 1)) then (if (wrap64 (x7_1 + 1)) ≤ (l1.length : Int) then ((some (l1.drop ((wrap64 (x7_1 + 1)) : Int).toNat : List (S59))).bind fun y261=>(if y258.length + y261.length < 8796093022208 then ((spec_l9Strength.f k1 a0_0 a0_1 (y258 ++ y261)).bind fun t268=>(if t268 > 0 then (if x6_1.length < 17592186044416 then (spec_SpareSensors.l0 k1 l1 (x6_1 ++ [x7_1]) (wrap64 (x7_1 + 1)) a0_0 a0_1) else (none)) else (spec_SpareSensors.l0 k1 l1 x6_1 (wrap64 (x7_1 + 1)) a0_0 a0_1))) else (none))) else (none)) else (none))) else (none))) else (none)) else (none)) = some (r1,r2):=by first|(rw [hy251];with_reducible exact H)|(have H2_:=(Option.bind_some _ _).symm.trans H;rw [hy251];with_reducible exact H2_)|(have H2_:=(Option.bind_some _ _).symm.trans H;with_reducible exact H2_)|with_reducible exact H|(rw [hy251];exact H)|exact H
  have Ny251:=Aside0.mk hy251
  clear hy251
  by_cases c11 : 0 ≤ x7_1
  rotate_left
  ·rw [if_neg c11] at H
   exact absurd H (by simp)
  rw [if_pos c11] at H
  have c11b0:=eq_true c11
  have c11b1 : decide (0 ≤ x7_1) = true:=decide_eq_true c11
  clear c11
  by_cases c12 : x7_1 ≤ (l1.length : Int)
  rotate_left
  ·rw [if_neg c12] at H
   exact absurd H (by simp)
  rw [if_pos c12] at H
  have c12b0:=eq_true c12
  have c12b1 : decide (x7_1 ≤ (l1.length : Int)) = true:=decide_eq_true c12
  clear c12
  obtain ⟨y254,hy254⟩ : ∃ y_ : List (S59),y_ = (l1.take (x7_1 : Int).toNat):=⟨_,rfl⟩
  replace H : (if y251.length + y254.length < 8796093022208 then ((some (y251 ++ y254 : List (S59))).bind fun y258=>(if 0 ≤ (wrap64 (x7_1 + 1)) then (if (wrap64 (x7_1 + 1)) ≤ (l1.length : Int) then ((some (l1.drop ((wrap64 (x7_1 + 1)) : Int).toNat : List (S59))).bind fun y261=>(if y258.length + y261.length < 8796093022208 then ((spec_l9Strength.f k1 a0_0 a0_1 (y258 ++ y261)).bind fun t268=>(if t268 > 0 then (if x6_1.length < 17592186044416 then (spec_SpareSensors.l0 k1 l1 (x6_1 ++ [x7_1]) (wrap64 (x7_1 + 1)) a0_0 a0_1) else (none)) else (spec_SpareSensors.l0 k1 l1 x6_1 (wrap64 (x7_1 + 1)) a0_0 a0_1))) else (none))) else (none)) else (none))) else (none)) = some (r1,r2):=by first|(rw [hy254];with_reducible exact H)|(have H2_:=(Option.bind_some _ _).symm.trans H;rw [hy254];with_reducible exact H2_)|(have H2_:=(Option.bind_some _ _).symm.trans H;with_reducible exact H2_)|with_reducible exact H|(rw [hy254];exact H)|exact H
  have Ny254:=Aside0.mk hy254
  clear hy254
  by_cases c13 : y251.length + y254.length < 8796093022208
  rotate_left
  ·rw [if_neg c13] at H
   exact absurd H (by simp)
  rw [if_pos c13] at H
  have LMc13:=Aside0.mk c13
  clear c13
  obtain ⟨y258,hy258⟩ : ∃ y_ : List (S59),y_ = (y251 ++ y254):=⟨_,rfl⟩
  replace H : (if 0 ≤ (wrap64 (x7_1 + 1)) then (if (wrap64 (x7_1 + 1)) ≤ (l1.length : Int) then ((some (l1.drop ((wrap64 (x7_1 + 1)) : Int).toNat : List (S59))).bind fun y261=>(if y258.length + y261.length < 8796093022208 then ((spec_l9Strength.f k1 a0_0 a0_1 (y258 ++ y261)).bind fun t268=>(if t268 > 0 then (if x6_1.length < 17592186044416 then (spec_SpareSensors.l0 k1 l1 (x6_1 ++ [x7_1]) (wrap64 (x7_1 + 1)) a0_0 a0_1) else (none)) else (spec_SpareSensors.l0 k1 l1 x6_1 (wrap64 (x7_1 + 1)) a0_0 a0_1))) else (none))) else (none)) else (none)) = some (r1,r2):=by first|(rw [hy258];with_reducible exact H)|(have H2_:=(Option.bind_some _ _).symm.trans H;rw [hy258];with_reducible exact H2_)|(have H2_:=(Option.bind_some _ _).symm.trans H;with_reducible exact H2_)|with_reducible exact H|(rw [hy258];exact H)|exact H
  have Ny258:=Aside0.mk hy258
  clear hy258
  obtain ⟨ji14,hji14⟩ : ∃ j_ : Int,(wrap64 (x7_1 + 1)) = j_:=⟨_,rfl⟩
  replace H : (if 0 ≤ (ji14) then (if (ji14) ≤ (l1.length : Int) then ((some (l1.drop ((ji14) : Int).toNat : List (S59))).bind fun y261=>(if y258.length + y261.length < 8796093022208 then ((spec_l9Strength.f k1 a0_0 a0_1 (y258 ++ y261)).bind fun t268=>(if t268 > 0 then (if x6_1.length < 17592186044416 then (spec_SpareSensors.l0 k1 l1 (x6_1 ++ [x7_1]) ji14 a0_0 a0_1) else (none)) else (spec_SpareSensors.l0 k1 l1 x6_1 ji14 a0_0 a0_1))) else (none))) else (none)) else (none)) = some (r1,r2):=by first|(rw [hji14] at H;exact H)|(simp only [hji14] at H ⊢;exact H)
  have hji14w : (IntKind.i64.wrap (x7_1 + 1)) = ji14:=(i64_w _).trans hji14
  by_cases c15 : 0 ≤ (ji14)
  rotate_left
  ·rw [if_neg c15] at H
   exact absurd H (by simp)
  rw [if_pos c15] at H
  have c15b0:=eq_true c15
  have c15b1 : decide (0 ≤ (ji14)) = true:=decide_eq_true c15
  clear c15
  by_cases c16 : (ji14) ≤ (l1.length : Int)
  rotate_left
  ·rw [if_neg c16] at H
   exact absurd H (by simp)
  rw [if_pos c16] at H
  have c16b0:=eq_true c16
  have c16b1 : decide ((ji14) ≤ (l1.length : Int)) = true:=decide_eq_true c16
  clear c16
  obtain ⟨y261,hy261⟩ : ∃ y_ : List (S59),y_ = (l1.drop ((ji14) : Int).toNat):=⟨_,rfl⟩
  replace H : (if y258.length + y261.length < 8796093022208 then ((spec_l9Strength.f k1 a0_0 a0_1 (y258 ++ y261)).bind fun t268=>(if t268 > 0 then (if x6_1.length < 17592186044416 then (spec_SpareSensors.l0 k1 l1 (x6_1 ++ [x7_1]) ji14 a0_0 a0_1) else (none)) else (spec_SpareSensors.l0 k1 l1 x6_1 ji14 a0_0 a0_1))) else (none)) = some (r1,r2):=by first|(rw [hy261];with_reducible exact H)|(have H2_:=(Option.bind_some _ _).symm.trans H;rw [hy261];with_reducible exact H2_)|(have H2_:=(Option.bind_some _ _).symm.trans H;with_reducible exact H2_)|with_reducible exact H|(rw [hy261];exact H)|exact H
  have Ny261:=Aside0.mk hy261
  clear hy261
  by_cases c17 : y258.length + y261.length < 8796093022208
  rotate_left
  ·rw [if_neg c17] at H
   exact absurd H (by simp)
  rw [if_pos c17] at H
  have LMc17:=Aside0.mk c17
  clear c17
  obtain ⟨y265,hy265⟩ : ∃ y_ : List (S59),y_ = (y258 ++ y261):=⟨_,rfl⟩
  replace H : ((spec_l9Strength.f k1 a0_0 a0_1 y265).bind fun t268=>(if t268 > 0 then (if x6_1.length < 17592186044416 then (spec_SpareSensors.l0 k1 l1 (x6_1 ++ [x7_1]) ji14 a0_0 a0_1) else (none)) else (spec_SpareSensors.l0 k1 l1 x6_1 ji14 a0_0 a0_1))) = some (r1,r2):=by first|(rw [hy265];with_reducible exact H)|(have H2_:=(Option.bind_some _ _).symm.trans H;rw [hy265];with_reducible exact H2_)|(have H2_:=(Option.bind_some _ _).symm.trans H;with_reducible exact H2_)|with_reducible exact H|(rw [hy265];exact H)|exact H
  have Ny265:=Aside0.mk hy265
  clear hy265
  replace H:=Option.bind_eq_some_iff.mp H
  obtain ⟨t268,A180,H⟩:=H
  (try dsimp only at H)
  have A18:=Aside0.mk A180
  clear A180
  by_cases c19 : t268 > 0
  rotate_left
  ·rw [if_neg c19] at H
   have c19b0 : decide (0 < t268) = false:=decide_eq_false c19
   clear c19
   have H':=Aside0.mk H
   clear H
   try go_wp2
   replace HO_6:=ak (R_drew HO_6.out)
   replace BK246:=ak (blk_drew BK246.out)
   replace HB:=ak (below_drew1 HB.out)
   have q33 : (x7_1 : Int) ≤ ((l1.length : Int) : Int):=od
   obtain ⟨i033,hi033,_,hsz33,_⟩:=info_parts info59
   have hroom33 : l1.length ≤ c1:=HC1.out
   have hC33 : Kd.C k59 _ A1 l1.length l1:=HR1.out
   have hcut33:=cut_to (P:=Try.prog) 30 59 .i64 Try.underlying30 hi033 A1 l1.length c1 x7_1 (od) q33 hroom33
   have hr33:=C_take (m:=(x7_1 : Int).toNat) hC33 (by omega)
   have hy33 : y254.length = (x7_1 : Int).toNat:=(by rw [Ny254.out,List.length_take];omega)
   rw [← Ny254.out] at hr33
   rw [← hy33] at hcut33
   have HR257:=Aside0.mk hr33
   have HC257:=Aside0.mk (show y254.length ≤ c1 from by omega)
   clear hr33 hC33 hroom33 hi033 hsz33
   have KY33:=Aside0.mk hy33
   clear hy33
   replace q33:=eq_true q33
   have q34 : ((ji14) : Int) ≤ ((l1.length : Int) : Int):=od
   obtain ⟨i034,hi034,_,hsz34,_⟩:=info_parts info59
   have hroom34 : l1.length ≤ c1:=HC1.out
   have hC34 : Kd.C k59 _ A1 l1.length l1:=HR1.out
   have q034 : (0 : Int) ≤ ((ji14) : Int):=od
   have hcut34:=cut_from (P:=Try.prog) 30 59 .i64 Try.underlying30 hi034 2 hsz34 A1 l1.length c1 (ji14) q034 q34
   have hr34:=C_drop (m:=((ji14) : Int).toNat) (c:=c1) hC34 (by omega) hroom34
   obtain ⟨A34,hA34⟩ : ∃ A_,A_ = (if c1 = ((ji14) : Int).toNat then A1 else (A1 : Option Addr).map (·.add (((ji14) : Int).toNat * 2))):=⟨_,rfl⟩
   obtain ⟨c34,hc34⟩ : ∃ c_,c_ = c1 - ((ji14) : Int).toNat:=⟨_,rfl⟩
   have hy34 : y261.length = l1.length - ((ji14) : Int).toNat:=(by rw [Ny261.out,List.length_drop] <;> omega)
   rw [show (l1).drop ((ji14) : Int).toNat = y261 from Ny261.out.symm] at hr34
   replace hr34 : Kd.C k59 _ A34 y261.length y261:=(by rw [hA34];exact hr34)
   rw [← hy34,← hA34,← hc34] at hcut34
   have HR264:=Aside0.mk hr34
   have HC264:=Aside0.mk (show y261.length ≤ c34 from by rw [hy34,hc34];exact Nat.sub_le_sub_right hroom34 _)
   clear hr34 hC34 hroom34 hi034 hsz34 hc34
   have KY34:=Aside0.mk hy34
   have KA34:=Aside0.mk hA34
   clear hy34 hA34
   replace q34:=eq_true q34
   refine start_ (n:=11) (S:=fun w'=>True) (ds:=[]) (lb 11 0) (by kernel_rfl) rfl rfl trivial (fun hHeld=>?_);refine with_tabW spec_SpareSensors.tab7 spec_SpareSensors.bits7 (fun HT_ HW_=>?_)
   generalize wr.drew = w32 at HO_6 BK246 HB HR257 HR264 hHeld ⊢
   refine pu 1 (N:=some 22) (v:=?_) (a':=?_) (lb 11 2) HT_ (by kernel_rfl) rfl rfl rfl (fun _ _ _ h=>h) ?_ ?_ ?_
   rotate_left
   ·intro w'
    go_simp
    with_reducible rfl
   rotate_left
   ·simp only [ap]
    rfl
   refine pu 2 (N:=some 23) (v:=?_) (a':=?_) (lb 11 6) HT_ (by kernel_rfl) rfl rfl rfl (fun _ _ _ h=>h) ?_ ?_ ?_
   rotate_left
   ·intro w'
    go_simp
    with_reducible rfl
   rotate_left
   ·simp only [ap]
    rfl
   refine pu 3 (N:=some 24) (v:=?_) (a':=?_) (lb 11 14) HT_ (by kernel_rfl) rfl rfl rfl (fun _ _ _ h=>h) ?_ ?_ ?_
   rotate_left
   ·intro w'
    go_simp
    with_reducible rfl
   rotate_left
   ·simp only [ap]
    rfl
   refine pu 5 (N:=some 26) (v:=?_) (a':=?_) (lb 11 46) HT_ (by kernel_rfl) rfl rfl rfl (fun _ _ _ h=>h) ?_ ?_ ?_
   rotate_left
   ·intro w'
    go_simp
    with_reducible rfl
   rotate_left
   ·simp only [ap]
    rfl
   refine pu 6 (N:=some 27) (v:=?_) (a':=?_) (lb 11 110) HT_ (by kernel_rfl) rfl rfl rfl (fun _ _ _ h=>h) ?_ ?_ ?_
   rotate_left
   ·intro w'
    go_simp
    with_reducible rfl
   rotate_left
   ·simp only [ap]
    rfl
   refine pu 7 (N:=some 28) (v:=?_) (a':=?_) (lb 11 238) HT_ (by kernel_rfl) rfl rfl rfl (fun _ _ _ h=>h) ?_ ?_ ?_
   rotate_left
   ·intro w'
    go_simp
    with_reducible rfl
   rotate_left
   ·simp only [ap]
    rfl
   refine pu 8 (N:=some 29) (v:=?_) (a':=?_) (lb 11 494) HT_ (by kernel_rfl) rfl rfl rfl (fun _ _ _ h=>h) ?_ ?_ ?_
   rotate_left
   ·intro w'
    go_simp
    with_reducible rfl
   rotate_left
   ·simp only [ap]
    rfl
   refine one_ (i:=0) (N:=some 21) (lb 11 495) rfl rfl (one_of HT_.out (by kernel_rfl)) (by decide) (fun K hK=>?_)
   refine R_lit_step k59 _ 59 ?hg (N:=21) ?hd (xs:=([] : List (S59))) (inner:=[]) (ok:=fun _=>True) (okp:=fun _=>True) ?hr ?hp (fun _ hk=>hk) trivial (Below.refl _ _) (Nat.le_refl _) (by simp) ?_;(case hd=>rfl);(case hg=>rfl);(case hr=>first|(go_simp;done)|(go_simp;rfl));(case hp=>exact (Reps.none _ _))
   intro v252 w35 ho36 hb hg_ hnew_
   clear hg_ hnew_
   (first|rw [← Ny251.out] at ho36|(simp only [Int.reduceToNat] at ho36;rw [← Ny251.out] at ho36))
   replace HO_6:=rb HO_6 hb
   have HO253:=ak (R_lower ho36 (below_size (h1 HB.out GE246.out)))
   replace BK246:=kb BK246 hb
   replace HB:=ak (below_step (h1 HB.out GE246.out) hb)
   clear hb ho36
   refine hK.out _ _ trivial (fun hHeld=>?_)
   clear hK K
   refine norm_ (a':=?_) ?_ ?_
   rotate_left
   ·show Act.put _ (some 21) _ = _
    simp only [ap]
    rfl
   refine one_ (i:=4) (N:=some 25) (lb 11 511) rfl rfl (one_of HT_.out (by kernel_rfl)) (by decide) (fun K hK=>?_)
   refine R_append_rows_step k59 (w0:=w) w.heap.size (by rfl) (.tmp 21) (.tmp 24) 30 59 (.agg #[(.int .i64 0),(.int .i64 0)]) 16 rfl Try.underlying30 info59 rfl (by decide) (by omega) v252 y251 y254 _ _ _ (fun _=>True) (fun _=>False) rfl rfl ?aO ?aR (fun _ _ h=>h) (fun _ h=>h.elim) ?aF ?aB ?aS ?aL ?_
   (case aR=>exact cm (C_below HR257.out HB.out))
   (case aB=>exact (h1 HB.out GE246.out))
   (case aF=>exact (fun _ _=>trivial))
   (case aO=>exact (rm HO253.out))
   (case aS=>exact (below_size (h1 HB.out GE246.out)))
   (case aL=>have:=LMc13.out;omega)
   intro v259 w37 ho hb hg hat
   rw [← Ny258.out] at ho
   replace HO_6:=ak (R_over' (rm HO_6.out) (R_typed (rm HO253.out)) (by decide) hg)
   replace BK246:=ak (blk_grown (g:=gb246) (o:=.cells #[.int .i64 a0_0,.bool a0_1] 28 (0,0)) (bm BK246.out) hg (R_ne HO253.out BK246.out (by decide)))
   replace HB:=ak hb
   have HO260:=ak ho
   clear HO253
   clear ho hb hg hat
   refine hK.out _ _ trivial (fun hHeld=>?_)
   clear hK K
   refine norm_ (a':=?_) ?_ ?_
   rotate_left
   ·show Act.put _ (some 25) _ = _
    simp only [ap]
    rfl
   refine one_ (i:=9) (N:=some 30) (lb 11 1023) rfl rfl (one_of HT_.out (by kernel_rfl)) (by decide) (fun K hK=>?_)
   refine R_append_rows_step k59 (w0:=w) w.heap.size (by rfl) (.tmp 25) (.tmp 29) 30 59 (.agg #[(.int .i64 0),(.int .i64 0)]) 16 rfl Try.underlying30 info59 rfl (by decide) (by omega) v259 y258 y261 _ _ _ (fun _=>True) (fun _=>False) rfl rfl ?aO ?aR (fun _ _ h=>h) (fun _ h=>h.elim) ?aF ?aB ?aS ?aL ?_
   (case aR=>exact cm (C_below HR264.out HB.out))
   (case aB=>exact (h1 HB.out GE246.out))
   (case aF=>exact (fun _ _=>trivial))
   (case aO=>exact (rm HO260.out))
   (case aS=>exact (below_size (h1 HB.out GE246.out)))
   (case aL=>have:=LMc17.out;omega)
   intro v266 w38 ho hb hg hat
   rw [← Ny265.out] at ho
   replace HO_6:=ak (R_over' (rm HO_6.out) (R_typed (rm HO260.out)) (by decide) hg)
   replace BK246:=ak (blk_grown (g:=gb246) (o:=.cells #[.int .i64 a0_0,.bool a0_1] 28 (0,0)) (bm BK246.out) hg (R_ne HO260.out BK246.out (by decide)))
   replace HB:=ak hb
   have HO267:=ak ho
   clear HO260
   clear ho hb hg hat
   refine hK.out _ _ trivial (fun hHeld=>?_)
   clear hK K
   refine norm_ (a':=?_) ?_ ?_
   rotate_left
   ·show Act.put _ (some 30) _ = _
    simp only [ap]
    rfl
   refine pu 10 (N:=some 8) (v:=?_) (a':=?_) (lb 11 2047) HT_ (by kernel_rfl) rfl rfl rfl (fun _ _ _ h=>h) ?_ ?_ ?_
   rotate_left
   ·intro w'
    go_simp
    with_reducible rfl
   rotate_left
   ·simp only [ap]
    rfl
   refine done_ (done_of HT_.out (by kernel_rfl)) ?_
   have hcz39_0 : w38.cell? ⟨gb246,0,none⟩ = some (.int .i64 a0_0):=(blk_cell BK246.out 0).trans rfl
   have hcz39_1 : w38.cell? ⟨gb246,1,none⟩ = some (.bool a0_1):=(blk_cell BK246.out 1).trans rfl
   have hfz39_0:=blk_frozen BK246.out 0
   have hfz39_1:=blk_frozen BK246.out 1
   obtain ⟨Ao40,co40,eo40⟩:=R_slice HO267.out
   subst eo40
   try go_wp2_with (first|((with_reducible refine gate_callee (f:=50) rfl ?_);refine goesL_ (some 33) rfl rfl Try.func50 (by kernel_rfl) rfl #[.agg #[.int .i64 a0_0,.bool a0_1],.slice Ao40 y265.length co40] rfl gl ?_;(with_reducible refine (spec_l9Strength.calls k1 a0_0 a0_1 _ _ y265 t268 _ ?side1 ?side2 A18.out).mono ?_);(case side1=>exact cm (R_reads' HO267.out).2.2);(case side2=>exact (R_reads' HO267.out).2.1);rintro e w41 ⟨rfl,hb⟩;refine ⟨_,rfl,?_⟩;replace HO_6:=rb HO_6 hb;replace HO267:=rb HO267 hb;replace BK246:=kb BK246 hb;replace HB:=ak (below_step (h1 HB.out GE246.out) hb);(try clear hb);(try clear hk);(try clear hi)))
   go_roundg k1
   case measure=>have:=HK1.out;omega
   case rel=>exact ⟨(x6_1),(ji14),(by first|rfl|(simp;done)|(simp only [← hji14] <;> (first|rfl|simp))|(simp [*];done)),H',⟨by have:=HK1.out;omega⟩,⟨rm HO_6.out⟩,⟨bm BK246.out⟩,⟨h1 HB.out GE246.out⟩⟩
  rw [if_pos c19] at H
  have c19b0 : decide (0 < t268) = true:=decide_eq_true c19
  clear c19
  by_cases c20 : x6_1.length < 17592186044416
  rotate_left
  ·rw [if_neg c20] at H
   exact absurd H (by simp)
  rw [if_pos c20] at H
  have LMc20:=Aside0.mk c20
  clear c20
  obtain ⟨y269,hy269⟩ : ∃ y_ : List Int,y_ = (x6_1 ++ [x7_1]):=⟨_,rfl⟩
  replace H : (spec_SpareSensors.l0 k1 l1 y269 ji14 a0_0 a0_1) = some (r1,r2):=by first|(rw [hy269];with_reducible exact H)|(have H2_:=(Option.bind_some _ _).symm.trans H;rw [hy269];with_reducible exact H2_)|(have H2_:=(Option.bind_some _ _).symm.trans H;with_reducible exact H2_)|with_reducible exact H|(rw [hy269];exact H)|exact H
  have Ny269:=Aside0.mk hy269
  clear hy269
  have H':=Aside0.mk H
  clear H
  try go_wp2
  replace HO_6:=ak (R_drew HO_6.out)
  replace BK246:=ak (blk_drew BK246.out)
  replace HB:=ak (below_drew1 HB.out)
  have q22 : (x7_1 : Int) ≤ ((l1.length : Int) : Int):=od
  obtain ⟨i022,hi022,_,hsz22,_⟩:=info_parts info59
  have hroom22 : l1.length ≤ c1:=HC1.out
  have hC22 : Kd.C k59 _ A1 l1.length l1:=HR1.out
  have hcut22:=cut_to (P:=Try.prog) 30 59 .i64 Try.underlying30 hi022 A1 l1.length c1 x7_1 (od) q22 hroom22
  have hr22:=C_take (m:=(x7_1 : Int).toNat) hC22 (by omega)
  have hy22 : y254.length = (x7_1 : Int).toNat:=(by rw [Ny254.out,List.length_take];omega)
  rw [← Ny254.out] at hr22
  rw [← hy22] at hcut22
  have HR257:=Aside0.mk hr22
  have HC257:=Aside0.mk (show y254.length ≤ c1 from by omega)
  clear hr22 hC22 hroom22 hi022 hsz22
  have KY22:=Aside0.mk hy22
  clear hy22
  replace q22:=eq_true q22
  have q23 : ((ji14) : Int) ≤ ((l1.length : Int) : Int):=od
  obtain ⟨i023,hi023,_,hsz23,_⟩:=info_parts info59
  have hroom23 : l1.length ≤ c1:=HC1.out
  have hC23 : Kd.C k59 _ A1 l1.length l1:=HR1.out
  have q023 : (0 : Int) ≤ ((ji14) : Int):=od
  have hcut23:=cut_from (P:=Try.prog) 30 59 .i64 Try.underlying30 hi023 2 hsz23 A1 l1.length c1 (ji14) q023 q23
  have hr23:=C_drop (m:=((ji14) : Int).toNat) (c:=c1) hC23 (by omega) hroom23
  obtain ⟨A23,hA23⟩ : ∃ A_,A_ = (if c1 = ((ji14) : Int).toNat then A1 else (A1 : Option Addr).map (·.add (((ji14) : Int).toNat * 2))):=⟨_,rfl⟩
  obtain ⟨c23,hc23⟩ : ∃ c_,c_ = c1 - ((ji14) : Int).toNat:=⟨_,rfl⟩
  have hy23 : y261.length = l1.length - ((ji14) : Int).toNat:=(by rw [Ny261.out,List.length_drop] <;> omega)
  rw [show (l1).drop ((ji14) : Int).toNat = y261 from Ny261.out.symm] at hr23
  replace hr23 : Kd.C k59 _ A23 y261.length y261:=(by rw [hA23];exact hr23)
  rw [← hy23,← hA23,← hc23] at hcut23
  have HR264:=Aside0.mk hr23
  have HC264:=Aside0.mk (show y261.length ≤ c23 from by rw [hy23,hc23];exact Nat.sub_le_sub_right hroom23 _)
  clear hr23 hC23 hroom23 hi023 hsz23 hc23
  have KY23:=Aside0.mk hy23
  have KA23:=Aside0.mk hA23
  clear hy23 hA23
  replace q23:=eq_true q23
  refine start_ (n:=11) (S:=fun w'=>True) (ds:=[]) (lb 11 0) (by kernel_rfl) rfl rfl trivial (fun hHeld=>?_);refine with_tabW spec_SpareSensors.tab7 spec_SpareSensors.bits7 (fun HT_ HW_=>?_)
  generalize wr.drew = w21 at HO_6 BK246 HB HR257 HR264 hHeld ⊢
  refine pu 1 (N:=some 22) (v:=?_) (a':=?_) (lb 11 2) HT_ (by kernel_rfl) rfl rfl rfl (fun _ _ _ h=>h) ?_ ?_ ?_
  rotate_left
  ·intro w'
   go_simp
   with_reducible rfl
  rotate_left
  ·simp only [ap]
   rfl
  refine pu 2 (N:=some 23) (v:=?_) (a':=?_) (lb 11 6) HT_ (by kernel_rfl) rfl rfl rfl (fun _ _ _ h=>h) ?_ ?_ ?_
  rotate_left
  ·intro w'
   go_simp
   with_reducible rfl
  rotate_left
  ·simp only [ap]
   rfl
  refine pu 3 (N:=some 24) (v:=?_) (a':=?_) (lb 11 14) HT_ (by kernel_rfl) rfl rfl rfl (fun _ _ _ h=>h) ?_ ?_ ?_
  rotate_left
  ·intro w'
   go_simp
   with_reducible rfl
  rotate_left
  ·simp only [ap]
   rfl
  refine pu 5 (N:=some 26) (v:=?_) (a':=?_) (lb 11 46) HT_ (by kernel_rfl) rfl rfl rfl (fun _ _ _ h=>h) ?_ ?_ ?_
  rotate_left
  ·intro w'
   go_simp
   with_reducible rfl
  rotate_left
  ·simp only [ap]
   rfl
  refine pu 6 (N:=some 27) (v:=?_) (a':=?_) (lb 11 110) HT_ (by kernel_rfl) rfl rfl rfl (fun _ _ _ h=>h) ?_ ?_ ?_
  rotate_left
  ·intro w'
   go_simp
   with_reducible rfl
  rotate_left
  ·simp only [ap]
   rfl
  refine pu 7 (N:=some 28) (v:=?_) (a':=?_) (lb 11 238) HT_ (by kernel_rfl) rfl rfl rfl (fun _ _ _ h=>h) ?_ ?_ ?_
  rotate_left
  ·intro w'
   go_simp
   with_reducible rfl
  rotate_left
  ·simp only [ap]
   rfl
  refine pu 8 (N:=some 29) (v:=?_) (a':=?_) (lb 11 494) HT_ (by kernel_rfl) rfl rfl rfl (fun _ _ _ h=>h) ?_ ?_ ?_
  rotate_left
  ·intro w'
   go_simp
   with_reducible rfl
  rotate_left
  ·simp only [ap]
   rfl
  refine one_ (i:=0) (N:=some 21) (lb 11 495) rfl rfl (one_of HT_.out (by kernel_rfl)) (by decide) (fun K hK=>?_)
  refine R_lit_step k59 _ 59 ?hg (N:=21) ?hd (xs:=([] : List (S59))) (inner:=[]) (ok:=fun _=>True) (okp:=fun _=>True) ?hr ?hp (fun _ hk=>hk) trivial (Below.refl _ _) (Nat.le_refl _) (by simp) ?_;(case hd=>rfl);(case hg=>rfl);(case hr=>first|(go_simp;done)|(go_simp;rfl));(case hp=>exact (Reps.none _ _))
  intro v252 w24 ho25 hb hg_ hnew_
  clear hg_ hnew_
  (first|rw [← Ny251.out] at ho25|(simp only [Int.reduceToNat] at ho25;rw [← Ny251.out] at ho25))
  replace HO_6:=rb HO_6 hb
  have HO253:=ak (R_lower ho25 (below_size (h1 HB.out GE246.out)))
  replace BK246:=kb BK246 hb
  replace HB:=ak (below_step (h1 HB.out GE246.out) hb)
  clear hb ho25
  refine hK.out _ _ trivial (fun hHeld=>?_)
  clear hK K
  refine norm_ (a':=?_) ?_ ?_
  rotate_left
  ·show Act.put _ (some 21) _ = _
   simp only [ap]
   rfl
  refine one_ (i:=4) (N:=some 25) (lb 11 511) rfl rfl (one_of HT_.out (by kernel_rfl)) (by decide) (fun K hK=>?_)
  refine R_append_rows_step k59 (w0:=w) w.heap.size (by rfl) (.tmp 21) (.tmp 24) 30 59 (.agg #[(.int .i64 0),(.int .i64 0)]) 16 rfl Try.underlying30 info59 rfl (by decide) (by omega) v252 y251 y254 _ _ _ (fun _=>True) (fun _=>False) rfl rfl ?aO ?aR (fun _ _ h=>h) (fun _ h=>h.elim) ?aF ?aB ?aS ?aL ?_
  (case aR=>exact cm (C_below HR257.out HB.out))
  (case aB=>exact (h1 HB.out GE246.out))
  (case aF=>exact (fun _ _=>trivial))
  (case aO=>exact (rm HO253.out))
  (case aS=>exact (below_size (h1 HB.out GE246.out)))
  (case aL=>have:=LMc13.out;omega)
  intro v259 w26 ho hb hg hat
  rw [← Ny258.out] at ho
  replace HO_6:=ak (R_over' (rm HO_6.out) (R_typed (rm HO253.out)) (by decide) hg)
  replace BK246:=ak (blk_grown (g:=gb246) (o:=.cells #[.int .i64 a0_0,.bool a0_1] 28 (0,0)) (bm BK246.out) hg (R_ne HO253.out BK246.out (by decide)))
  replace HB:=ak hb
  have HO260:=ak ho
  clear HO253
  clear ho hb hg hat
  refine hK.out _ _ trivial (fun hHeld=>?_)
  clear hK K
  refine norm_ (a':=?_) ?_ ?_
  rotate_left
  ·show Act.put _ (some 25) _ = _
   simp only [ap]
   rfl
  refine one_ (i:=9) (N:=some 30) (lb 11 1023) rfl rfl (one_of HT_.out (by kernel_rfl)) (by decide) (fun K hK=>?_)
  refine R_append_rows_step k59 (w0:=w) w.heap.size (by rfl) (.tmp 25) (.tmp 29) 30 59 (.agg #[(.int .i64 0),(.int .i64 0)]) 16 rfl Try.underlying30 info59 rfl (by decide) (by omega) v259 y258 y261 _ _ _ (fun _=>True) (fun _=>False) rfl rfl ?aO ?aR (fun _ _ h=>h) (fun _ h=>h.elim) ?aF ?aB ?aS ?aL ?_
  (case aR=>exact cm (C_below HR264.out HB.out))
  (case aB=>exact (h1 HB.out GE246.out))
  (case aF=>exact (fun _ _=>trivial))
  (case aO=>exact (rm HO260.out))
  (case aS=>exact (below_size (h1 HB.out GE246.out)))
  (case aL=>have:=LMc17.out;omega)
  intro v266 w27 ho hb hg hat
  rw [← Ny265.out] at ho
  replace HO_6:=ak (R_over' (rm HO_6.out) (R_typed (rm HO260.out)) (by decide) hg)
  replace BK246:=ak (blk_grown (g:=gb246) (o:=.cells #[.int .i64 a0_0,.bool a0_1] 28 (0,0)) (bm BK246.out) hg (R_ne HO260.out BK246.out (by decide)))
  replace HB:=ak hb
  have HO267:=ak ho
  clear HO260
  clear ho hb hg hat
  refine hK.out _ _ trivial (fun hHeld=>?_)
  clear hK K
  refine norm_ (a':=?_) ?_ ?_
  rotate_left
  ·show Act.put _ (some 30) _ = _
   simp only [ap]
   rfl
  refine pu 10 (N:=some 8) (v:=?_) (a':=?_) (lb 11 2047) HT_ (by kernel_rfl) rfl rfl rfl (fun _ _ _ h=>h) ?_ ?_ ?_
  rotate_left
  ·intro w'
   go_simp
   with_reducible rfl
  rotate_left
  ·simp only [ap]
   rfl
  refine done_ (done_of HT_.out (by kernel_rfl)) ?_
  have hcz28_0 : w27.cell? ⟨gb246,0,none⟩ = some (.int .i64 a0_0):=(blk_cell BK246.out 0).trans rfl
  have hcz28_1 : w27.cell? ⟨gb246,1,none⟩ = some (.bool a0_1):=(blk_cell BK246.out 1).trans rfl
  have hfz28_0:=blk_frozen BK246.out 0
  have hfz28_1:=blk_frozen BK246.out 1
  obtain ⟨Ao29,co29,eo29⟩:=R_slice HO267.out
  subst eo29
  try go_wp2_with (first|((with_reducible refine gate_callee (f:=50) rfl ?_);refine goesL_ (some 33) rfl rfl Try.func50 (by kernel_rfl) rfl #[.agg #[.int .i64 a0_0,.bool a0_1],.slice Ao29 y265.length co29] rfl gl ?_;(with_reducible refine (spec_l9Strength.calls k1 a0_0 a0_1 _ _ y265 t268 _ ?side1 ?side2 A18.out).mono ?_);(case side1=>exact cm (R_reads' HO267.out).2.2);(case side2=>exact (R_reads' HO267.out).2.1);rintro e w30 ⟨rfl,hb⟩;refine ⟨_,rfl,?_⟩;replace HO_6:=rb HO_6 hb;replace HO267:=rb HO267 hb;replace BK246:=kb BK246 hb;replace HB:=ak (below_step (h1 HB.out GE246.out) hb);(try clear hb);(try clear hk);(try clear hi))|((with_reducible refine gate_builtin (b:=.append) (xs:=#[.tmp 35,.tmp 37]) rfl ?_);at_builtin;refine R_append (Kd.int .i64) (w0:=w) w.heap.size rfl (.tmp 35) (.tmp 37) 39 3 (.int .i64 0) 8 rfl Try.underlying39 info3 rfl (by decide) (by omega) u6 x6_1 x7_1 [.int .i64 x7_1] (fun _=>True) (fun _=>False) rfl rfl ?aP (fun _ hk=>hk.elim) ?aF ?aO ?aB ?aS ?aL ?_;(case aP=>exact rfl);(case aB=>exact (h1 HB.out GE246.out));(case aF=>exact (fun _ _=>trivial));(case aO=>exact (rm HO_6.out));(case aS=>exact (below_size (h1 HB.out GE246.out)));(case aL=>have:=LMc20.out;omega);intro v270 w31 ho hb hg hat;rw [← Ny269.out] at ho;replace BK246:=ak (blk_grown (g:=gb246) (o:=.cells #[.int .i64 a0_0,.bool a0_1] 28 (0,0)) (bm BK246.out) hg (R_ne HO_6.out BK246.out (by decide)));replace HO267:=ak (R_over' (rm HO267.out) (R_typed (rm HO_6.out)) (by decide) hg);replace HB:=ak hb;have HO271:=ak ho;clear HO_6;clear ho hb hg hat))
  go_roundg k1
  case measure=>have:=HK1.out;omega
  case rel=>exact ⟨(y269),(ji14),(by first|rfl|(simp;done)|(simp only [← hji14] <;> (first|rfl|simp))|(simp [*];done)),H',⟨by have:=HK1.out;omega⟩,⟨rm HO271.out⟩,⟨bm BK246.out⟩,⟨h1 HB.out GE246.out⟩⟩

-- NOT PRINTED: function 55 (impl_Sensor_55)

/-! ### impl_Sensor_56: function 56 -/
def impl_Sensor_56.f (l0 : List (S59)) : Option ((List (S59))):=(some (([] : List (S59)) : List (S59))).bind fun y272=>(if y272.length + l0.length < 8796093022208 then (some (y272 ++ l0)) else (none))
attribute [local go_sem] Lib.run_eql_slice_nil
set_option maxHeartbeats 8000000 in
set_option maxRecDepth 100000 in
theorem impl_Sensor_56.calls_some (ad0 : Addr) (c0 : Nat) (l0 : List (S59)) (r : List (S59)) (w : World) (hr0 : Kd.C k59 w (some ad0) l0.length l0) (hc0 : l0.length ≤ c0) (h : impl_Sensor_56.f l0 = some r) :
  Calls Try.prog 56 #[.slice (some ad0) l0.length c0] w fun e w'=>∃ v0_ : Value,e = .returned (v0_) ∧ Kd.R k59 59 w' w.heap.size (fun _=>True) v0_ r ∧ Below w.heap.size w w':=by
 have hu30:=Try.underlying30
 have HR0:=Aside0.mk hr0
 have HC0:=Aside0.mk hc0
 clear hr0 hc0
 have HB:=Aside0.mk (Below.refl w.heap.size w)
 have H : ((some (([] : List (S59)) : List (S59))).bind fun y272=>(if y272.length + l0.length < 8796093022208 then (some (y272 ++ l0)) else (none))) = some r:=h
 clear h
 obtain ⟨y272,hy272⟩ : ∃ y_ : List (S59),y_ = (([] : List (S59))):=⟨_,rfl⟩
 replace H : (if y272.length + l0.length < 8796093022208 then (some (y272 ++ l0)) else (none)) = some r:=by first|(rw [hy272];with_reducible exact H)|(have H2_:=(Option.bind_some _ _).symm.trans H;rw [hy272];with_reducible exact H2_)|(have H2_:=(Option.bind_some _ _).symm.trans H;with_reducible exact H2_)|with_reducible exact H|(rw [hy272];exact H)|exact H
 have Ny272:=Aside0.mk hy272
 clear hy272
 by_cases c2 : y272.length + l0.length < 8796093022208
 rotate_left
 ·rw [if_neg c2] at H
  exact absurd H (by simp)
 rw [if_pos c2] at H
 have LMc2:=Aside0.mk c2
 clear c2
 obtain ⟨y275,hy275⟩ : ∃ y_ : List (S59),y_ = (y272 ++ l0):=⟨_,rfl⟩
 replace H : (some y275) = some r:=by first|(rw [hy275];with_reducible exact H)|(have H2_:=(Option.bind_some _ _).symm.trans H;rw [hy275];with_reducible exact H2_)|(have H2_:=(Option.bind_some _ _).symm.trans H;with_reducible exact H2_)|with_reducible exact H|(rw [hy275];exact H)|exact H
 have Ny275:=Aside0.mk hy275
 clear hy275
 obtain rfl:=Option.some.inj H
 go_enter Try.func56,Try.ntmps56
 go_wp2_with (first|((with_reducible refine gate_dst (N:=5) rfl ?_);refine R_lit k59 _ 59 ?hg (N:=5) ?hd (xs:=([] : List (S59))) (inner:=[]) (ok:=fun _=>True) (okp:=fun _=>True) ?hr ?hp (fun _ hk=>hk) trivial (Below.refl _ _) (Nat.le_refl _) (by simp) ?_;(case hd=>rfl);(case hg=>rfl);(case hr=>first|(go_simp;done)|(go_simp;rfl));(case hp=>exact (Reps.none _ _));intro v273 w3 ho4 hb hg_ hnew_;clear hg_ hnew_;(first|rw [← Ny272.out] at ho4|(simp only [Int.reduceToNat] at ho4;rw [← Ny272.out] at ho4));have HO274:=ak (R_lower ho4 (below_size (hm HB.out)));replace HB:=bs HB hb;clear hb ho4)|((with_reducible refine gate_builtin (b:=.append) (xs:=#[.tmp 5,.tmp 6]) rfl ?_);at_builtin;refine R_append_rows k59 (w0:=w) w.heap.size rfl (.tmp 5) (.tmp 6) 30 59 (.agg #[(.int .i64 0),(.int .i64 0)]) 16 rfl Try.underlying30 info59 rfl (by decide) (by omega) v273 y272 l0 _ _ _ (fun _=>True) (fun _=>False) rfl rfl ?aO ?aR (fun _ _ h=>h) (fun _ h=>h.elim) ?aF ?aB ?aS ?aL ?_;(case aR=>exact cm (C_below HR0.out HB.out));(case aB=>exact (hm HB.out));(case aF=>exact (fun _ _=>trivial));(case aO=>exact (rm HO274.out));(case aS=>exact (below_size (hm HB.out)));(case aL=>have:=LMc2.out;omega);intro v276 w5 ho hb hg hat;rw [← Ny275.out] at ho;replace HB:=ak hb;have HO277:=ak ho;clear HO274;clear ho hb hg hat))
 go_ret
 exact ⟨_,fe,rm HO277.out,hm HB.out⟩
theorem impl_Sensor_56.calls (A0 : Option Addr) (c0 : Nat) (l0 : List (S59)) (r : List (S59)) (w : World) (hr0 : Kd.C k59 w A0 l0.length l0) (hc0 : l0.length ≤ c0) (h : impl_Sensor_56.f l0 = some r) :
  Calls Try.prog 56 #[.slice A0 l0.length c0] w fun e w'=>∃ v0_ : Value,e = .returned (v0_) ∧ Kd.R k59 59 w' w.heap.size (fun _=>True) v0_ r ∧ Below w.heap.size w w':=by
  cases A0 with
  | some ad0=>exact impl_Sensor_56.calls_some ad0 c0 l0 r w hr0 hc0 h
  | none =>
    have hl : l0 = []:=by
      rcases Nat.eq_zero_or_pos l0.length with h0|h0
      · exact List.eq_nil_of_length_eq_zero h0
      · obtain ⟨ad,e,_⟩:=hr0.2.2 h0
        cases e
    subst hl
    have hr : r = []:=by simpa [impl_Sensor_56.f] using h.symm
    subst hr
    clear hr0 hc0 h
    have hu30:=Try.underlying30
    go_enter Try.func56,Try.ntmps56
    go_wp2
    go_ret
    exact ⟨_,by first|rfl|(simp;done),R_nil _ _ _ _ _,by repeat (first|exact Below.refl _ _|apply below_alloc|apply pw_below_drewN|apply below_drew1)⟩


end
end Go.Proofs.Ytknfhoghimnieaa.QFnSensors
