/- Functions that the law FnSensors comes to, as Lean functions, with the proof that the Go code does what they say: written by a program of this session over the kit's print. No condition but those named. -/
import Derived.Test.YtknfhoghimnieaaQFnSensorsx0
import Derived.Test.YtknfhoghimnieaaQFnSensorsx3
import Derived.Test.YtknfhoghimnieaaQFnSensorsx5
import Derived.Test.YtknfhoghimnieaaQFnSensorsx6
import Derived.Test.YtknfhoghimnieaaQFnSensorsx7
namespace Go.Proofs.Ytknfhoghimnieaa.QFnSensors
open Go.RowKit Go.Proofs.YtknfhoghimnieaaW.PrintWords Go.Proofs.YtknfhoghimnieaaW.PrintLast Go.Proofs.YtknfhoghimnieaaW.PrintMore Go.Proofs.Ytknfhoghimnieaa.Short
attribute [local go_sem] max2_int min2_int max_two min_two max_three min_three max_four min_four   -- for this text's walks alone
set_option linter.unusedVariables false
set_option linter.unusedSimpArgs false

section
open Kd
/-! ### spec_UnseenRuns: function 27 -/
def spec_UnseenRuns.l0 : Nat → List (S54) → List Int → Int → Int → Bool → Option ((List (S54)) × Bool)
 | 0,_,_,_,_,_=>none
 | k + 1,x6,x7,x8,x213000,x213001=>if x8 < x213000 then (if 0 ≤ x8 then (if x8 < (x7.length : Int) then (if (rd x7 x8) > 0 then (spec_UnseenRuns.l0 k x6 x7 (wrap64 (x8 + 1)) x213000 x213001) else (if x8 > 0 then (if 0 ≤ (wrap64 (x8 - 1)) then (if (wrap64 (x8 - 1)) < (x7.length : Int) then (if (rd x7 (wrap64 (x8 - 1))) = 0 then (if 0 ≤ (wrap64 ((x6.length : Int) - 1)) then (if (wrap64 ((x6.length : Int) - 1)) < (x6.length : Int) then (spec_UnseenRuns.l0 k (x6.set ((wrap64 ((x6.length : Int) - 1)) : Int).toNat (⟨(rd_T54 x6 (wrap64 ((x6.length : Int) - 1))).f0,x8⟩ : S54)) x7 (wrap64 (x8 + 1)) x213000 x213001) else (none)) else (none)) else (if x6.length < 8796093022208 then (spec_UnseenRuns.l0 k (x6 ++ [(⟨x8,x8⟩ : S54)]) x7 (wrap64 (x8 + 1)) x213000 x213001) else (none))) else (none)) else (none)) else (if x6.length < 8796093022208 then (spec_UnseenRuns.l0 k (x6 ++ [(⟨x8,x8⟩ : S54)]) x7 (wrap64 (x8 + 1)) x213000 x213001) else (none)))) else (none)) else (none)) else (some (x6,true))
def spec_UnseenRuns.f (k : Nat) (a0_0 : Int) (a0_1 : Bool) (l1 : List (S59)) : Option ((List (S54)) × Bool):=(some (([] : List (S54)) : List (S54))).bind fun y213=>((spec_l9Sensors.f k a0_0 a0_1 l1).bind fun t216=>(if t216 = true then ((spec_l9Seen.f k a0_0 a0_1 l1).bind fun t217=>(spec_UnseenRuns.l0 k y213 t217 0 a0_0 a0_1)) else (some (y213,false))))
theorem spec_UnseenRuns.mono_l : ∀ k,(∀ y0 y1 y2 y3 y4,LeO (spec_UnseenRuns.l0 k y0 y1 y2 y3 y4) (spec_UnseenRuns.l0 (k + 1) y0 y1 y2 y3 y4))
 | 0=>by
  refine ?_<;>(intros;intro r h;simp [spec_UnseenRuns.l0] at h)
 | k + 1=>by
  have ih0:=spec_UnseenRuns.mono_l k
  refine ?_<;>intros<;>(first|unfold spec_UnseenRuns.l0)<;>(repeat' first|(with_reducible exact ih0 ..)|(with_reducible exact spec_l9Seen.mono _ _ _ _)|(with_reducible exact spec_l9Sensors.mono _ _ _ _)|(with_reducible exact LeO.refl _)|(with_reducible exact LeO.none _)|(with_reducible refine LeO.ite ?_ ?_)|(with_reducible refine LeO.bind ?_ (fun _=>?_))|exact ih0 ..|exact spec_l9Seen.mono _ _ _ _|exact spec_l9Sensors.mono _ _ _ _|exact LeO.none _|refine LeO.ite ?_ ?_|refine LeO.bind ?_ (fun _=>?_))
theorem spec_UnseenRuns.mono : ∀ a0 a1 a2 k,LeO (spec_UnseenRuns.f k a0 a1 a2) (spec_UnseenRuns.f (k + 1) a0 a1 a2):=by
 intro a0 a1 a2 k
 have ih0:=spec_UnseenRuns.mono_l k
 unfold spec_UnseenRuns.f
 repeat' first
   | (with_reducible exact ih0 _ _ _ _ _)
   | (with_reducible exact spec_l9Seen.mono _ _ _ _)
   | (with_reducible exact spec_l9Sensors.mono _ _ _ _)
   | (with_reducible exact LeO.refl _)
   | (with_reducible exact LeO.none _)
   | (with_reducible refine LeO.ite ?_ ?_)
   | (with_reducible refine LeO.bind ?_ (fun _=>?_))
   | exact ih0 _ _ _ _ _
   | exact spec_l9Seen.mono _ _ _ _
   | exact spec_l9Sensors.mono _ _ _ _
   | exact LeO.none _
   | refine LeO.ite ?_ ?_
   | refine LeO.bind ?_ (fun _=>?_)
set_option maxHeartbeats 8000000 in
set_option maxRecDepth 100000 in
theorem spec_UnseenRuns.calls (k : Nat) (a0_0 : Int) (a0_1 : Bool) (A1 : Option Addr) (c1 : Nat) (l1 : List (S59)) (r1 : List (S54)) (r2 : Bool) (w : World) (hr1 : Kd.C k59 w A1 l1.length l1) (hc1 : l1.length ≤ c1) (h : spec_UnseenRuns.f k a0_0 a0_1 l1 = some (r1,r2)) :
  Calls Try.prog 27 #[.agg #[.int .i64 a0_0,.bool a0_1],.slice A1 l1.length c1] w fun e w'=>∃ v0_ : Value,e = .returned (.tuple #[v0_,.bool r2]) ∧ Kd.R k54 54 w' w.heap.size (fun _=>True) v0_ r1 ∧ Below w.heap.size w w':=by
 have hu28:=Try.underlying28
 have hu54:=Try.underlying54
 have HR1:=Aside0.mk hr1
 have HC1:=Aside0.mk hc1
 clear hr1 hc1
 have HB:=Aside0.mk (Below.refl w.heap.size w)
 have H : ((some (([] : List (S54)) : List (S54))).bind fun y213=>((spec_l9Sensors.f k a0_0 a0_1 l1).bind fun t216=>(if t216 = true then ((spec_l9Seen.f k a0_0 a0_1 l1).bind fun t217=>(spec_UnseenRuns.l0 k y213 t217 0 a0_0 a0_1)) else (some (y213,false))))) = some (r1,r2):=h
 clear h
 obtain ⟨y213,hy213⟩ : ∃ y_ : List (S54),y_ = (([] : List (S54))):=⟨_,rfl⟩
 replace H : ((spec_l9Sensors.f k a0_0 a0_1 l1).bind fun t216=>(if t216 = true then ((spec_l9Seen.f k a0_0 a0_1 l1).bind fun t217=>(spec_UnseenRuns.l0 k y213 t217 0 a0_0 a0_1)) else (some (y213,false)))) = some (r1,r2):=by first|(rw [hy213];with_reducible exact H)|(have H2_:=(Option.bind_some _ _).symm.trans H;rw [hy213];with_reducible exact H2_)|(have H2_:=(Option.bind_some _ _).symm.trans H;with_reducible exact H2_)|with_reducible exact H|(rw [hy213];exact H)|exact H
 have Ny213:=Aside0.mk hy213
 clear hy213
 replace H:=Option.bind_eq_some_iff.mp H
 obtain ⟨t216,A30,H⟩:=H
 (try dsimp only at H)
 have A3:=Aside0.mk A30
 clear A30
 by_cases c4 : t216 = true
 rotate_left
 ·replace c4:=Bool.eq_false_iff.mpr c4
  subst c4
  rw [if_neg (show ¬ (false = true) by decide)] at H
  simp only [Option.some.injEq,Prod.mk.injEq] at H
  obtain ⟨rfl,rfl⟩:=H
  go_enter Try.func27,Try.ntmps27
  go_wp2_with (first|((with_reducible refine gate_dst (N:=2) rfl ?_);refine box_event ?hg (N:=2) ?hd (cs:=#[.int .i64 a0_0,.bool a0_1]) (t:=28) ?hr ?_;(case hd=>rfl);(case hg=>rfl);(case hr=>first|(go_simp;done)|(go_simp;rfl));intro gb212 hg w42 hbox hb;have BK212:=ak hbox;have GW212:=ak ((by rw [hg];exact (below_size (hm HB.out)) : w.heap.size ≤ gb212));have GE212:=ak ((by rw [hg];exact (below_size (hm HB.out)) : w.heap.size ≤ gb212));replace HB:=bs HB hb;clear hb hbox hg)|((with_reducible refine gate_dst (N:=9) rfl ?_);refine R_lit k54 _ 54 ?hg (N:=9) ?hd (xs:=([] : List (S54))) (inner:=[]) (ok:=fun _=>True) (okp:=fun _=>True) ?hr ?hp (fun _ hk=>hk) trivial (Below.refl _ _) (Nat.le_refl _) (by simp) ?_;(case hd=>rfl);(case hg=>rfl);(case hr=>first|(go_simp;done)|(go_simp;rfl));(case hp=>exact (Reps.none _ _));intro v214 w43 ho44 hb hg_ hnew_;clear hg_ hnew_;(first|rw [← Ny213.out] at ho44|(simp only [Int.reduceToNat] at ho44;rw [← Ny213.out] at ho44));have HO215:=ak (R_lower ho44 (below_size (h1 HB.out GE212.out)));replace BK212:=kb BK212 hb;replace HB:=ak (below_step (h1 HB.out GE212.out) hb);clear hb ho44;have hcz45_0 : w43.cell? ⟨gb212,0,none⟩ = some (.int .i64 a0_0):=(blk_cell BK212.out 0).trans rfl;have hcz45_1 : w43.cell? ⟨gb212,1,none⟩ = some (.bool a0_1):=(blk_cell BK212.out 1).trans rfl;have hfz45_0:=blk_frozen BK212.out 0;have hfz45_1:=blk_frozen BK212.out 1)|((with_reducible refine gate_callee (f:=43) rfl ?_);refine goesL_ (some 12) rfl rfl Try.func43 (by kernel_rfl) rfl #[.agg #[.int .i64 a0_0,.bool a0_1],.slice A1 l1.length c1] rfl gl ?_;(with_reducible refine (spec_l9Sensors.calls k a0_0 a0_1 _ _ l1 false _ ?side1 ?side2 A3.out).mono ?_);(case side1=>exact cm (C_below HR1.out HB.out));(case side2=>exact HC1.out);rintro e w46 ⟨rfl,hb⟩;refine ⟨_,rfl,?_⟩;replace HO215:=rb HO215 hb;replace BK212:=kb BK212 hb;replace HB:=ak (below_step (h1 HB.out GE212.out) hb);(try clear hb);(try clear hk);(try clear hi)))
  go_ret2
  exact ⟨_,fe,rm HO215.out,h1 HB.out GE212.out⟩
 subst c4
 rw [if_pos rfl] at H
 replace H:=Option.bind_eq_some_iff.mp H
 obtain ⟨t217,A50,H⟩:=H
 (try dsimp only at H)
 have A5:=Aside0.mk A50
 clear A50
 have H':=Aside0.mk H
 clear H
 go_enter Try.func27,Try.ntmps27
 go_wp2_with (first|((with_reducible refine gate_dst (N:=2) rfl ?_);refine box_event ?hg (N:=2) ?hd (cs:=#[.int .i64 a0_0,.bool a0_1]) (t:=28) ?hr ?_;(case hd=>rfl);(case hg=>rfl);(case hr=>first|(go_simp;done)|(go_simp;rfl));intro gb212 hg w6 hbox hb;have BK212:=ak hbox;have GW212:=ak ((by rw [hg];exact (below_size (hm HB.out)) : w.heap.size ≤ gb212));have GE212:=ak ((by rw [hg];exact (below_size (hm HB.out)) : w.heap.size ≤ gb212));replace HB:=bs HB hb;clear hb hbox hg)|((with_reducible refine gate_dst (N:=9) rfl ?_);refine R_lit k54 _ 54 ?hg (N:=9) ?hd (xs:=([] : List (S54))) (inner:=[]) (ok:=fun _=>True) (okp:=fun _=>True) ?hr ?hp (fun _ hk=>hk) trivial (Below.refl _ _) (Nat.le_refl _) (by simp) ?_;(case hd=>rfl);(case hg=>rfl);(case hr=>first|(go_simp;done)|(go_simp;rfl));(case hp=>exact (Reps.none _ _));intro v214 w7 ho8 hb hg_ hnew_;clear hg_ hnew_;(first|rw [← Ny213.out] at ho8|(simp only [Int.reduceToNat] at ho8;rw [← Ny213.out] at ho8));have HO215:=ak (R_lower ho8 (below_size (h1 HB.out GE212.out)));replace BK212:=kb BK212 hb;replace HB:=ak (below_step (h1 HB.out GE212.out) hb);clear hb ho8;have hcz9_0 : w7.cell? ⟨gb212,0,none⟩ = some (.int .i64 a0_0):=(blk_cell BK212.out 0).trans rfl;have hcz9_1 : w7.cell? ⟨gb212,1,none⟩ = some (.bool a0_1):=(blk_cell BK212.out 1).trans rfl;have hfz9_0:=blk_frozen BK212.out 0;have hfz9_1:=blk_frozen BK212.out 1)|((with_reducible refine gate_callee (f:=43) rfl ?_);refine goesL_ (some 12) rfl rfl Try.func43 (by kernel_rfl) rfl #[.agg #[.int .i64 a0_0,.bool a0_1],.slice A1 l1.length c1] rfl gl ?_;(with_reducible refine (spec_l9Sensors.calls k a0_0 a0_1 _ _ l1 true _ ?side1 ?side2 A3.out).mono ?_);(case side1=>exact cm (C_below HR1.out HB.out));(case side2=>exact HC1.out);rintro e w10 ⟨rfl,hb⟩;refine ⟨_,rfl,?_⟩;replace HO215:=rb HO215 hb;replace BK212:=kb BK212 hb;replace HB:=ak (below_step (h1 HB.out GE212.out) hb);(try clear hb);(try clear hk);(try clear hi);have hcz11_0 : w10.cell? ⟨gb212,0,none⟩ = some (.int .i64 a0_0):=(blk_cell BK212.out 0).trans rfl;have hcz11_1 : w10.cell? ⟨gb212,1,none⟩ = some (.bool a0_1):=(blk_cell BK212.out 1).trans rfl;have hfz11_0:=blk_frozen BK212.out 0;have hfz11_1:=blk_frozen BK212.out 1)|((with_reducible refine gate_callee (f:=53) rfl ?_);refine goesL_ (some 17) rfl rfl Try.func53 (by kernel_rfl) rfl #[.agg #[.int .i64 a0_0,.bool a0_1],.slice A1 l1.length c1] rfl gl ?_;(with_reducible refine (spec_l9Seen.calls k a0_0 a0_1 _ _ l1 t217 _ ?side1 ?side2 A5.out).mono ?_);(case side1=>exact cm (C_below HR1.out HB.out));(case side2=>exact HC1.out);rintro e w12 ⟨v218,rfl,ho0,hb⟩;refine ⟨_,rfl,?_⟩;replace HO215:=rb HO215 hb;have HO219:=ak (R_lower ho0 (below_size (h1 HB.out GE212.out)));replace BK212:=kb BK212 hb;replace HB:=ak (below_step (h1 HB.out GE212.out) hb);(try clear hb);(try clear hk);(try clear hi);(try clear ho0)))
 go_loopg [6,8] k (fun kq v6 v8 w'=>∃ (x6_1 : List (S54)) (x8_1 : Int),v8 = .int .i64 x8_1 ∧ Aside0 (spec_UnseenRuns.l0 kq x6_1 t217 x8_1 a0_0 a0_1 = some (r1,r2)) ∧ Aside0 (kq ≤ k) ∧ Aside0 (Kd.R k54 54 w' w.heap.size (fun _=>True) v6 x6_1) ∧ Aside0 (Kd.R (Kd.int .i64) 3 w' w.heap.size (fun _=>True) v218 t217) ∧ Aside0 (w'.heap[gb212]? = some (.cells #[.int .i64 a0_0,.bool a0_1] 28 (0,0))) ∧ Aside0 (Below w.heap.size w w'))
 case atStart=>exact ⟨(y213),(0),fd,H',⟨Nat.le_refl _⟩,⟨rm HO215.out⟩,⟨rm HO219.out⟩,⟨bm BK212.out⟩,⟨h1 HB.out GE212.out⟩⟩
 clear H'
 try clear c1
 try clear c2
 try clear p2
 try clear c4
 try clear c5
 try clear hcz11_0
 try clear hcz11_1
 try clear hcz9_0
 try clear hcz9_1
 try clear hfz11_0
 try clear hfz11_1
 try clear hfz9_0
 try clear hfz9_1
 obtain ⟨x6_1,x8_1,rfl,HA,HK1,HO_6,HO_7,BK212,HB⟩:=hrel
 cases gk with
 | zero=>exact absurd HA.out (by simp [spec_UnseenRuns.l0])
 | succ k1 =>
  have H:=HA.out
  clear HA
  simp only [spec_UnseenRuns.l0] at H
  by_cases c13 : x8_1 < a0_0
  rotate_left
  ·rw [if_neg c13] at H
   have c13b0 : decide (x8_1 < a0_0) = false:=decide_eq_false c13
   clear c13
   simp only [Option.some.injEq,Prod.mk.injEq] at H
   obtain ⟨rfl,rfl⟩:=H
   have hcz41_0 : wr.cell? ⟨gb212,0,none⟩ = some (.int .i64 a0_0):=(blk_cell BK212.out 0).trans rfl
   have hcz41_1 : wr.cell? ⟨gb212,1,none⟩ = some (.bool a0_1):=(blk_cell BK212.out 1).trans rfl
   have hfz41_0:=blk_frozen BK212.out 0
   have hfz41_1:=blk_frozen BK212.out 1
   go_wp2
   go_ret2
   exact ⟨_,fe,rm HO_6.out,h1 HB.out GE212.out⟩
  rw [if_pos c13] at H
  have c13b0 : decide (x8_1 < a0_0) = true:=decide_eq_true c13
  clear c13
  by_cases c14 : 0 ≤ x8_1
  rotate_left
  ·rw [if_neg c14] at H
   exact absurd H (by simp)
  rw [if_pos c14] at H
  have c14b0 : decide (0 ≤ x8_1) = true:=decide_eq_true c14
  clear c14
  by_cases c15 : x8_1 < (t217.length : Int)
  rotate_left
  ·rw [if_neg c15] at H
   exact absurd H (by simp)
  rw [if_pos c15] at H
  have c15b0 : decide (x8_1 < (t217.length : Int)) = true:=decide_eq_true c15
  clear c15
  by_cases c16 : (rd t217 x8_1) > 0
  ·rw [if_pos c16] at H
   have c16b0 : decide (0 < (rd t217 x8_1)) = true:=decide_eq_true c16
   clear c16
   have H':=Aside0.mk H
   clear H
   have hcz17_0 : wr.cell? ⟨gb212,0,none⟩ = some (.int .i64 a0_0):=(blk_cell BK212.out 0).trans rfl
   have hcz17_1 : wr.cell? ⟨gb212,1,none⟩ = some (.bool a0_1):=(blk_cell BK212.out 1).trans rfl
   have hfz17_0:=blk_frozen BK212.out 0
   have hfz17_1:=blk_frozen BK212.out 1
   obtain ⟨Ao18,co18,eo18⟩:=R_slice HO_7.out
   subst eo18
   have p220 : 0 ≤ (x8_1 : Int):=od
   have q220 : x8_1 < (t217.length : Int):=od
   obtain ⟨ad220,e220,hx220_0⟩:=Kd.at_int (R_reads' HO_7.out).2.2 x8_1 p220 q220
   cases e220
   replace p220:=eq_true p220
   replace q220:=eq_true q220
   go_wp2
   go_roundg k1
   case measure=>have:=HK1.out;omega
   case rel=>exact ⟨(x6_1),(wrap64 (x8_1 + 1)),fd,H',⟨by have:=HK1.out;omega⟩,⟨rm HO_6.out⟩,⟨rm HO_7.out⟩,⟨bm BK212.out⟩,⟨h1 HB.out GE212.out⟩⟩
  rw [if_neg c16] at H
  have c16b0 : decide (0 < (rd t217 x8_1)) = false:=decide_eq_false c16
  clear c16
  by_cases c19 : x8_1 > 0
  rotate_left
  ·rw [if_neg c19] at H
   have c19b0 : decide (0 < x8_1) = false:=decide_eq_false c19
   clear c19
   by_cases c37 : x6_1.length < 8796093022208
   rotate_left
   ·rw [if_neg c37] at H
    exact absurd H (by simp)
   rw [if_pos c37] at H
   have LMc37:=Aside0.mk c37
   clear c37
   obtain ⟨y226,hy226⟩ : ∃ y_ : List (S54),y_ = (x6_1 ++ [(⟨x8_1,x8_1⟩ : S54)]):=⟨_,rfl⟩
   replace H : (spec_UnseenRuns.l0 k1 y226 t217 (wrap64 (x8_1 + 1)) a0_0 a0_1) = some (r1,r2):=by first|(rw [hy226];with_reducible exact H)|(have H2_:=(Option.bind_some _ _).symm.trans H;rw [hy226];with_reducible exact H2_)|(have H2_:=(Option.bind_some _ _).symm.trans H;with_reducible exact H2_)|with_reducible exact H|(rw [hy226];exact H)|exact H
   have Ny226:=Aside0.mk hy226
   clear hy226
   have H':=Aside0.mk H
   clear H
   have hcz38_0 : wr.cell? ⟨gb212,0,none⟩ = some (.int .i64 a0_0):=(blk_cell BK212.out 0).trans rfl
   have hcz38_1 : wr.cell? ⟨gb212,1,none⟩ = some (.bool a0_1):=(blk_cell BK212.out 1).trans rfl
   have hfz38_0:=blk_frozen BK212.out 0
   have hfz38_1:=blk_frozen BK212.out 1
   obtain ⟨Ao39,co39,eo39⟩:=R_slice HO_7.out
   subst eo39
   have p220 : 0 ≤ (x8_1 : Int):=od
   have q220 : x8_1 < (t217.length : Int):=od
   obtain ⟨ad220,e220,hx220_0⟩:=Kd.at_int (R_reads' HO_7.out).2.2 x8_1 p220 q220
   cases e220
   replace p220:=eq_true p220
   replace q220:=eq_true q220
   go_wp2_with (first|((with_reducible refine gate_builtin (b:=.append) (xs:=#[.tmp 46,.tmp 50]) rfl ?_);at_builtin;refine R_append k54 (w0:=w) w.heap.size rfl (.tmp 46) (.tmp 50) 44 54 (.agg #[(.int .i64 0),(.int .i64 0)]) 16 rfl Try.underlying44 info54 rfl (by decide) (by omega) u6 x6_1 (⟨x8_1,x8_1⟩ : S54) [.int .i64 x8_1,.int .i64 x8_1] (fun _=>True) (fun _=>False) rfl rfl ?aP (fun _ hk=>hk.elim) ?aF ?aO ?aB ?aS ?aL ?_;(case aP=>exact k54_mkM _ _ _ (⟨x8_1,x8_1⟩ : S54));(case aB=>exact (h1 HB.out GE212.out));(case aF=>exact (fun _ _=>trivial));(case aO=>exact (rm HO_6.out));(case aS=>exact (below_size (h1 HB.out GE212.out)));(case aL=>have:=LMc37.out;omega);intro v227 w40 ho hb hg hat;rw [← Ny226.out] at ho;replace HO_7:=ak (R_over' (rm HO_7.out) (R_typed (rm HO_6.out)) (by decide) hg);replace BK212:=ak (blk_grown (g:=gb212) (o:=.cells #[.int .i64 a0_0,.bool a0_1] 28 (0,0)) (bm BK212.out) hg (R_ne HO_6.out BK212.out (by decide)));replace HB:=ak hb;have HO228:=ak ho;clear HO_6;clear ho hb hg hat))
   go_roundg k1
   case measure=>have:=HK1.out;omega
   case rel=>exact ⟨(y226),(wrap64 (x8_1 + 1)),fd,H',⟨by have:=HK1.out;omega⟩,⟨rm HO228.out⟩,⟨rm HO_7.out⟩,⟨bm BK212.out⟩,⟨h1 HB.out GE212.out⟩⟩
  rw [if_pos c19] at H
  have c19b0 : decide (0 < x8_1) = true:=decide_eq_true c19
  clear c19
  obtain ⟨ji20,hji20⟩ : ∃ j_ : Int,(wrap64 (x8_1 - 1)) = j_:=⟨_,rfl⟩
  replace H : (if 0 ≤ (ji20) then (if (ji20) < (t217.length : Int) then (if (rd t217 (ji20)) = 0 then (if 0 ≤ (wrap64 ((x6_1.length : Int) - 1)) then (if (wrap64 ((x6_1.length : Int) - 1)) < (x6_1.length : Int) then (spec_UnseenRuns.l0 k1 (x6_1.set ((wrap64 ((x6_1.length : Int) - 1)) : Int).toNat (⟨(rd_T54 x6_1 (wrap64 ((x6_1.length : Int) - 1))).f0,x8_1⟩ : S54)) t217 (wrap64 (x8_1 + 1)) a0_0 a0_1) else (none)) else (none)) else (if x6_1.length < 8796093022208 then (spec_UnseenRuns.l0 k1 (x6_1 ++ [(⟨x8_1,x8_1⟩ : S54)]) t217 (wrap64 (x8_1 + 1)) a0_0 a0_1) else (none))) else (none)) else (none)) = some (r1,r2):=by first|(rw [hji20] at H;exact H)|(simp only [hji20] at H ⊢;exact H)
  have hji20w : (IntKind.i64.wrap (x8_1 - 1)) = ji20:=(i64_w _).trans hji20
  by_cases c21 : 0 ≤ (ji20)
  rotate_left
  ·rw [if_neg c21] at H
   exact absurd H (by simp)
  rw [if_pos c21] at H
  have c21b0 : decide (0 ≤ (ji20)) = true:=decide_eq_true c21
  clear c21
  by_cases c22 : (ji20) < (t217.length : Int)
  rotate_left
  ·rw [if_neg c22] at H
   exact absurd H (by simp)
  rw [if_pos c22] at H
  have c22b0 : decide ((ji20) < (t217.length : Int)) = true:=decide_eq_true c22
  clear c22
  by_cases c23 : (rd t217 (ji20)) = 0
  rotate_left
  ·rw [if_neg c23] at H
   have c23b0 : ((rd t217 (ji20)) == 0) = false:=beq_eq_false_iff_ne.mpr c23
   have c23b1 : ((rd t217 (ji20)) != 0) = true:=bne_iff_ne.mpr c23
   by_cases c33 : x6_1.length < 8796093022208
   rotate_left
   ·rw [if_neg c33] at H
    exact absurd H (by simp)
   rw [if_pos c33] at H
   have LMc33:=Aside0.mk c33
   clear c33
   obtain ⟨y223,hy223⟩ : ∃ y_ : List (S54),y_ = (x6_1 ++ [(⟨x8_1,x8_1⟩ : S54)]):=⟨_,rfl⟩
   replace H : (spec_UnseenRuns.l0 k1 y223 t217 (wrap64 (x8_1 + 1)) a0_0 a0_1) = some (r1,r2):=by first|(rw [hy223];with_reducible exact H)|(have H2_:=(Option.bind_some _ _).symm.trans H;rw [hy223];with_reducible exact H2_)|(have H2_:=(Option.bind_some _ _).symm.trans H;with_reducible exact H2_)|with_reducible exact H|(rw [hy223];exact H)|exact H
   have Ny223:=Aside0.mk hy223
   clear hy223
   have H':=Aside0.mk H
   clear H
   have hcz34_0 : wr.cell? ⟨gb212,0,none⟩ = some (.int .i64 a0_0):=(blk_cell BK212.out 0).trans rfl
   have hcz34_1 : wr.cell? ⟨gb212,1,none⟩ = some (.bool a0_1):=(blk_cell BK212.out 1).trans rfl
   have hfz34_0:=blk_frozen BK212.out 0
   have hfz34_1:=blk_frozen BK212.out 1
   obtain ⟨Ao35,co35,eo35⟩:=R_slice HO_7.out
   subst eo35
   have p220 : 0 ≤ (x8_1 : Int):=od
   have q220 : x8_1 < (t217.length : Int):=od
   obtain ⟨ad220,e220,hx220_0⟩:=Kd.at_int (R_reads' HO_7.out).2.2 x8_1 p220 q220
   cases e220
   replace p220:=eq_true p220
   replace q220:=eq_true q220
   have p221 : 0 ≤ ((ji20) : Int):=od
   have q221 : (ji20) < (t217.length : Int):=od
   obtain ⟨ad221,e221,hx221_0⟩:=Kd.at_int (R_reads' HO_7.out).2.2 (ji20) p221 q221
   obtain rfl : ad220 = ad221:=(by injection e221)
   replace p221:=eq_true p221
   replace q221:=eq_true q221
   go_wp2_with (first|((with_reducible refine gate_builtin (b:=.append) (xs:=#[.tmp 46,.tmp 50]) rfl ?_);at_builtin;refine R_append k54 (w0:=w) w.heap.size rfl (.tmp 46) (.tmp 50) 44 54 (.agg #[(.int .i64 0),(.int .i64 0)]) 16 rfl Try.underlying44 info54 rfl (by decide) (by omega) u6 x6_1 (⟨x8_1,x8_1⟩ : S54) [.int .i64 x8_1,.int .i64 x8_1] (fun _=>True) (fun _=>False) rfl rfl ?aP (fun _ hk=>hk.elim) ?aF ?aO ?aB ?aS ?aL ?_;(case aP=>exact k54_mkM _ _ _ (⟨x8_1,x8_1⟩ : S54));(case aB=>exact (h1 HB.out GE212.out));(case aF=>exact (fun _ _=>trivial));(case aO=>exact (rm HO_6.out));(case aS=>exact (below_size (h1 HB.out GE212.out)));(case aL=>have:=LMc33.out;omega);intro v224 w36 ho hb hg hat;rw [← Ny223.out] at ho;replace HO_7:=ak (R_over' (rm HO_7.out) (R_typed (rm HO_6.out)) (by decide) hg);replace BK212:=ak (blk_grown (g:=gb212) (o:=.cells #[.int .i64 a0_0,.bool a0_1] 28 (0,0)) (bm BK212.out) hg (R_ne HO_6.out BK212.out (by decide)));replace HB:=ak hb;have HO225:=ak ho;clear HO_6;clear ho hb hg hat))
   go_roundg k1
   case measure=>have:=HK1.out;omega
   case rel=>exact ⟨(y223),(wrap64 (x8_1 + 1)),fd,H',⟨by have:=HK1.out;omega⟩,⟨rm HO225.out⟩,⟨rm HO_7.out⟩,⟨bm BK212.out⟩,⟨h1 HB.out GE212.out⟩⟩
  rw [if_pos c23] at H
  have c23b0 : ((rd t217 (ji20)) == 0) = true:=beq_iff_eq.mpr c23
  have c23b1 : ((rd t217 (ji20)) != 0) = false:=bne_eq_false_iff_eq.mpr c23
  clear c23
  obtain ⟨ji24,hji24⟩ : ∃ j_ : Int,(wrap64 ((x6_1.length : Int) - 1)) = j_:=⟨_,rfl⟩
  replace H : (if 0 ≤ (ji24) then (if (ji24) < (x6_1.length : Int) then (spec_UnseenRuns.l0 k1 (x6_1.set ((ji24) : Int).toNat (⟨(rd_T54 x6_1 (ji24)).f0,x8_1⟩ : S54)) t217 (wrap64 (x8_1 + 1)) a0_0 a0_1) else (none)) else (none)) = some (r1,r2):=by first|(rw [hji24] at H;exact H)|(simp only [hji24] at H ⊢;exact H)
  have hji24w : (IntKind.i64.wrap ((x6_1.length : Int) - 1)) = ji24:=(i64_w _).trans hji24
  by_cases c25 : 0 ≤ (ji24)
  rotate_left
  ·rw [if_neg c25] at H
   exact absurd H (by simp)
  rw [if_pos c25] at H
  have c25b0 : decide (0 ≤ (ji24)) = true:=decide_eq_true c25
  clear c25
  by_cases c26 : (ji24) < (x6_1.length : Int)
  rotate_left
  ·rw [if_neg c26] at H
   exact absurd H (by simp)
  rw [if_pos c26] at H
  have c26b0 : decide ((ji24) < (x6_1.length : Int)) = true:=decide_eq_true c26
  clear c26
  obtain ⟨y222,hy222⟩ : ∃ y_ : List (S54),y_ = (x6_1.set ((ji24) : Int).toNat (⟨(rd_T54 x6_1 (ji24)).f0,x8_1⟩ : S54)):=⟨_,rfl⟩
  replace H : (spec_UnseenRuns.l0 k1 y222 t217 (wrap64 (x8_1 + 1)) a0_0 a0_1) = some (r1,r2):=by first|(rw [hy222];with_reducible exact H)|(have H2_:=(Option.bind_some _ _).symm.trans H;rw [hy222];with_reducible exact H2_)|(have H2_:=(Option.bind_some _ _).symm.trans H;with_reducible exact H2_)|with_reducible exact H|(rw [hy222];exact H)|exact H
  have Ny222:=Aside0.mk hy222
  clear hy222
  have H':=Aside0.mk H
  clear H
  have hcz28_0 : wr.cell? ⟨gb212,0,none⟩ = some (.int .i64 a0_0):=(blk_cell BK212.out 0).trans rfl
  have hcz28_1 : wr.cell? ⟨gb212,1,none⟩ = some (.bool a0_1):=(blk_cell BK212.out 1).trans rfl
  have hfz28_0:=blk_frozen BK212.out 0
  have hfz28_1:=blk_frozen BK212.out 1
  obtain ⟨Ao29,co29,eo29⟩:=R_slice HO_7.out
  subst eo29
  have p220 : 0 ≤ (x8_1 : Int):=od
  have q220 : x8_1 < (t217.length : Int):=od
  obtain ⟨ad220,e220,hx220_0⟩:=Kd.at_int (R_reads' HO_7.out).2.2 x8_1 p220 q220
  cases e220
  replace p220:=eq_true p220
  replace q220:=eq_true q220
  have p221 : 0 ≤ ((ji20) : Int):=od
  have q221 : (ji20) < (t217.length : Int):=od
  obtain ⟨ad221,e221,hx221_0⟩:=Kd.at_int (R_reads' HO_7.out).2.2 (ji20) p221 q221
  obtain rfl : ad220 = ad221:=(by injection e221)
  replace p221:=eq_true p221
  replace q221:=eq_true q221
  obtain ⟨Ao30,co30,eo30⟩:=R_slice HO_6.out
  subst eo30
  have p27 : 0 ≤ ((ji24) : Int):=od
  have q27 : ((ji24) : Int) < ((x6_1.length : Int) : Int):=od
  obtain ⟨go27,co27,eo27,gb27,gl27,cl27,HG27⟩:=R_form HO_6.out (by omega)
  (first|cases eo27|(injection eo27 with ea_ en_ ec_;(first|subst ea_|(injection ea_ with ea_;subst ea_));subst ec_;clear en_))
  have GB27:=Aside0.mk gb27
  have GG27:=Aside0.mk HG27
  clear gb27 gl27 HG27
  obtain ⟨ce27,hcl27,hM27,hcc27,hfr27⟩:=R_elem HO_6.out z54 ((ji24) : Int) p27 q27
  obtain rfl:=k54_openM hM27
  have hx27_0 : wr.cell? ⟨go27,((ji24) : Int).toNat * 2,none⟩ = some (.int .i64 ((rd_T54 x6_1 (ji24)).f0)):=hcc27 0 _ rfl
  have hx27_1 : wr.cell? ⟨go27,((ji24) : Int).toNat * 2 + 1,none⟩ = some (.int .i64 ((rd_T54 x6_1 (ji24)).f1)):=hcc27 1 _ rfl
  have hf27_0 : wr.frozen? ⟨go27,((ji24) : Int).toNat * 2,none⟩ = false:=hfr27 0
  have hf27_1 : wr.frozen? ⟨go27,((ji24) : Int).toNat * 2 + 1,none⟩ = false:=hfr27 1
  clear hcl27 hcc27 hfr27 hM27
  replace p27:=eq_true p27
  replace q27:=eq_true q27
  have HX31:=Aside0.mk (show Kd.R k54 54 wr w.heap.size (fun _=>True) (.slice (some ⟨go27,0,none⟩) x6_1.length co30) x6_1 from (rm HO_6.out))
  obtain ⟨ce31,hcl31,hM31,hcc31,hfr31⟩:=R_elem HX31.out z54 ((ji24) : Int) (od) (by have h_ : ((ji24) : Int) < ((x6_1.length : Int) : Int):=od;first|exact h_|(have e_:=(R_reads' HO_6.out).1;omega)|simpa using h_)
  obtain rfl:=k54_openM hM31
  have HP31:=R_seg HX31.out ((ji24) : Int) (od) (by have h_ : ((ji24) : Int) < ((x6_1.length : Int) : Int):=od;first|exact h_|(have e_:=(R_reads' HO_6.out).1;omega)|simpa using h_) (seg:=[.int .i64 x8_1]) (j:=1) hcl31 hcc31 (show 2 ≤ 2 from by decide) (x':=(⟨(rd_T54 x6_1 (ji24)).f0,x8_1⟩ : S54)) (k54_mkM _ _ _ (⟨(rd_T54 x6_1 (ji24)).f0,x8_1⟩ : S54) ) (fun _ hk=>hk)
  have hx31_1:=hcc31 1 _ rfl
  (try simp only [show (k54).sz = 2 from rfl,Nat.mul_one,Nat.add_zero] at hx31_1)
  have hf31_1:=hfr31 1
  (try simp only [show (k54).sz = 2 from rfl,Nat.mul_one,Nat.add_zero] at hf31_1)
  clear hcl31 hcc31 hfr31 hM31
  go_wp2_with (first|((with_reducible refine gate_store (t:=3) (p:=45) rfl ?_);refine store_event (t:=3) (p:=45) (v:=?vo_w32) (w1:=(wr.setCell ⟨go27,((ji24) : Int).toNat * 2 + 1,none⟩ (.int .i64 x8_1))) ?hg ?ho ?hn ?hr ?_;(case ho=>rfl);(case hg=>rfl);(case hn=>rfl);(case hr=>first|(go_simp;done)|(go_simp;rfl));intro w32 hw;have hg : wr.grownBy w32 (some go27):=(by rw [hw];exact HP31.2);have hp_ : Kd.R k54 54 w32 w.heap.size (fun _=>True) (.slice (some ⟨go27,0,none⟩) x6_1.length co30) y222:=(by rw [hw,Ny222.out];exact HP31.1);clear HP31;replace HO_7:=ak (R_over' (v:=(.slice (some ⟨go27,0,none⟩) x6_1.length co30)) (rm HO_7.out) (R_typed HO_6.out) (by decide) hg);replace BK212:=ak (blk_grown (g:=gb212) (o:=.cells #[.int .i64 a0_0,.bool a0_1] 28 (0,0)) (bm BK212.out) hg (R_ne HO_6.out BK212.out (by decide)));replace HO_6:=ak hp_;replace HB:=ak ((by rw [hw];exact below_set (HB.out) GB27.out : Below w.heap.size w w32));clear hg hw hp_))
  go_roundg k1
  case measure=>have:=HK1.out;omega
  case rel=>exact ⟨(y222),(wrap64 (x8_1 + 1)),fd,H',⟨by have:=HK1.out;omega⟩,⟨rm HO_6.out⟩,⟨rm HO_7.out⟩,⟨bm BK212.out⟩,⟨h1 HB.out GE212.out⟩⟩

/-! ### impl_UnseenRuns: function 28 -/
def impl_UnseenRuns.l0 : Nat → List (S54) → List Int → Int → Int → Option ((List (S54)) × Bool)
 | 0,_,_,_,_=>none
 | k + 1,x6,x17,x18,x19=>if x19 < x18 then (if 0 ≤ x19 then (if x19 < (x17.length : Int) then (if (rd x17 x19) > 0 then (impl_UnseenRuns.l0 k x6 x17 x18 (wrap64 (x19 + 1))) else (if (x6.length : Int) > 0 then (if 0 ≤ (wrap64 ((x6.length : Int) - 1)) then (if (wrap64 ((x6.length : Int) - 1)) < (x6.length : Int) then (if ((rd_T54 x6 (wrap64 ((x6.length : Int) - 1))).f1) = (wrap64 (x19 - 1)) then (impl_UnseenRuns.l0 k (x6.set ((wrap64 ((x6.length : Int) - 1)) : Int).toNat (⟨(rd_T54 x6 (wrap64 ((x6.length : Int) - 1))).f0,x19⟩ : S54)) x17 x18 (wrap64 (x19 + 1))) else (if x6.length < 8796093022208 then (impl_UnseenRuns.l0 k (x6 ++ [(⟨x19,x19⟩ : S54)]) x17 x18 (wrap64 (x19 + 1))) else (none))) else (none)) else (none)) else (if x6.length < 8796093022208 then (impl_UnseenRuns.l0 k (x6 ++ [(⟨x19,x19⟩ : S54)]) x17 x18 (wrap64 (x19 + 1))) else (none)))) else (none)) else (none)) else (some (x6,true))
def impl_UnseenRuns.f (k : Nat) (a0_0 : Int) (a0_1 : Bool) (l1 : List (S59)) : Option ((List (S54)) × Bool):=(impl_isGuarded.f k a0_0 a0_1 l1).bind fun t230=>(if t230 = true then ((impl_Road_seen.f k a0_0 a0_1 l1).bind fun t234=>(impl_UnseenRuns.l0 k (([] : List (S54))) t234 (t234.length : Int) 0)) else (some (([] : List (S54)),false)))
theorem impl_UnseenRuns.mono_l : ∀ k,(∀ y0 y1 y2 y3,LeO (impl_UnseenRuns.l0 k y0 y1 y2 y3) (impl_UnseenRuns.l0 (k + 1) y0 y1 y2 y3))
 | 0=>by
  refine ?_<;>(intros;intro r h;simp [impl_UnseenRuns.l0] at h)
 | k + 1=>by
  have ih0:=impl_UnseenRuns.mono_l k
  refine ?_<;>intros<;>(first|unfold impl_UnseenRuns.l0)<;>(repeat' first|(with_reducible exact ih0 ..)|(with_reducible exact impl_Road_seen.mono _ _ _ _)|(with_reducible exact impl_isGuarded.mono _ _ _ _)|(with_reducible exact LeO.refl _)|(with_reducible exact LeO.none _)|(with_reducible refine LeO.ite ?_ ?_)|(with_reducible refine LeO.bind ?_ (fun _=>?_))|exact ih0 ..|exact impl_Road_seen.mono _ _ _ _|exact impl_isGuarded.mono _ _ _ _|exact LeO.none _|refine LeO.ite ?_ ?_|refine LeO.bind ?_ (fun _=>?_))
theorem impl_UnseenRuns.mono : ∀ a0 a1 a2 k,LeO (impl_UnseenRuns.f k a0 a1 a2) (impl_UnseenRuns.f (k + 1) a0 a1 a2):=by
 intro a0 a1 a2 k
 have ih0:=impl_UnseenRuns.mono_l k
 unfold impl_UnseenRuns.f
 repeat' first
   | (with_reducible exact ih0 _ _ _ _)
   | (with_reducible exact impl_Road_seen.mono _ _ _ _)
   | (with_reducible exact impl_isGuarded.mono _ _ _ _)
   | (with_reducible exact LeO.refl _)
   | (with_reducible exact LeO.none _)
   | (with_reducible refine LeO.ite ?_ ?_)
   | (with_reducible refine LeO.bind ?_ (fun _=>?_))
   | exact ih0 _ _ _ _
   | exact impl_Road_seen.mono _ _ _ _
   | exact impl_isGuarded.mono _ _ _ _
   | exact LeO.none _
   | refine LeO.ite ?_ ?_
   | refine LeO.bind ?_ (fun _=>?_)
set_option maxHeartbeats 8000000 in
set_option maxRecDepth 100000 in
theorem impl_UnseenRuns.calls (k : Nat) (a0_0 : Int) (a0_1 : Bool) (A1 : Option Addr) (c1 : Nat) (l1 : List (S59)) (r1 : List (S54)) (r2 : Bool) (w : World) (hr1 : Kd.C k59 w A1 l1.length l1) (hc1 : l1.length ≤ c1) (h : impl_UnseenRuns.f k a0_0 a0_1 l1 = some (r1,r2)) :
  Calls Try.prog 28 #[.agg #[.int .i64 a0_0,.bool a0_1],.slice A1 l1.length c1] w fun e w'=>∃ v0_ : Value,e = .returned (.tuple #[v0_,.bool r2]) ∧ Kd.R k54 54 w' w.heap.size (fun _=>True) v0_ r1 ∧ Below w.heap.size w w':=by
 have hu28:=Try.underlying28
 have hu54:=Try.underlying54
 have HR1:=Aside0.mk hr1
 have HC1:=Aside0.mk hc1
 clear hr1 hc1
 have HB:=Aside0.mk (Below.refl w.heap.size w)
 have H : ((impl_isGuarded.f k a0_0 a0_1 l1).bind fun t230=>(if t230 = true then ((impl_Road_seen.f k a0_0 a0_1 l1).bind fun t234=>(impl_UnseenRuns.l0 k (([] : List (S54))) t234 (t234.length : Int) 0)) else (some (([] : List (S54)),false)))) = some (r1,r2):=h
 clear h
 replace H:=Option.bind_eq_some_iff.mp H
 obtain ⟨t230,A30,H⟩:=H
 (try dsimp only at H)
 have A3:=Aside0.mk A30
 clear A30
 by_cases c4 : t230 = true
 rotate_left
 ·replace c4:=Bool.eq_false_iff.mpr c4
  subst c4
  rw [if_neg (show ¬ (false = true) by decide)] at H
  simp only [Option.some.injEq,Prod.mk.injEq] at H
  obtain ⟨rfl,rfl⟩:=H
  go_enter Try.func28,Try.ntmps28
  go_wp2_with (first|((with_reducible refine gate_dst (N:=2) rfl ?_);refine box_event ?hg (N:=2) ?hd (cs:=#[.int .i64 a0_0,.bool a0_1]) (t:=28) ?hr ?_;(case hd=>rfl);(case hg=>rfl);(case hr=>first|(go_simp;done)|(go_simp;rfl));intro gb229 hg w34 hbox hb;have BK229:=ak hbox;have GW229:=ak ((by rw [hg];exact (below_size (hm HB.out)) : w.heap.size ≤ gb229));have GE229:=ak ((by rw [hg];exact (below_size (hm HB.out)) : w.heap.size ≤ gb229));replace HB:=bs HB hb;clear hb hbox hg;have hcz35_0 : w34.cell? ⟨gb229,0,none⟩ = some (.int .i64 a0_0):=(blk_cell BK229.out 0).trans rfl;have hcz35_1 : w34.cell? ⟨gb229,1,none⟩ = some (.bool a0_1):=(blk_cell BK229.out 1).trans rfl;have hfz35_0:=blk_frozen BK229.out 0;have hfz35_1:=blk_frozen BK229.out 1)|((with_reducible refine gate_callee (f:=48) rfl ?_);refine goesL_ (some 12) rfl rfl Try.func48 (by kernel_rfl) rfl #[.agg #[.int .i64 a0_0,.bool a0_1],.slice A1 l1.length c1] rfl gl ?_;(with_reducible refine (impl_isGuarded.calls k a0_0 a0_1 _ _ l1 false _ ?side1 ?side2 A3.out).mono ?_);(case side1=>exact cm (C_below HR1.out HB.out));(case side2=>exact HC1.out);rintro e w36 ⟨rfl,hb⟩;refine ⟨_,rfl,?_⟩;replace BK229:=kb BK229 hb;replace HB:=ak (below_step (h1 HB.out GE229.out) hb);(try clear hb);(try clear hk);(try clear hi)))
  go_ret2
  exact ⟨_,fe,by first|exact R_nil _ _ _ _ _|exact Kd.N_nil _ _ _ _ _|exact Kd.V_nil _ _ _ _ _|exact Kd.Q_nil _ _ _ _ _|exact Kd.S_nil _ _ _ _ _,h1 HB.out GE229.out⟩
 subst c4
 rw [if_pos rfl] at H
 obtain ⟨y231,hy231⟩ : ∃ y_ : List (S54),y_ = (([] : List (S54))):=⟨_,rfl⟩
 replace H : ((impl_Road_seen.f k a0_0 a0_1 l1).bind fun t234=>(impl_UnseenRuns.l0 k y231 t234 (t234.length : Int) 0)) = some (r1,r2):=by first|(rw [hy231];with_reducible exact H)|(have H2_:=(Option.bind_some _ _).symm.trans H;rw [hy231];with_reducible exact H2_)|(have H2_:=(Option.bind_some _ _).symm.trans H;with_reducible exact H2_)|with_reducible exact H|(rw [hy231];exact H)|exact H
 have Ny231:=Aside0.mk hy231
 clear hy231
 replace H:=Option.bind_eq_some_iff.mp H
 obtain ⟨t234,A50,H⟩:=H
 (try dsimp only at H)
 have A5:=Aside0.mk A50
 clear A50
 have H':=Aside0.mk H
 clear H
 go_enter Try.func28,Try.ntmps28
 go_wp2_with (first|((with_reducible refine gate_dst (N:=2) rfl ?_);refine box_event ?hg (N:=2) ?hd (cs:=#[.int .i64 a0_0,.bool a0_1]) (t:=28) ?hr ?_;(case hd=>rfl);(case hg=>rfl);(case hr=>first|(go_simp;done)|(go_simp;rfl));intro gb229 hg w6 hbox hb;have BK229:=ak hbox;have GW229:=ak ((by rw [hg];exact (below_size (hm HB.out)) : w.heap.size ≤ gb229));have GE229:=ak ((by rw [hg];exact (below_size (hm HB.out)) : w.heap.size ≤ gb229));replace HB:=bs HB hb;clear hb hbox hg;have hcz7_0 : w6.cell? ⟨gb229,0,none⟩ = some (.int .i64 a0_0):=(blk_cell BK229.out 0).trans rfl;have hcz7_1 : w6.cell? ⟨gb229,1,none⟩ = some (.bool a0_1):=(blk_cell BK229.out 1).trans rfl;have hfz7_0:=blk_frozen BK229.out 0;have hfz7_1:=blk_frozen BK229.out 1)|((with_reducible refine gate_callee (f:=48) rfl ?_);refine goesL_ (some 12) rfl rfl Try.func48 (by kernel_rfl) rfl #[.agg #[.int .i64 a0_0,.bool a0_1],.slice A1 l1.length c1] rfl gl ?_;(with_reducible refine (impl_isGuarded.calls k a0_0 a0_1 _ _ l1 true _ ?side1 ?side2 A3.out).mono ?_);(case side1=>exact cm (C_below HR1.out HB.out));(case side2=>exact HC1.out);rintro e w8 ⟨rfl,hb⟩;refine ⟨_,rfl,?_⟩;replace BK229:=kb BK229 hb;replace HB:=ak (below_step (h1 HB.out GE229.out) hb);(try clear hb);(try clear hk);(try clear hi))|((with_reducible refine gate_dst (N:=14) rfl ?_);refine R_lit k54 _ 54 ?hg (N:=14) ?hd (xs:=([] : List (S54))) (inner:=[]) (ok:=fun _=>True) (okp:=fun _=>True) ?hr ?hp (fun _ hk=>hk) trivial (Below.refl _ _) (Nat.le_refl _) (by simp) ?_;(case hd=>rfl);(case hg=>rfl);(case hr=>first|(go_simp;done)|(go_simp;rfl));(case hp=>exact (Reps.none _ _));intro v232 w9 ho10 hb hg_ hnew_;clear hg_ hnew_;(first|rw [← Ny231.out] at ho10|(simp only [Int.reduceToNat] at ho10;rw [← Ny231.out] at ho10));have HO233:=ak (R_lower ho10 (below_size (h1 HB.out GE229.out)));replace BK229:=kb BK229 hb;replace HB:=ak (below_step (h1 HB.out GE229.out) hb);clear hb ho10;have hcz11_0 : w9.cell? ⟨gb229,0,none⟩ = some (.int .i64 a0_0):=(blk_cell BK229.out 0).trans rfl;have hcz11_1 : w9.cell? ⟨gb229,1,none⟩ = some (.bool a0_1):=(blk_cell BK229.out 1).trans rfl;have hfz11_0:=blk_frozen BK229.out 0;have hfz11_1:=blk_frozen BK229.out 1)|((with_reducible refine gate_callee (f:=52) rfl ?_);refine goesL_ (some 17) rfl rfl Try.func52 (by kernel_rfl) rfl #[.agg #[.int .i64 a0_0,.bool a0_1],.slice A1 l1.length c1] rfl gl ?_;(with_reducible refine (impl_Road_seen.calls k a0_0 a0_1 _ _ l1 t234 _ ?side1 ?side2 A5.out).mono ?_);(case side1=>exact cm (C_below HR1.out HB.out));(case side2=>exact HC1.out);rintro e w12 ⟨v235,rfl,ho0,hb⟩;refine ⟨_,rfl,?_⟩;replace HO233:=rb HO233 hb;have HO236:=ak (R_lower ho0 (below_size (h1 HB.out GE229.out)));replace BK229:=kb BK229 hb;replace HB:=ak (below_step (h1 HB.out GE229.out) hb);(try clear hb);(try clear hk);(try clear hi);(try clear ho0);obtain ⟨Ao13,co13,eo13⟩:=R_slice HO236.out;subst eo13))
 go_loopg [6,19] k (fun kq v6 v19 w'=>∃ (x6_1 : List (S54)) (x19_1 : Int),v19 = .int .i64 x19_1 ∧ Aside0 (impl_UnseenRuns.l0 kq x6_1 t234 (t234.length : Int) x19_1 = some (r1,r2)) ∧ Aside0 (kq ≤ k) ∧ Aside0 (Kd.R k54 54 w' w.heap.size (fun _=>True) v6 x6_1) ∧ Aside0 (Kd.R (Kd.int .i64) 3 w' w.heap.size (fun _=>True) (.slice Ao13 t234.length co13) t234) ∧ Aside0 (w'.heap[gb229]? = some (.cells #[.int .i64 a0_0,.bool a0_1] 28 (0,0))) ∧ Aside0 (Below w.heap.size w w'))
 case atStart=>exact ⟨(y231),(0),fd,H',⟨Nat.le_refl _⟩,⟨rm HO233.out⟩,⟨rm HO236.out⟩,⟨bm BK229.out⟩,⟨h1 HB.out GE229.out⟩⟩
 clear H'
 try clear c1
 try clear c2
 try clear p2
 try clear c4
 try clear c5
 try clear hcz11_0
 try clear hcz11_1
 try clear hcz7_0
 try clear hcz7_1
 try clear hfz11_0
 try clear hfz11_1
 try clear hfz7_0
 try clear hfz7_1
 obtain ⟨x6_1,x19_1,rfl,HA,HK1,HO_6,HO_17,BK229,HB⟩:=hrel
 cases gk with
 | zero=>exact absurd HA.out (by simp [impl_UnseenRuns.l0])
 | succ k1 =>
  have H:=HA.out
  clear HA
  simp only [impl_UnseenRuns.l0] at H
  by_cases c14 : x19_1 < (t234.length : Int)
  rotate_left
  ·rw [if_neg c14] at H
   have c14b0 : decide (x19_1 < (t234.length : Int)) = false:=decide_eq_false c14
   clear c14
   simp only [Option.some.injEq,Prod.mk.injEq] at H
   obtain ⟨rfl,rfl⟩:=H
   go_wp2
   go_ret2
   exact ⟨_,fe,rm HO_6.out,h1 HB.out GE229.out⟩
  rw [if_pos c14] at H
  have c14b0 : decide (x19_1 < (t234.length : Int)) = true:=decide_eq_true c14
  clear c14
  by_cases c15 : 0 ≤ x19_1
  rotate_left
  ·rw [if_neg c15] at H
   exact absurd H (by simp)
  rw [if_pos c15] at H
  have c15b0 : decide (0 ≤ x19_1) = true:=decide_eq_true c15
  clear c15
  by_cases c16 : x19_1 < (t234.length : Int)
  rotate_left
  ·rw [if_neg c16] at H
   exact absurd H (by simp)
  rw [if_pos c16] at H
  have c16b0 : decide (x19_1 < (t234.length : Int)) = true:=decide_eq_true c16
  clear c16
  by_cases c17 : (rd t234 x19_1) > 0
  ·rw [if_pos c17] at H
   have c17b0 : decide (0 < (rd t234 x19_1)) = true:=decide_eq_true c17
   clear c17
   have H':=Aside0.mk H
   clear H
   have p237 : 0 ≤ (x19_1 : Int):=od
   have q237 : x19_1 < (t234.length : Int):=od
   obtain ⟨ad237,e237,hx237_0⟩:=Kd.at_int (R_reads' HO_17.out).2.2 x19_1 p237 q237
   cases e237
   replace p237:=eq_true p237
   replace q237:=eq_true q237
   obtain ⟨Ao18,co18,eo18⟩:=R_slice HO_6.out
   subst eo18
   go_wp2
   go_roundg k1
   case measure=>have:=HK1.out;omega
   case rel=>exact ⟨(x6_1),(wrap64 (x19_1 + 1)),fd,H',⟨by have:=HK1.out;omega⟩,⟨rm HO_6.out⟩,⟨rm HO_17.out⟩,⟨bm BK229.out⟩,⟨h1 HB.out GE229.out⟩⟩
  rw [if_neg c17] at H
  have c17b0 : decide (0 < (rd t234 x19_1)) = false:=decide_eq_false c17
  clear c17
  by_cases c19 : (x6_1.length : Int) > 0
  rotate_left
  ·rw [if_neg c19] at H
   have c19b0 : decide (0 < (x6_1.length : Int)) = false:=decide_eq_false c19
   have c19b1 : decide (0 < x6_1.length) = false:=decide_eq_false (by omega)
   clear c19
   by_cases c31 : x6_1.length < 8796093022208
   rotate_left
   ·rw [if_neg c31] at H
    exact absurd H (by simp)
   rw [if_pos c31] at H
   have LMc31:=Aside0.mk c31
   clear c31
   obtain ⟨y243,hy243⟩ : ∃ y_ : List (S54),y_ = (x6_1 ++ [(⟨x19_1,x19_1⟩ : S54)]):=⟨_,rfl⟩
   replace H : (impl_UnseenRuns.l0 k1 y243 t234 (t234.length : Int) (wrap64 (x19_1 + 1))) = some (r1,r2):=by first|(rw [hy243];with_reducible exact H)|(have H2_:=(Option.bind_some _ _).symm.trans H;rw [hy243];with_reducible exact H2_)|(have H2_:=(Option.bind_some _ _).symm.trans H;with_reducible exact H2_)|with_reducible exact H|(rw [hy243];exact H)|exact H
   have Ny243:=Aside0.mk hy243
   clear hy243
   have H':=Aside0.mk H
   clear H
   have p237 : 0 ≤ (x19_1 : Int):=od
   have q237 : x19_1 < (t234.length : Int):=od
   obtain ⟨ad237,e237,hx237_0⟩:=Kd.at_int (R_reads' HO_17.out).2.2 x19_1 p237 q237
   cases e237
   replace p237:=eq_true p237
   replace q237:=eq_true q237
   obtain ⟨Ao32,co32,eo32⟩:=R_slice HO_6.out
   subst eo32
   go_wp2_with (first|((with_reducible refine gate_builtin (b:=.append) (xs:=#[.tmp 26,.tmp 30]) rfl ?_);at_builtin;refine R_append k54 (w0:=w) w.heap.size rfl (.tmp 26) (.tmp 30) 44 54 (.agg #[(.int .i64 0),(.int .i64 0)]) 16 rfl Try.underlying44 info54 rfl (by decide) (by omega) (.slice Ao32 x6_1.length co32) x6_1 (⟨x19_1,x19_1⟩ : S54) [.int .i64 x19_1,.int .i64 x19_1] (fun _=>True) (fun _=>False) rfl rfl ?aP (fun _ hk=>hk.elim) ?aF ?aO ?aB ?aS ?aL ?_;(case aP=>exact k54_mkM _ _ _ (⟨x19_1,x19_1⟩ : S54));(case aB=>exact (h1 HB.out GE229.out));(case aF=>exact (fun _ _=>trivial));(case aO=>exact (rm HO_6.out));(case aS=>exact (below_size (h1 HB.out GE229.out)));(case aL=>have:=LMc31.out;omega);intro v244 w33 ho hb hg hat;rw [← Ny243.out] at ho;replace HO_17:=ak (R_over' (rm HO_17.out) (R_typed (rm HO_6.out)) (by decide) hg);replace BK229:=ak (blk_grown (g:=gb229) (o:=.cells #[.int .i64 a0_0,.bool a0_1] 28 (0,0)) (bm BK229.out) hg (R_ne HO_6.out BK229.out (by decide)));replace HB:=ak hb;have HO245:=ak ho;clear HO_6;clear ho hb hg hat))
   go_roundg k1
   case measure=>have:=HK1.out;omega
   case rel=>exact ⟨(y243),(wrap64 (x19_1 + 1)),fd,H',⟨by have:=HK1.out;omega⟩,⟨rm HO245.out⟩,⟨rm HO_17.out⟩,⟨bm BK229.out⟩,⟨h1 HB.out GE229.out⟩⟩
  rw [if_pos c19] at H
  have c19b0 : decide (0 < (x6_1.length : Int)) = true:=decide_eq_true c19
  have c19b1 : decide (0 < x6_1.length) = true:=decide_eq_true (by omega)
  clear c19
  obtain ⟨ji20,hji20⟩ : ∃ j_ : Int,(wrap64 ((x6_1.length : Int) - 1)) = j_:=⟨_,rfl⟩
  replace H : (if 0 ≤ (ji20) then (if (ji20) < (x6_1.length : Int) then (if ((rd_T54 x6_1 (ji20)).f1) = (wrap64 (x19_1 - 1)) then (impl_UnseenRuns.l0 k1 (x6_1.set ((ji20) : Int).toNat (⟨(rd_T54 x6_1 (ji20)).f0,x19_1⟩ : S54)) t234 (t234.length : Int) (wrap64 (x19_1 + 1))) else (if x6_1.length < 8796093022208 then (impl_UnseenRuns.l0 k1 (x6_1 ++ [(⟨x19_1,x19_1⟩ : S54)]) t234 (t234.length : Int) (wrap64 (x19_1 + 1))) else (none))) else (none)) else (none)) = some (r1,r2):=by first|(rw [hji20] at H;exact H)|(simp only [hji20] at H ⊢;exact H)
  have hji20w : (IntKind.i64.wrap ((x6_1.length : Int) - 1)) = ji20:=(i64_w _).trans hji20
  by_cases c21 : 0 ≤ (ji20)
  rotate_left
  ·rw [if_neg c21] at H
   exact absurd H (by simp)
  rw [if_pos c21] at H
  have c21b0 : decide (0 ≤ (ji20)) = true:=decide_eq_true c21
  clear c21
  by_cases c22 : (ji20) < (x6_1.length : Int)
  rotate_left
  ·rw [if_neg c22] at H
   exact absurd H (by simp)
  rw [if_pos c22] at H
  have c22b0 : decide ((ji20) < (x6_1.length : Int)) = true:=decide_eq_true c22
  clear c22
  by_cases c23 : ((rd_T54 x6_1 (ji20)).f1) = (wrap64 (x19_1 - 1))
  rotate_left
  ·rw [if_neg c23] at H
   have c23b0 : (((rd_T54 x6_1 (ji20)).f1) == (wrap64 (x19_1 - 1))) = false:=beq_eq_false_iff_ne.mpr c23
   have c23b1 : (((rd_T54 x6_1 (ji20)).f1) != (wrap64 (x19_1 - 1))) = true:=bne_iff_ne.mpr c23
   by_cases c28 : x6_1.length < 8796093022208
   rotate_left
   ·rw [if_neg c28] at H
    exact absurd H (by simp)
   rw [if_pos c28] at H
   have LMc28:=Aside0.mk c28
   clear c28
   obtain ⟨y240,hy240⟩ : ∃ y_ : List (S54),y_ = (x6_1 ++ [(⟨x19_1,x19_1⟩ : S54)]):=⟨_,rfl⟩
   replace H : (impl_UnseenRuns.l0 k1 y240 t234 (t234.length : Int) (wrap64 (x19_1 + 1))) = some (r1,r2):=by first|(rw [hy240];with_reducible exact H)|(have H2_:=(Option.bind_some _ _).symm.trans H;rw [hy240];with_reducible exact H2_)|(have H2_:=(Option.bind_some _ _).symm.trans H;with_reducible exact H2_)|with_reducible exact H|(rw [hy240];exact H)|exact H
   have Ny240:=Aside0.mk hy240
   clear hy240
   have H':=Aside0.mk H
   clear H
   have p237 : 0 ≤ (x19_1 : Int):=od
   have q237 : x19_1 < (t234.length : Int):=od
   obtain ⟨ad237,e237,hx237_0⟩:=Kd.at_int (R_reads' HO_17.out).2.2 x19_1 p237 q237
   cases e237
   replace p237:=eq_true p237
   replace q237:=eq_true q237
   obtain ⟨Ao29,co29,eo29⟩:=R_slice HO_6.out
   subst eo29
   have p238 : 0 ≤ ((ji20) : Int):=od
   have q238 : (ji20) < (x6_1.length : Int):=od
   obtain ⟨ad238,e238,hx238_0,hx238_1⟩:=at_T54 (R_reads' HO_6.out).2.2 (ji20) p238 q238
   cases e238
   replace p238:=eq_true p238
   replace q238:=eq_true q238
   go_wp2_with (first|((with_reducible refine gate_builtin (b:=.append) (xs:=#[.tmp 26,.tmp 30]) rfl ?_);at_builtin;refine R_append k54 (w0:=w) w.heap.size rfl (.tmp 26) (.tmp 30) 44 54 (.agg #[(.int .i64 0),(.int .i64 0)]) 16 rfl Try.underlying44 info54 rfl (by decide) (by omega) (.slice (some ad238) x6_1.length co29) x6_1 (⟨x19_1,x19_1⟩ : S54) [.int .i64 x19_1,.int .i64 x19_1] (fun _=>True) (fun _=>False) rfl rfl ?aP (fun _ hk=>hk.elim) ?aF ?aO ?aB ?aS ?aL ?_;(case aP=>exact k54_mkM _ _ _ (⟨x19_1,x19_1⟩ : S54));(case aB=>exact (h1 HB.out GE229.out));(case aF=>exact (fun _ _=>trivial));(case aO=>exact (rm HO_6.out));(case aS=>exact (below_size (h1 HB.out GE229.out)));(case aL=>have:=LMc28.out;omega);intro v241 w30 ho hb hg hat;rw [← Ny240.out] at ho;replace HO_17:=ak (R_over' (rm HO_17.out) (R_typed (rm HO_6.out)) (by decide) hg);replace BK229:=ak (blk_grown (g:=gb229) (o:=.cells #[.int .i64 a0_0,.bool a0_1] 28 (0,0)) (bm BK229.out) hg (R_ne HO_6.out BK229.out (by decide)));replace HB:=ak hb;have HO242:=ak ho;clear HO_6;clear ho hb hg hat))
   go_roundg k1
   case measure=>have:=HK1.out;omega
   case rel=>exact ⟨(y240),(wrap64 (x19_1 + 1)),fd,H',⟨by have:=HK1.out;omega⟩,⟨rm HO242.out⟩,⟨rm HO_17.out⟩,⟨bm BK229.out⟩,⟨h1 HB.out GE229.out⟩⟩
  rw [if_pos c23] at H
  have c23b0 : (((rd_T54 x6_1 (ji20)).f1) == (wrap64 (x19_1 - 1))) = true:=beq_iff_eq.mpr c23
  have c23b1 : (((rd_T54 x6_1 (ji20)).f1) != (wrap64 (x19_1 - 1))) = false:=bne_eq_false_iff_eq.mpr c23
  clear c23
  obtain ⟨y239,hy239⟩ : ∃ y_ : List (S54),y_ = (x6_1.set ((ji20) : Int).toNat (⟨(rd_T54 x6_1 (ji20)).f0,x19_1⟩ : S54)):=⟨_,rfl⟩
  replace H : (impl_UnseenRuns.l0 k1 y239 t234 (t234.length : Int) (wrap64 (x19_1 + 1))) = some (r1,r2):=by first|(rw [hy239];with_reducible exact H)|(have H2_:=(Option.bind_some _ _).symm.trans H;rw [hy239];with_reducible exact H2_)|(have H2_:=(Option.bind_some _ _).symm.trans H;with_reducible exact H2_)|with_reducible exact H|(rw [hy239];exact H)|exact H
  have Ny239:=Aside0.mk hy239
  clear hy239
  have H':=Aside0.mk H
  clear H
  have p237 : 0 ≤ (x19_1 : Int):=od
  have q237 : x19_1 < (t234.length : Int):=od
  obtain ⟨ad237,e237,hx237_0⟩:=Kd.at_int (R_reads' HO_17.out).2.2 x19_1 p237 q237
  cases e237
  replace p237:=eq_true p237
  replace q237:=eq_true q237
  obtain ⟨Ao25,co25,eo25⟩:=R_slice HO_6.out
  subst eo25
  have p238 : 0 ≤ ((ji20) : Int):=od
  have q238 : (ji20) < (x6_1.length : Int):=od
  obtain ⟨ad238,e238,hx238_0,hx238_1⟩:=at_T54 (R_reads' HO_6.out).2.2 (ji20) p238 q238
  cases e238
  replace p238:=eq_true p238
  replace q238:=eq_true q238
  have p24 : 0 ≤ ((ji20) : Int):=od
  have q24 : ((ji20) : Int) < ((x6_1.length : Int) : Int):=od
  obtain ⟨go24,co24,eo24,gb24,gl24,cl24,HG24⟩:=R_form HO_6.out (by omega)
  (first|cases eo24|(injection eo24 with ea_ en_ ec_;(first|subst ea_|(injection ea_ with ea_;subst ea_));subst ec_;clear en_))
  have GB24:=Aside0.mk gb24
  have GG24:=Aside0.mk HG24
  clear gb24 gl24 HG24
  (first|simp only [add_plain] at hx238_0|skip)
  (first|simp only [add_plain] at hx238_1|skip)
  obtain ⟨ce24,hcl24,hM24,hcc24,hfr24⟩:=R_elem HO_6.out z54 ((ji20) : Int) p24 q24
  obtain rfl:=k54_openM hM24
  have hx24_0 : wr.cell? ⟨go24,((ji20) : Int).toNat * 2,none⟩ = some (.int .i64 ((rd_T54 x6_1 (ji20)).f0)):=hcc24 0 _ rfl
  have hx24_1 : wr.cell? ⟨go24,((ji20) : Int).toNat * 2 + 1,none⟩ = some (.int .i64 ((rd_T54 x6_1 (ji20)).f1)):=hcc24 1 _ rfl
  have hf24_0 : wr.frozen? ⟨go24,((ji20) : Int).toNat * 2,none⟩ = false:=hfr24 0
  have hf24_1 : wr.frozen? ⟨go24,((ji20) : Int).toNat * 2 + 1,none⟩ = false:=hfr24 1
  clear hcl24 hcc24 hfr24 hM24
  replace p24:=eq_true p24
  replace q24:=eq_true q24
  have HX26:=Aside0.mk (show Kd.R k54 54 wr w.heap.size (fun _=>True) (.slice (some ⟨go24,0,none⟩) x6_1.length co25) x6_1 from (rm HO_6.out))
  obtain ⟨ce26,hcl26,hM26,hcc26,hfr26⟩:=R_elem HX26.out z54 ((ji20) : Int) (od) (by have h_ : ((ji20) : Int) < ((x6_1.length : Int) : Int):=od;first|exact h_|(have e_:=(R_reads' HO_6.out).1;omega)|simpa using h_)
  obtain rfl:=k54_openM hM26
  have HP26:=R_seg HX26.out ((ji20) : Int) (od) (by have h_ : ((ji20) : Int) < ((x6_1.length : Int) : Int):=od;first|exact h_|(have e_:=(R_reads' HO_6.out).1;omega)|simpa using h_) (seg:=[.int .i64 x19_1]) (j:=1) hcl26 hcc26 (show 2 ≤ 2 from by decide) (x':=(⟨(rd_T54 x6_1 (ji20)).f0,x19_1⟩ : S54)) (k54_mkM _ _ _ (⟨(rd_T54 x6_1 (ji20)).f0,x19_1⟩ : S54) ) (fun _ hk=>hk)
  have hx26_1:=hcc26 1 _ rfl
  (try simp only [show (k54).sz = 2 from rfl,Nat.mul_one,Nat.add_zero] at hx26_1)
  have hf26_1:=hfr26 1
  (try simp only [show (k54).sz = 2 from rfl,Nat.mul_one,Nat.add_zero] at hf26_1)
  clear hcl26 hcc26 hfr26 hM26
  go_wp2_with (first|((with_reducible refine gate_store (t:=3) (p:=54) rfl ?_);refine store_event (t:=3) (p:=54) (v:=?vo_w27) (w1:=(wr.setCell ⟨go24,((ji20) : Int).toNat * 2 + 1,none⟩ (.int .i64 x19_1))) ?hg ?ho ?hn ?hr ?_;(case ho=>rfl);(case hg=>rfl);(case hn=>rfl);(case hr=>first|(go_simp;done)|(go_simp;rfl));intro w27 hw;have hg : wr.grownBy w27 (some go24):=(by rw [hw];exact HP26.2);have hp_ : Kd.R k54 54 w27 w.heap.size (fun _=>True) (.slice (some ⟨go24,0,none⟩) x6_1.length co25) y239:=(by rw [hw,Ny239.out];exact HP26.1);clear HP26;replace HO_17:=ak (R_over' (v:=(.slice (some ⟨go24,0,none⟩) x6_1.length co25)) (rm HO_17.out) (R_typed HO_6.out) (by decide) hg);replace BK229:=ak (blk_grown (g:=gb229) (o:=.cells #[.int .i64 a0_0,.bool a0_1] 28 (0,0)) (bm BK229.out) hg (R_ne HO_6.out BK229.out (by decide)));replace HO_6:=ak hp_;replace HB:=ak ((by rw [hw];exact below_set (HB.out) GB24.out : Below w.heap.size w w27));clear hg hw hp_))
  go_roundg k1
  case measure=>have:=HK1.out;omega
  case rel=>exact ⟨(y239),(wrap64 (x19_1 + 1)),fd,H',⟨by have:=HK1.out;omega⟩,⟨rm HO_6.out⟩,⟨rm HO_17.out⟩,⟨bm BK229.out⟩,⟨h1 HB.out GE229.out⟩⟩


end
end Go.Proofs.Ytknfhoghimnieaa.QFnSensors
