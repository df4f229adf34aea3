/- Functions that the law FnLanes comes to, as Lean functions, with the proof that the Go code does what they say: written by a program of this session over the kit's print. No condition but those named. -/
import Derived.Test.YthkbjcihelmaeaaQFnLanesx0
import Derived.Test.YthkbjcihelmaeaaQFnLanesx1
namespace Go.Proofs.Ythkbjcihelmaeaa.QFnLanes
open Go.RowKit Go.Proofs.YthkbjcihelmaeaaW.PrintWords Go.Proofs.YthkbjcihelmaeaaW.PrintLast Go.Proofs.YthkbjcihelmaeaaW.PrintMore Go.Proofs.Ythkbjcihelmaeaa.Short
attribute [local go_sem] max2_int min2_int max_two min_two max_three min_three max_four min_four   -- for this text's walks alone
set_option linter.unusedVariables false
set_option linter.unusedSimpArgs false

/-! ### spec_TurnAround: function 19 -/
section
open Kd
def spec_TurnAround.l0 : Nat → List Int → List Int → Int → Option (List Int × Bool)
 | 0,_,_,_=>none
 | k + 1,x0,x4,x5=>if x5 ≥ 0 then (if 0 ≤ x5 then (if x5 < (x0.length : Int) then (if x4.length < 17592186044416 then (spec_TurnAround.l0 k x0 (x4 ++ [wrap64 (1 - (rd x0 x5))]) (wrap64 (x5 - 1))) else (none)) else (none)) else (none)) else (some (x4,true))
def spec_TurnAround.f (k : Nat) (l0 : List Int) : Option (List Int × Bool):=(some (([] : List Int) : List Int)).bind fun y117=>((spec_l8Lane.f k l0).bind fun t120=>(if t120 = true then (spec_TurnAround.l0 k l0 y117 (wrap64 ((l0.length : Int) - 1))) else (some (y117,false))))
theorem spec_TurnAround.mono_l : ∀ k,(∀ y0 y1 y2,LeO (spec_TurnAround.l0 k y0 y1 y2) (spec_TurnAround.l0 (k + 1) y0 y1 y2))
 | 0=>fun _ _ _ r h=>by simp [spec_TurnAround.l0] at h
 | k + 1=>by
  have ih0:=spec_TurnAround.mono_l k
  ·intro y0 y1 y2
   unfold spec_TurnAround.l0
   repeat' first
   | (with_reducible exact ih0 _ _ _)
   | (with_reducible exact spec_l8Lane.mono _ _)
   | (with_reducible exact LeO.refl _)
   | (with_reducible exact LeO.none _)
   | (with_reducible refine LeO.ite ?_ ?_)
   | (with_reducible refine LeO.bind ?_ (fun _=>?_))
   | exact ih0 _ _ _
   | exact spec_l8Lane.mono _ _
   | exact LeO.none _
   | refine LeO.ite ?_ ?_
   | refine LeO.bind ?_ (fun _=>?_)
theorem spec_TurnAround.mono : ∀ a0 k,LeO (spec_TurnAround.f k a0) (spec_TurnAround.f (k + 1) a0):=by
 intro a0 k
 have ih0:=spec_TurnAround.mono_l k
 unfold spec_TurnAround.f
 repeat' first
   | (with_reducible exact ih0 _ _ _)
   | (with_reducible exact spec_l8Lane.mono _ _)
   | (with_reducible exact LeO.refl _)
   | (with_reducible exact LeO.none _)
   | (with_reducible refine LeO.ite ?_ ?_)
   | (with_reducible refine LeO.bind ?_ (fun _=>?_))
   | exact ih0 _ _ _
   | exact spec_l8Lane.mono _ _
   | exact LeO.none _
   | refine LeO.ite ?_ ?_
   | refine LeO.bind ?_ (fun _=>?_)
set_option maxHeartbeats 8000000 in
set_option maxRecDepth 100000 in
theorem spec_TurnAround.calls (k : Nat) (A0 : Option Addr) (c0 : Nat) (l0 : List Int) (r1 : List Int) (r2 : Bool) (w : World) (hr0 : Kd.C (Kd.int .i64) w A0 l0.length l0) (hc0 : l0.length ≤ c0) (h : spec_TurnAround.f k l0 = some (r1,r2)) :
  Calls Try.prog 19 #[.slice A0 l0.length c0] w fun e w'=>∃ v0_ : Value,e = .returned (.tuple #[v0_,.bool r2]) ∧ Kd.R (Kd.int .i64) 3 w' w.heap.size (fun _=>True) v0_ r1 ∧ Below w.heap.size w w':=by
 have HR0:=Aside0.mk hr0
 have HC0:=Aside0.mk hc0
 clear hr0 hc0
 have HB:=Aside0.mk (Below.refl w.heap.size w)
 have H : ((some (([] : List Int) : List Int)).bind fun y117=>((spec_l8Lane.f k l0).bind fun t120=>(if t120 = true then (spec_TurnAround.l0 k l0 y117 (wrap64 ((l0.length : Int) - 1))) else (some (y117,false))))) = some (r1,r2):=h
 clear h
 obtain ⟨y117,hy117⟩ : ∃ y_ : List Int,y_ = (([] : List Int)):=⟨_,rfl⟩
 replace H : ((spec_l8Lane.f k l0).bind fun t120=>(if t120 = true then (spec_TurnAround.l0 k l0 y117 (wrap64 ((l0.length : Int) - 1))) else (some (y117,false)))) = some (r1,r2):=by first|(rw [hy117];with_reducible exact H)|(have H2_:=(Option.bind_some _ _).symm.trans H;rw [hy117];with_reducible exact H2_)|(have H2_:=(Option.bind_some _ _).symm.trans H;with_reducible exact H2_)|with_reducible exact H|(rw [hy117];exact H)|exact H
 have Ny117:=Aside0.mk hy117
 clear hy117
 replace H:=Option.bind_eq_some_iff.mp H
 obtain ⟨t120,A20,H⟩:=H
 replace H : (if t120 = true then (spec_TurnAround.l0 k l0 y117 (wrap64 ((l0.length : Int) - 1))) else (some (y117,false))) = some (r1,r2):=H
 have A2:=Aside0.mk A20
 clear A20
 by_cases c3 : t120 = true
 rotate_left
 ·replace c3:=Bool.eq_false_iff.mpr c3
  subst c3
  have H1 : (some (y117,false)) = some (r1,r2):=by rw [if_neg (show ¬ (false = true) by decide)] at H;exact H
  clear H
  have H:=H1
  clear H1
  simp only [Option.some.injEq,Prod.mk.injEq] at H
  obtain ⟨rfl,rfl⟩:=H
  go_enter Try.func19,Try.ntmps19
  go_wp2_with (first|((with_reducible refine gate_dst (N:=6) rfl ?_);refine R_lit (Kd.int .i64) _ 3 ?hg (N:=6) ?hd (xs:=([] : List Int)) (inner:=[]) (ok:=fun _=>True) (okp:=fun _=>True) ?hr ?hp (fun _ hk=>hk) trivial (Below.refl _ _) (Nat.le_refl _) (by simp) ?_;(case hd=>rfl);(case hg=>rfl);(case hr=>first|(go_simp;done)|(go_simp;rfl));(case hp=>exact (Reps.none _ _));intro v118 w11 ho12 hb hg_ hnew_;clear hg_ hnew_;(first|rw [← Ny117.out] at ho12|(simp only [Int.reduceToNat] at ho12;rw [← Ny117.out] at ho12));have n0_:=Aside0.mk (R_lower ho12 (below_size (hm HB.out)));have n1_:=Aside0.mk (below_step (hm HB.out) hb);clear HB;have HO119:=n0_;have HB:=n1_;clear n0_ n1_;clear hb ho12)|((with_reducible refine gate_callee (f:=40) rfl ?_);refine goesL_ (some 8) rfl rfl Try.func40 (by kernel_rfl) rfl #[.slice A0 l0.length c0] rfl (by (try simp only [List.map_toArray,List.map_cons,List.map_nil]);first|done|rfl|(simp only [List.length_drop,List.length_take];rfl)) ?_;(with_reducible refine (spec_l8Lane.calls k _ _ l0 false _ ?side1 ?side2 A2.out).mono ?_);(case side1=>exact cm (C_below HR0.out HB.out));(case side2=>exact HC0.out);rintro e w' ⟨rfl,⟨nd,rfl⟩⟩;refine ⟨_,rfl,?_⟩))
  go_ret2
  exact ⟨_,by first|rfl|(simp [errW_none,errW_some] <;> rfl)|(simp [*,errW_none,errW_some] <;> rfl),rm HO119.out,hm HB.out⟩
 subst c3
 have H1 : (spec_TurnAround.l0 k l0 y117 (wrap64 ((l0.length : Int) - 1))) = some (r1,r2):=by rw [if_pos rfl] at H;exact H
 clear H
 have H:=H1
 clear H1
 have H':=Aside0.mk H
 clear H
 go_enter Try.func19,Try.ntmps19
 go_wp2_with (first|((with_reducible refine gate_dst (N:=6) rfl ?_);refine R_lit (Kd.int .i64) _ 3 ?hg (N:=6) ?hd (xs:=([] : List Int)) (inner:=[]) (ok:=fun _=>True) (okp:=fun _=>True) ?hr ?hp (fun _ hk=>hk) trivial (Below.refl _ _) (Nat.le_refl _) (by simp) ?_;(case hd=>rfl);(case hg=>rfl);(case hr=>first|(go_simp;done)|(go_simp;rfl));(case hp=>exact (Reps.none _ _));intro v118 w4 ho5 hb hg_ hnew_;clear hg_ hnew_;(first|rw [← Ny117.out] at ho5|(simp only [Int.reduceToNat] at ho5;rw [← Ny117.out] at ho5));have n0_:=Aside0.mk (R_lower ho5 (below_size (hm HB.out)));have n1_:=Aside0.mk (below_step (hm HB.out) hb);clear HB;have HO119:=n0_;have HB:=n1_;clear n0_ n1_;clear hb ho5)|((with_reducible refine gate_callee (f:=40) rfl ?_);refine goesL_ (some 8) rfl rfl Try.func40 (by kernel_rfl) rfl #[.slice A0 l0.length c0] rfl (by (try simp only [List.map_toArray,List.map_cons,List.map_nil]);first|done|rfl|(simp only [List.length_drop,List.length_take];rfl)) ?_;(with_reducible refine (spec_l8Lane.calls k _ _ l0 true _ ?side1 ?side2 A2.out).mono ?_);(case side1=>exact cm (C_below HR0.out HB.out));(case side2=>exact HC0.out);rintro e w' ⟨rfl,⟨nd,rfl⟩⟩;refine ⟨_,rfl,?_⟩))
 go_loopg [4,5] k (fun kq v4 v5 w'=>∃ (x4_1 : List Int) (x5_1 : Int),v5 = .int .i64 x5_1 ∧ Aside0 (spec_TurnAround.l0 kq l0 x4_1 x5_1 = some (r1,r2)) ∧ Aside0 (kq ≤ k) ∧ Aside0 (Kd.R (Kd.int .i64) 3 w' w.heap.size (fun _=>True) v4 x4_1) ∧ Aside0 (Below w.heap.size w w'))
 case atStart=>exact ⟨(y117),(wrap64 ((l0.length : Int) - 1)),(by first|rfl|(simp;done)|(simp [*];done)),H',⟨Nat.le_refl _⟩,⟨rm HO119.out⟩,⟨hm HB.out⟩⟩
 clear H'
 try clear c1
 try clear p2
 try clear c3
 try clear c4
 obtain ⟨x4_1,x5_1,rfl,HA,HK1,HO_4,HB⟩:=hrel
 cases gk with
 | zero=>exact absurd HA.out (by simp [spec_TurnAround.l0])
 | succ k1 =>
  have H:=HA.out
  clear HA
  simp only [spec_TurnAround.l0] at H
  by_cases c6 : x5_1 ≥ 0
  rotate_left
  ·rw [if_neg c6] at H
   have c6b0 : decide (0 ≤ x5_1) = false:=decide_eq_false c6
   clear c6
   simp only [Option.some.injEq,Prod.mk.injEq] at H
   obtain ⟨rfl,rfl⟩:=H
   go_wp2
   go_ret2
   exact ⟨_,by first|rfl|(simp [errW_none,errW_some] <;> rfl)|(simp [*,errW_none,errW_some] <;> rfl),rm HO_4.out,hm HB.out⟩
  rw [if_pos c6] at H
  have c6b0 : decide (0 ≤ x5_1) = true:=decide_eq_true c6
  clear c6
  by_cases c7 : 0 ≤ x5_1
  rotate_left
  ·rw [if_neg c7] at H
   exact absurd H (by simp)
  rw [if_pos c7] at H
  have c7b0 : decide (0 ≤ x5_1) = true:=decide_eq_true c7
  clear c7
  by_cases c8 : x5_1 < (l0.length : Int)
  rotate_left
  ·rw [if_neg c8] at H
   exact absurd H (by simp)
  rw [if_pos c8] at H
  have c8b0 : decide (x5_1 < (l0.length : Int)) = true:=decide_eq_true c8
  clear c8
  by_cases c9 : x4_1.length < 17592186044416
  rotate_left
  ·rw [if_neg c9] at H
   exact absurd H (by simp)
  rw [if_pos c9] at H
  have LMc9:=Aside0.mk c9
  clear c9
  obtain ⟨y122,hy122⟩ : ∃ y_ : List Int,y_ = (x4_1 ++ [wrap64 (1 - (rd l0 x5_1))]):=⟨_,rfl⟩
  replace H : (spec_TurnAround.l0 k1 l0 y122 (wrap64 (x5_1 - 1))) = some (r1,r2):=by first|(rw [hy122];with_reducible exact H)|(have H2_:=(Option.bind_some _ _).symm.trans H;rw [hy122];with_reducible exact H2_)|(have H2_:=(Option.bind_some _ _).symm.trans H;with_reducible exact H2_)|with_reducible exact H|(rw [hy122];exact H)|exact H
  have Ny122:=Aside0.mk hy122
  clear hy122
  have H':=Aside0.mk H
  clear H
  have p121 : 0 ≤ (x5_1 : Int):=od
  have q121 : x5_1 < (l0.length : Int):=od
  obtain ⟨ad121,e121,hx121_0⟩:=Kd.at_int HR0.out x5_1 p121 q121
  cases e121
  replace hx121_0:=(HB.out.cell (World.block_lt_of_cell? w _ hx121_0)).trans hx121_0
  replace p121:=eq_true p121
  replace q121:=eq_true q121
  go_wp2_with (first|((with_reducible refine gate_builtin (b:=.append) (xs:=#[.tmp 18,.tmp 24]) rfl ?_);at_builtin;refine R_append (Kd.int .i64) (w0:=w) w.heap.size rfl (.tmp 18) (.tmp 24) 22 3 (.int .i64 0) 8 rfl Try.underlying22 info3 rfl (by decide) (by omega) u4 x4_1 (wrap64 (1 - (rd l0 x5_1))) [.int .i64 (wrap64 (1 - (rd l0 x5_1)))] (fun _=>True) (fun _=>False) rfl rfl ?aP (fun _ hk=>hk.elim) ?aF ?aO ?aB ?aS ?aL ?_;(case aP=>exact rfl);(case aB=>exact (hm HB.out));(case aF=>exact (fun _ _=>trivial));(case aO=>exact (rm HO_4.out));(case aS=>exact (below_size (hm HB.out)));(case aL=>have:=LMc9.out;omega);intro v123 w10 ho hb hg hat;rw [← Ny122.out] at ho;have n0_:=Aside0.mk (hb);have n1_:=Aside0.mk (ho);clear HB;clear HO_4;have HB:=n0_;have HO124:=n1_;clear n0_ n1_;clear ho hb hg hat))
  go_roundg k1
  case measure=>have:=HK1.out;omega
  case rel=>exact ⟨(y122),(wrap64 (x5_1 - 1)),(by first|rfl|(simp;done)|(simp [*];done)),H',⟨by have:=HK1.out;omega⟩,⟨rm HO124.out⟩,⟨hm HB.out⟩⟩


/-! ### mapped_46: mapped over the closure 46 -/
theorem impl_TurnAround_1.calls (x : Int) (W : World) : Calls Try.prog 46 #[.int .i64 x] W fun e W'=>e = .returned (.int .i64 (wrap64 (1 - x))) ∧ Drawn0 W W':=by
  go_enter Try.func46,Try.ntmps46
  go_wp2
  go_ret
  exact ⟨by first|rfl|(simp;done)|(simp [*];done),by repeat (first|exact Drawn0.refl _|apply Drawn0.step)⟩
def mapped_46.f (k : Nat) (a0 : List Int) : Option (List Int):=Mapped.f (fun x=>some (wrap64 (1 - x))) k a0
theorem mapped_46.mono : ∀ a0 k,LeO (mapped_46.f k a0) (mapped_46.f (k + 1) a0):=fun a0 k=>Mapped.mono _ a0 k
theorem mapped_46.calls (k : Nat) (A0 : Option Addr) (c0 : Nat) (l0 : List Int) (r : List Int) (w : World) (hr0 : Kd.C (Kd.int .i64) w A0 l0.length l0) (hc0 : l0.length ≤ c0) (h : mapped_46.f k l0 = some r) :
    Calls Try.prog 45 #[.slice A0 l0.length c0,.func (.func 46) #[] #[]] w fun e w'=>∃ v0_ : Value,e = .returned (v0_) ∧ Kd.R (Kd.int .i64) 3 w' w.heap.size (fun _=>True) v0_ r ∧ Below w.heap.size w w' :=
  Mapped.calls (fun x=>some (wrap64 (1 - x))) 46 Try.f46 #[] Try.func46 (by kernel_rfl) (by kernel_rfl) k A0 c0 l0 r w (fun x y W _ hg=>by
    obtain rfl:=Option.some.inj hg
    exact impl_TurnAround_1.calls x W) hr0 hc0 h

/-! ### mapped_54: mapped over the closure 54,which reads the list of the places' next places -/
theorem closure_54 (x : Int) (A1 : Option Addr) (c1 : Nat) (l1 : List Int) (g : Nat) (W : World) (hc : W.cell? ⟨g,0,none⟩ = some (.slice A1 l1.length c1)) (hr : Kd.C (Kd.int .i64) W A1 l1.length l1) (p_ : 0 ≤ x) (q_ : x < (l1.length : Int)) : Calls Try.prog 54 #[.int .i64 x,.pointer (some ⟨g,0,none⟩)] W fun e W'=>e = .returned (.int .i64 (rd l1 x)) ∧ Drawn0 W W':=by
  obtain ⟨ad_,e_,hx_⟩:=Kd.at_int hr x p_ q_
  cases e_
  replace p_:=eq_true p_
  replace q_:=eq_true q_
  go_enter Try.func54,Try.ntmps54
  go_wp2
  go_ret
  exact ⟨by first|rfl|(simp;done)|(simp [*];done),by repeat (first|exact Drawn0.refl _|apply Drawn0.step)⟩
def atG (l1 : List Int) (x : Int) : Option Int:=if 0 ≤ x ∧ x < (l1.length : Int) then some (rd l1 x) else none
def mapped_54.f (k : Nat) (a0 : List Int) (l1 : List Int) : Option (List Int):=Mapped.f (atG l1) k a0
theorem mapped_54.mono : ∀ a0 l1 k,LeO (mapped_54.f k a0 l1) (mapped_54.f (k + 1) a0 l1):=fun a0 l1 k=>Mapped.mono _ a0 k
theorem mapped_54.calls (k : Nat) (A0 : Option Addr) (c0 : Nat) (l0 : List Int) (A1 : Option Addr) (c1 : Nat) (l1 : List Int) (r : List Int) (w : World) (g : Nat) (hcell : w.cell? ⟨g,0,none⟩ = some (.slice A1 l1.length c1)) (hr0 : Kd.C (Kd.int .i64) w A0 l0.length l0) (hc0 : l0.length ≤ c0) (hr1 : Kd.C (Kd.int .i64) w A1 l1.length l1) (hc1 : l1.length ≤ c1) (h : mapped_54.f k l0 l1 = some r) :
    Calls Try.prog 45 #[.slice A0 l0.length c0,.func (.func 54) #[] #[.pointer (some ⟨g,0,none⟩)]] w fun e w'=>∃ v0_ : Value,e = .returned (v0_) ∧ Kd.R (Kd.int .i64) 3 w' w.heap.size (fun _=>True) v0_ r ∧ Below w.heap.size w w' :=
  Mapped.calls (atG l1) 54 Try.f54 #[.pointer (some ⟨g,0,none⟩)] Try.func54 (by kernel_rfl) (by kernel_rfl) k A0 c0 l0 r w (fun x y W hb hg=>by
    unfold atG at hg
    by_cases hx : 0 ≤ x ∧ x < (l1.length : Int)
    · rw [if_pos hx] at hg
      obtain rfl:=Option.some.inj hg
      exact closure_54 x A1 c1 l1 g W ((hb.cell (World.block_lt_of_cell? w _ hcell)).trans hcell) (C_below hr1 hb) hx.1 hx.2
    · rw [if_neg hx] at hg
      exact absurd hg (by simp)) hr0 hc0 h

/-! ### slices_Reverse_int_int: function 47 -/
def slices_Reverse_int_int.l0 : Nat → List Int → Int → Int → Option (List Int)
 | 0,_,_,_=>none
 | k + 1,x0,x2,x3=>if x2 < x3 then (if 0 ≤ x3 then (if x3 < (x0.length : Int) then (if 0 ≤ x2 then (if x2 < (x0.length : Int) then (slices_Reverse_int_int.l0 k ((x0.set (x2 : Int).toNat (rd x0 x3)).set (x3 : Int).toNat (rd x0 x2)) (wrap64 (x2 + 1)) (wrap64 (x3 - 1))) else (none)) else (none)) else (none)) else (none)) else (some x0)
def slices_Reverse_int_int.f (k : Nat) (l0 : List Int) : Option (List Int):=slices_Reverse_int_int.l0 k l0 0 (wrap64 ((l0.length : Int) - 1))
theorem slices_Reverse_int_int.mono_l : ∀ k,(∀ y0 y1 y2,LeO (slices_Reverse_int_int.l0 k y0 y1 y2) (slices_Reverse_int_int.l0 (k + 1) y0 y1 y2))
 | 0=>fun _ _ _ r h=>by simp [slices_Reverse_int_int.l0] at h
 | k + 1=>by
  have ih0:=slices_Reverse_int_int.mono_l k
  ·intro y0 y1 y2
   unfold slices_Reverse_int_int.l0
   repeat' first
   | (with_reducible exact ih0 _ _ _)
   | (with_reducible exact LeO.refl _)
   | (with_reducible exact LeO.none _)
   | (with_reducible refine LeO.ite ?_ ?_)
   | (with_reducible refine LeO.bind ?_ (fun _=>?_))
   | exact ih0 _ _ _
   | exact LeO.none _
   | refine LeO.ite ?_ ?_
   | refine LeO.bind ?_ (fun _=>?_)
theorem slices_Reverse_int_int.mono : ∀ a0 k,LeO (slices_Reverse_int_int.f k a0) (slices_Reverse_int_int.f (k + 1) a0):=by
 intro a0 k
 have ih0:=slices_Reverse_int_int.mono_l k
 unfold slices_Reverse_int_int.f
 repeat' first
   | (with_reducible exact ih0 _ _ _)
   | (with_reducible exact LeO.refl _)
   | (with_reducible exact LeO.none _)
   | (with_reducible refine LeO.ite ?_ ?_)
   | (with_reducible refine LeO.bind ?_ (fun _=>?_))
   | exact ih0 _ _ _
   | exact LeO.none _
   | refine LeO.ite ?_ ?_
   | refine LeO.bind ?_ (fun _=>?_)
def slices_Reverse_int_int.T3 : Bool × List (List Nat × List Nat):=(true,[([],[]),([],[]),([],[]),([],[]),([],[]),([],[]),([4,5],[4,5]),([6],[6]),([],[]),([],[]),([8,9],[8,9]),([10],[10]),([0,1,0,1,4,5,6,7,11],[0,1]),([12,7,0,1,4,5,6,7,11],[7,12]),([2,3,0,1,2,3,4,5,6,7,8,9,10,11,12,13],[2,3]),([14,11,13,0,1,2,3,4,5,6,7,8,9,10,11,12,13],[11,14])])
def slices_Reverse_int_int.B3 : List Nat:=[0,0,0,0,0,0,48,112,0,0,768,1792,4083,8179,16383,32767]
theorem slices_Reverse_int_int.tab3 : rtab .any (opsOf Try.f47 3) = slices_Reverse_int_int.T3:=by kernel_rfl
theorem slices_Reverse_int_int.bits3 : waitsOk slices_Reverse_int_int.T3.2 slices_Reverse_int_int.B3 = true:=by kernel_rfl
set_option maxHeartbeats 8000000 in
set_option maxRecDepth 100000 in
theorem slices_Reverse_int_int.calls (k : Nat) (P0_ : Nat → Prop) (u9000_ : Value) (l0 : List Int) (r : List Int) (w0 w : World) (hB : Below w0.heap.size w0 w) (ho0 : Kd.R (Kd.int .i64) 3 w w0.heap.size P0_ u9000_ l0) (h : slices_Reverse_int_int.f k l0 = some r) :
  Calls Try.prog 47 #[u9000_] w fun e w'=>e = .returned (.tuple #[]) ∧ Kd.R (Kd.int .i64) 3 w' w0.heap.size (fun k_=>(P0_ k_ ∨ w.heap.size ≤ k_)) u9000_ r ∧ Below w0.heap.size w0 w' ∧ Kept w w' (fun k_=>P0_ k_):=by
 have HO0:=Aside0.mk (show Kd.R (Kd.int .i64) 3 w w0.heap.size (fun k_=>(P0_ k_ ∨ w.heap.size ≤ k_)) u9000_ l0 from R_mono ho0 (fun k_ hk=>(.inl hk)))
 have HK:=Aside0.mk (Kept.refl w (fun k_=>P0_ k_))
 have HW0:=Aside0.mk hB.size
 have HB:=Aside0.mk hB
 clear hB
 have H : (slices_Reverse_int_int.l0 k l0 0 (wrap64 ((l0.length : Int) - 1))) = some r:=h
 clear h
 have H':=Aside0.mk H
 clear H
 obtain ⟨Ao2,co2,eo2⟩:=R_slice HO0.out
 subst eo2
 go_enter Try.func47,Try.ntmps47
 go_wp2
 go_loopg [2,3] k (fun kq v2 v3 w'=>∃ (x0_1 : List Int) (x2_1 : Int) (x3_1 : Int),v2 = .int .i64 x2_1 ∧ v3 = .int .i64 x3_1 ∧ Aside0 (slices_Reverse_int_int.l0 kq x0_1 x2_1 x3_1 = some r) ∧ Aside0 (kq ≤ k) ∧ Aside0 (Kd.R (Kd.int .i64) 3 w' w0.heap.size (fun k_=>(P0_ k_ ∨ w.heap.size ≤ k_)) (.slice Ao2 l0.length co2) x0_1) ∧ Aside0 (Kept w w' (fun k_=>P0_ k_)) ∧ Aside0 (Below w0.heap.size w0 w'))
 case atStart=>exact ⟨(l0),(0),(wrap64 ((l0.length : Int) - 1)),(by first|rfl|(simp;done)|(simp [*];done)),(by first|rfl|(simp;done)|(simp [*];done)),H',⟨Nat.le_refl _⟩,⟨rm HO0.out⟩,⟨by repeat (first|(with_reducible first|exact HK.out|apply Kept.alloc|apply Kept.drewN|apply Kept.drew)|exact HK.out)⟩,⟨hm HB.out⟩⟩
 clear H'
 try clear p2
 obtain ⟨x0_1,x2_1,x3_1,rfl,rfl,HA,HK1,HO_0,HK,HB⟩:=hrel
 have hl0_1:=(R_reads' HO_0.out).1
 rw [hl0_1] at HO_0
 (try simp only [hl0_1])
 cases gk with
 | zero=>exact absurd HA.out (by simp [slices_Reverse_int_int.l0])
 | succ k1 =>
  have H:=HA.out
  clear HA
  simp only [slices_Reverse_int_int.l0] at H
  by_cases c3 : x2_1 < x3_1
  rotate_left
  ·rw [if_neg c3] at H
   have c3b0 : decide (x2_1 < x3_1) = false:=decide_eq_false c3
   clear c3
   obtain rfl:=Option.some.inj H
   go_wp2
   first|go_end0|((try simp only [Exit.inBlock,Exit.then]);refine bodyPost_ret (results_none rfl _ _ _) rfl ?_)
   exact ⟨by first|rfl|(simp [errW_none,errW_some] <;> rfl)|(simp [*,errW_none,errW_some] <;> rfl),(by first|exact (rm HO_0.out)|(simp only [hl0_1];exact (rm HO_0.out))),hm HB.out,by repeat (first|(with_reducible first|exact HK.out|apply Kept.alloc|apply Kept.drewN|apply Kept.drew)|exact HK.out)⟩
  rw [if_pos c3] at H
  have c3b0 : decide (x2_1 < x3_1) = true:=decide_eq_true c3
  clear c3
  by_cases c4 : 0 ≤ x3_1
  rotate_left
  ·rw [if_neg c4] at H
   exact absurd H (by simp)
  rw [if_pos c4] at H
  have c4b0 : decide (0 ≤ x3_1) = true:=decide_eq_true c4
  clear c4
  by_cases c5 : x3_1 < (x0_1.length : Int)
  rotate_left
  ·rw [if_neg c5] at H
   exact absurd H (by simp)
  rw [if_pos c5] at H
  have c5b0 : decide (x3_1 < (x0_1.length : Int)) = true:=decide_eq_true c5
  (try simp only [hl0_1] at c5b0)
  clear c5
  by_cases c6 : 0 ≤ x2_1
  rotate_left
  ·rw [if_neg c6] at H
   exact absurd H (by simp)
  rw [if_pos c6] at H
  have c6b0 : decide (0 ≤ x2_1) = true:=decide_eq_true c6
  clear c6
  by_cases c7 : x2_1 < (x0_1.length : Int)
  rotate_left
  ·rw [if_neg c7] at H
   exact absurd H (by simp)
  rw [if_pos c7] at H
  have c7b0 : decide (x2_1 < (x0_1.length : Int)) = true:=decide_eq_true c7
  (try simp only [hl0_1] at c7b0)
  clear c7
  obtain ⟨y127,hy127⟩ : ∃ y_ : List Int,y_ = (x0_1.set (x2_1 : Int).toNat (rd x0_1 x3_1)):=⟨_,rfl⟩
  replace H : (slices_Reverse_int_int.l0 k1 (y127.set (x3_1 : Int).toNat (rd x0_1 x2_1)) (wrap64 (x2_1 + 1)) (wrap64 (x3_1 - 1))) = some r:=by first|(rw [hy127];with_reducible exact H)|(have H2_:=(Option.bind_some _ _).symm.trans H;rw [hy127];with_reducible exact H2_)|(have H2_:=(Option.bind_some _ _).symm.trans H;with_reducible exact H2_)|with_reducible exact H|(rw [hy127];exact H)|exact H
  have Ny127:=Aside0.mk hy127
  clear hy127
  obtain ⟨y128,hy128⟩ : ∃ y_ : List Int,y_ = (y127.set (x3_1 : Int).toNat (rd x0_1 x2_1)):=⟨_,rfl⟩
  replace H : (slices_Reverse_int_int.l0 k1 y128 (wrap64 (x2_1 + 1)) (wrap64 (x3_1 - 1))) = some r:=by first|(rw [hy128];with_reducible exact H)|(have H2_:=(Option.bind_some _ _).symm.trans H;rw [hy128];with_reducible exact H2_)|(have H2_:=(Option.bind_some _ _).symm.trans H;with_reducible exact H2_)|with_reducible exact H|(rw [hy128];exact H)|exact H
  have Ny128:=Aside0.mk hy128
  clear hy128
  have H':=Aside0.mk H
  clear H
  try go_wp2
  have n0_:=Aside0.mk (R_drew HO_0.out)
  have n1_:=Aside0.mk (Kept.drew HK.out)
  have n2_:=Aside0.mk (below_drew1 HB.out)
  clear HO_0
  clear HK
  clear HB
  have HO_0:=n0_
  have HK:=n1_
  have HB:=n2_
  clear n0_ n1_ n2_
  have p125 : 0 ≤ (x3_1 : Int):=od
  have q125 : x3_1 < (x0_1.length : Int):=od
  obtain ⟨ad125,e125,hx125_0⟩:=Kd.at_int (R_reads' HO_0.out).2.2 x3_1 p125 q125
  cases e125
  replace p125:=eq_true p125
  replace q125:=eq_true q125
  have p126 : 0 ≤ (x2_1 : Int):=od
  have q126 : x2_1 < (x0_1.length : Int):=od
  obtain ⟨ad126,e126,hx126_0⟩:=Kd.at_int (R_reads' HO_0.out).2.2 x2_1 p126 q126
  obtain rfl : ad125 = ad126:=(by injection e126)
  replace p126:=eq_true p126
  replace q126:=eq_true q126
  have p8 : 0 ≤ (x2_1 : Int):=od
  have q8 : (x2_1 : Int) < ((x0_1.length : Int) : Int):=od
  obtain ⟨go8,co8,eo8,gb8,gl8,cl8,HG8⟩:=R_form HO_0.out (by omega)
  (first|cases eo8|(injection eo8 with ea_ en_ ec_;(first|subst ea_|(injection ea_ with ea_;subst ea_));subst ec_;clear en_))
  have GB8:=Aside0.mk gb8
  have GG8:=Aside0.mk HG8
  clear gb8 gl8 HG8
  have HMgo8:=Aside0.mk (show (P0_ go8 ∨ w.heap.size ≤ go8) from (HO_0.out.1 _ rfl))
  (first|simp only [add_plain] at hx125_0|skip)
  (first|simp only [add_plain] at hx126_0|skip)
  obtain ⟨hx8_0,hf8_0⟩:=R_celln 0 HO_0.out (x2_1 : Int) p8 q8
  replace p8:=eq_true p8
  replace q8:=eq_true q8
  have HP11:=R_putn HO_0.out (x2_1 : Int) (rd x0_1 x3_1)
  rw [← Ny127.out] at HP11
  have HQ11:=Aside0.mk HP11
  clear HP11
  have p9 : 0 ≤ (x3_1 : Int):=od
  have q9 : (x3_1 : Int) < ((x0_1.length : Int) : Int):=od
  obtain ⟨hx9_0,hf9_0⟩:=R_celln 0 HQ11.out (x3_1 : Int) p9 q9
  replace p9:=eq_true p9
  replace q9:=eq_true q9
  have HP12:=R_putn HQ11.out (x3_1 : Int) (rd x0_1 x2_1)
  rw [← Ny128.out] at HP12
  have HQ12:=Aside0.mk HP12
  clear HP12
  refine start_ (n:=16) (S:=fun w'=>w'.cell? ⟨go8,(x3_1).toNat,none⟩ = some (.int .i64 (rd x0_1 x3_1)) ∧ w'.cell? ⟨go8,(x2_1).toNat,none⟩ = some (.int .i64 (rd x0_1 x2_1))) (ds:=[13,15]) (lb 16 0) (by kernel_rfl) rfl rfl ⟨hx125_0,hx126_0⟩ (fun hHeld=>?_);refine with_tabW slices_Reverse_int_int.tab3 slices_Reverse_int_int.bits3 (fun HT_ HW_=>?_)
  generalize wr.drew = w10 at HO_0 HK HB GG8 HQ11 HQ12 hf8_0 hf9_0 hx125_0 hx126_0 hx8_0 hx9_0 hHeld ⊢
  refine pu 0 (N:=some 14) (v:=?_) (a':=?_) (lb 16 1) HT_ (by kernel_rfl) rfl rfl rfl (fun _ _ _ h=>h) ?_ ?_ ?_
  rotate_left
  ·intro w'
   go_simp
   with_reducible rfl
  rotate_left
  ·simp only [ap]
   rfl
  refine pu 1 (N:=some 15) (v:=?_) (a':=?_) (lb 16 3) HT_ (by kernel_rfl) rfl rfl rfl (fun _ _ _ h=>h) ?_ ?_ ?_
  rotate_left
  ·intro w'
   go_simp
   with_reducible rfl
  rotate_left
  ·simp only [ap]
   rfl
  refine pu 2 (N:=some 16) (v:=?_) (a':=?_) (lb 16 7) HT_ (by kernel_rfl) rfl rfl rfl (fun _ _ _ h=>h) ?_ ?_ ?_
  rotate_left
  ·intro w'
   go_simp
   with_reducible rfl
  rotate_left
  ·simp only [ap]
   rfl
  refine pu 3 (N:=some 17) (v:=?_) (a':=?_) (lb 16 15) HT_ (by kernel_rfl) rfl rfl rfl (fun _ _ _ h=>h) ?_ ?_ ?_
  rotate_left
  ·intro w'
   go_simp
   with_reducible rfl
  rotate_left
  ·simp only [ap]
   rfl
  refine pu 4 (N:=some 18) (v:=?_) (a':=?_) (lb 16 31) HT_ (by kernel_rfl) rfl rfl rfl (fun _ _ _ h=>h) ?_ ?_ ?_
  rotate_left
  ·intro w'
   go_simp
   with_reducible rfl
  rotate_left
  ·simp only [ap]
   rfl
  refine pu 5 (N:=some 19) (v:=?_) (a':=?_) (lb 16 63) HT_ (by kernel_rfl) rfl rfl rfl (fun _ _ _ h=>h) ?_ ?_ ?_
  rotate_left
  ·intro w'
   go_simp
   with_reducible rfl
  rotate_left
  ·simp only [ap]
   rfl
  refine pu 6 (N:=some 20) (v:=?_) (a':=?_) (lb 16 127) HT_ (by kernel_rfl) rfl rfl rfl (fun _ _ _ h=>h) ?_ ?_ ?_
  rotate_left
  ·intro w'
   go_simp
   with_reducible rfl
  rotate_left
  ·simp only [ap]
   rfl
  refine pu 8 (N:=some 22) (v:=?_) (a':=?_) (lb 16 383) HT_ (by kernel_rfl) rfl rfl rfl (fun _ _ _ h=>h) ?_ ?_ ?_
  rotate_left
  ·intro w'
   go_simp
   with_reducible rfl
  rotate_left
  ·simp only [ap]
   rfl
  refine pu 9 (N:=some 23) (v:=?_) (a':=?_) (lb 16 895) HT_ (by kernel_rfl) rfl rfl rfl (fun _ _ _ h=>h) ?_ ?_ ?_
  rotate_left
  ·intro w'
   go_simp
   with_reducible rfl
  rotate_left
  ·simp only [ap]
   rfl
  refine pu 10 (N:=some 24) (v:=?_) (a':=?_) (lb 16 1919) HT_ (by kernel_rfl) rfl rfl rfl (fun _ _ _ h=>h) ?_ ?_ ?_
  rotate_left
  ·intro w'
   go_simp
   with_reducible rfl
  rotate_left
  ·simp only [ap]
   rfl
  refine take_ (i:=7) (N:=some 21) (v:=?_) (a':=?_) (lb 16 2047) rfl rfl (take_ofW HT_.out HW_.out (by kernel_rfl)) (fun _ _ _ h=>h) (Or.inl ⟨by rfl,?_⟩) hHeld ?_ ?_
  rotate_left
  ·rintro w' ⟨s0,s1⟩
   go_simp
   with_reducible rfl
  rotate_left
  ·simp only [ap]
   rfl
  refine take_ (i:=11) (N:=some 25) (v:=?_) (a':=?_) (lb 16 4095) rfl rfl (take_ofW HT_.out HW_.out (by kernel_rfl)) (fun _ _ _ h=>h) (Or.inl ⟨by rfl,?_⟩) hHeld ?_ ?_
  rotate_left
  ·rintro w' ⟨s0,s1⟩
   go_simp
   with_reducible rfl
  rotate_left
  ·simp only [ap]
   rfl
  refine pu 12 (N:=some 26) (v:=?_) (a':=?_) (lb 16 8191) HT_ (by kernel_rfl) rfl rfl rfl (fun _ _ _ h=>h) ?_ ?_ ?_
  rotate_left
  ·intro w'
   go_simp
   with_reducible rfl
  rotate_left
  ·simp only [ap]
   rfl
  refine last_ (i:=13) (N:=none) (lb 16 16383) rfl rfl (one_of HT_.out (by kernel_rfl)) (by decide) (fun K hK=>?_)
  refine skip_ (w1:=?_) (by rfl) rfl ?_ ?_
  rotate_left
  ·go_simp
   rfl
  refine hK.out _ _ ?_
  clear hK K
  refine pu 14 (N:=some 27) (v:=?_) (a':=?_) (lb 16 32767) HT_ (by kernel_rfl) rfl rfl rfl (fun _ _ _ h=>h) ?_ ?_ ?_
  rotate_left
  ·intro w'
   go_simp
   with_reducible rfl
  rotate_left
  ·simp only [ap]
   rfl
  refine last_ (i:=15) (N:=none) (lb 16 65535) rfl rfl (one_of HT_.out (by kernel_rfl)) (by decide) (fun K hK=>?_)
  refine skip_ (w1:=?_) (by rfl) rfl ?_ ?_
  rotate_left
  ·go_simp
   rfl
  refine hK.out _ _ ?_
  clear hK K
  refine done_ (done_of HT_.out (by kernel_rfl)) ?_
  try go_wp2
  (try simp only [← hl0_1])
  go_roundg k1
  case measure=>have:=HK1.out;omega
  case rel=>exact ⟨(y128),(wrap64 (x2_1 + 1)),(wrap64 (x3_1 - 1)),(by first|rfl|(simp;done)|(simp [*];done)),(by first|rfl|(simp;done)|(simp [*];done)),H',⟨by have:=HK1.out;omega⟩,⟨by (try simp only [hl0_1]);(with_reducible repeat (first|apply R_alloc|apply R_drewN|apply R_drew));exact HQ12.out⟩,⟨by repeat (first|(with_reducible first|exact HK.out|apply Kept.alloc|apply Kept.drewN|apply Kept.drew|refine Kept.setCell ?_ HMgo8.out _|refine Kept.setCell ?_ HMgo8.out _)|exact HK.out)⟩,⟨by repeat (first|(with_reducible first|exact HB.out|apply below_alloc|apply pw_below_drewN|apply below_drew1|refine below_set ?_ GB8.out|refine below_set ?_ GB8.out)|exact HB.out)⟩⟩

/-! ### impl_TurnAround: function 20 -/
def impl_TurnAround.f (k : Nat) (l0 : List Int) : Option (List Int × Bool):=(impl_IsLane.f k l0).bind fun t129=>(if t129 = true then ((mapped_46.f k l0).bind fun t130=>((slices_Reverse_int_int.f k t130).bind fun t133=>(some (t133,true)))) else (some (([] : List Int),false)))
theorem impl_TurnAround.mono : ∀ a0 k,LeO (impl_TurnAround.f k a0) (impl_TurnAround.f (k + 1) a0):=by
 intro a0 k
 unfold impl_TurnAround.f
 repeat' first
   | (with_reducible exact impl_IsLane.mono _ _)
   | (with_reducible exact mapped_46.mono _ _)
   | (with_reducible exact slices_Reverse_int_int.mono _ _)
   | (with_reducible exact LeO.refl _)
   | (with_reducible exact LeO.none _)
   | (with_reducible refine LeO.ite ?_ ?_)
   | (with_reducible refine LeO.bind ?_ (fun _=>?_))
   | exact impl_IsLane.mono _ _
   | exact mapped_46.mono _ _
   | exact slices_Reverse_int_int.mono _ _
   | exact LeO.none _
   | refine LeO.ite ?_ ?_
   | refine LeO.bind ?_ (fun _=>?_)
set_option maxHeartbeats 8000000 in
set_option maxRecDepth 100000 in
theorem impl_TurnAround.calls (k : Nat) (A0 : Option Addr) (c0 : Nat) (l0 : List Int) (r1 : List Int) (r2 : Bool) (w : World) (hr0 : Kd.C (Kd.int .i64) w A0 l0.length l0) (hc0 : l0.length ≤ c0) (h : impl_TurnAround.f k l0 = some (r1,r2)) :
  Calls Try.prog 20 #[.slice A0 l0.length c0] w fun e w'=>∃ v0_ : Value,e = .returned (.tuple #[v0_,.bool r2]) ∧ Kd.R (Kd.int .i64) 3 w' w.heap.size (fun _=>True) v0_ r1 ∧ Below w.heap.size w w':=by
 have HR0:=Aside0.mk hr0
 have HC0:=Aside0.mk hc0
 clear hr0 hc0
 have HB:=Aside0.mk (Below.refl w.heap.size w)
 have H : ((impl_IsLane.f k l0).bind fun t129=>(if t129 = true then ((mapped_46.f k l0).bind fun t130=>((slices_Reverse_int_int.f k t130).bind fun t133=>(some (t133,true)))) else (some (([] : List Int),false)))) = some (r1,r2):=h
 clear h
 replace H:=Option.bind_eq_some_iff.mp H
 obtain ⟨t129,A20,H⟩:=H
 replace H : (if t129 = true then ((mapped_46.f k l0).bind fun t130=>((slices_Reverse_int_int.f k t130).bind fun t133=>(some (t133,true)))) else (some (([] : List Int),false))) = some (r1,r2):=H
 have A2:=Aside0.mk A20
 clear A20
 by_cases c3 : t129 = true
 rotate_left
 ·replace c3:=Bool.eq_false_iff.mpr c3
  subst c3
  have H1 : (some (([] : List Int),false)) = some (r1,r2):=by rw [if_neg (show ¬ (false = true) by decide)] at H;exact H
  clear H
  have H:=H1
  clear H1
  simp only [Option.some.injEq,Prod.mk.injEq] at H
  obtain ⟨rfl,rfl⟩:=H
  go_enter Try.func20,Try.ntmps20
  go_wp2_with (first|((with_reducible refine gate_callee (f:=15) rfl ?_);refine goesL_ (some 6) rfl rfl Try.func15 (by kernel_rfl) rfl #[.slice A0 l0.length c0] rfl (by (try simp only [List.map_toArray,List.map_cons,List.map_nil]);first|done|rfl|(simp only [List.length_drop,List.length_take];rfl)) ?_;(with_reducible refine (impl_IsLane.calls k _ _ l0 false _ ?side1 ?side2 A2.out).mono ?_);(case side1=>repeat (first|exact HR0.out|(with_reducible refine C_alloc ?_ _)|(with_reducible refine C_drewN ?_ _)|(with_reducible refine C_drew ?_)));(case side2=>exact HC0.out);rintro e w' ⟨rfl,⟨nd,rfl⟩⟩;refine ⟨_,rfl,?_⟩))
  go_ret2
  exact ⟨_,by first|rfl|(simp [errW_none,errW_some] <;> rfl)|(simp [*,errW_none,errW_some] <;> rfl),by first|exact R_nil _ _ _ _ _|exact Kd.N_nil _ _ _ _ _|exact Kd.V_nil _ _ _ _ _|exact Kd.Q_nil _ _ _ _ _|exact Kd.S_nil _ _ _ _ _,hm HB.out⟩
 subst c3
 have H1 : ((mapped_46.f k l0).bind fun t130=>((slices_Reverse_int_int.f k t130).bind fun t133=>(some (t133,true)))) = some (r1,r2):=by rw [if_pos rfl] at H;exact H
 clear H
 have H:=H1
 clear H1
 replace H:=Option.bind_eq_some_iff.mp H
 obtain ⟨t130,A40,H⟩:=H
 replace H : ((slices_Reverse_int_int.f k t130).bind fun t133=>(some (t133,true))) = some (r1,r2):=H
 have A4:=Aside0.mk A40
 clear A40
 replace H:=Option.bind_eq_some_iff.mp H
 obtain ⟨t133,A50,H⟩:=H
 replace H : (some (t133,true)) = some (r1,r2):=H
 have A5:=Aside0.mk A50
 clear A50
 simp only [Option.some.injEq,Prod.mk.injEq] at H
 obtain ⟨rfl,rfl⟩:=H
 go_enter Try.func20,Try.ntmps20
 go_wp2_with (first|((with_reducible refine gate_callee (f:=15) rfl ?_);refine goesL_ (some 6) rfl rfl Try.func15 (by kernel_rfl) rfl #[.slice A0 l0.length c0] rfl (by (try simp only [List.map_toArray,List.map_cons,List.map_nil]);first|done|rfl|(simp only [List.length_drop,List.length_take];rfl)) ?_;(with_reducible refine (impl_IsLane.calls k _ _ l0 true _ ?side1 ?side2 A2.out).mono ?_);(case side1=>repeat (first|exact HR0.out|(with_reducible refine C_alloc ?_ _)|(with_reducible refine C_drewN ?_ _)|(with_reducible refine C_drew ?_)));(case side2=>exact HC0.out);rintro e w' ⟨rfl,⟨nd,rfl⟩⟩;refine ⟨_,rfl,?_⟩)|((with_reducible refine gate_callee (f:=45) rfl ?_);refine goesL_ (some 9) rfl rfl Try.func45 (by kernel_rfl) rfl #[.slice A0 l0.length c0,.func (.func 46) #[] #[]] rfl (by (try simp only [List.map_toArray,List.map_cons,List.map_nil]);first|done|rfl|(simp only [List.length_drop,List.length_take];rfl)) ?_;(with_reducible refine (mapped_46.calls k _ _ l0 t130 _ ?side1 ?side2 A4.out).mono ?_);(case side1=>repeat (first|exact HR0.out|(with_reducible refine C_alloc ?_ _)|(with_reducible refine C_drewN ?_ _)|(with_reducible refine C_drew ?_)));(case side2=>exact HC0.out);rintro e w6 ⟨v131,rfl,ho0,hb⟩;refine ⟨_,rfl,?_⟩;have n0_:=Aside0.mk (R_lower ho0 (below_size (hm HB.out)));have n1_:=Aside0.mk (below_step (hm HB.out) hb);clear HB;have HO132:=n0_;have HB:=n1_;clear n0_ n1_;(try clear hb);(try clear hb2);(try clear hk);(try clear hi);(try clear ho0);obtain ⟨Ao7,co7,eo7⟩:=R_slice HO132.out;subst eo7)|((with_reducible refine gate_callee (f:=47) rfl ?_);refine goesL_ (some 11) rfl rfl Try.func47 (by kernel_rfl) rfl #[.slice Ao7 t130.length co7] rfl (by (try simp only [List.map_toArray,List.map_cons,List.map_nil]);first|done|rfl|(simp only [List.length_drop,List.length_take];rfl)) ?_;(with_reducible refine (slices_Reverse_int_int.calls k (fun k_=>some k_ = (.slice Ao7 t130.length co7 : Value).ownBlock) (.slice Ao7 t130.length co7) t130 t133 w _ ?side1 ?side2 A5.out).mono ?_);(case side1=>repeat (first|(with_reducible first|exact HB.out|apply below_alloc|apply pw_below_drewN|apply below_drew1)|exact HB.out));(case side2=>exact R_tight rfl HO132.out);rintro e w8 ⟨rfl,hy0,hb,hkp⟩;refine ⟨_,rfl,?_⟩;have n0_:=Aside0.mk (R_reok rfl hy0 (fun k_ e_=>HO132.out.1 k_ e_));have n1_:=Aside0.mk (hb);clear HO132;clear HB;have HO132:=n0_;have HB:=n1_;clear n0_ n1_;(try clear hb);(try clear hkp);(try clear hy0)))
 go_ret2
 exact ⟨_,by first|rfl|(simp [errW_none,errW_some] <;> rfl)|(simp [*,errW_none,errW_some] <;> rfl),rm HO132.out,hm HB.out⟩

/-! ### spec_JamsOf: function 23 -/
def spec_JamsOf.l0 : Nat → List Int → List Int → Int → Option (List Int × Bool)
 | 0,_,_,_=>none
 | k + 1,x0,x4,x5=>if x5 < (x0.length : Int) then (if 0 ≤ x5 then (if (rd x0 x5) = 1 then (if (x0.length : Int) = 0 then (none) else (if 0 ≤ (Int.tmod (wrap64 (x5 + 1)) (x0.length : Int)) then (if (Int.tmod (wrap64 (x5 + 1)) (x0.length : Int)) < (x0.length : Int) then (if (rd x0 (Int.tmod (wrap64 (x5 + 1)) (x0.length : Int))) = 1 then (if x4.length < 17592186044416 then (spec_JamsOf.l0 k x0 (x4 ++ [x5]) (wrap64 (x5 + 1))) else (none)) else (spec_JamsOf.l0 k x0 x4 (wrap64 (x5 + 1)))) else (none)) else (none))) else (spec_JamsOf.l0 k x0 x4 (wrap64 (x5 + 1)))) else (none)) else (some (x4,true))
def spec_JamsOf.f (k : Nat) (l0 : List Int) : Option (List Int × Bool):=(some (([] : List Int) : List Int)).bind fun y134=>((spec_l8Lane.f k l0).bind fun t137=>(if t137 = true then (spec_JamsOf.l0 k l0 y134 0) else (some (y134,false))))
theorem spec_JamsOf.mono_l : ∀ k,(∀ y0 y1 y2,LeO (spec_JamsOf.l0 k y0 y1 y2) (spec_JamsOf.l0 (k + 1) y0 y1 y2))
 | 0=>fun _ _ _ r h=>by simp [spec_JamsOf.l0] at h
 | k + 1=>by
  have ih0:=spec_JamsOf.mono_l k
  ·intro y0 y1 y2
   unfold spec_JamsOf.l0
   repeat' first
   | (with_reducible exact ih0 _ _ _)
   | (with_reducible exact spec_l8Lane.mono _ _)
   | (with_reducible exact LeO.refl _)
   | (with_reducible exact LeO.none _)
   | (with_reducible refine LeO.ite ?_ ?_)
   | (with_reducible refine LeO.bind ?_ (fun _=>?_))
   | exact ih0 _ _ _
   | exact spec_l8Lane.mono _ _
   | exact LeO.none _
   | refine LeO.ite ?_ ?_
   | refine LeO.bind ?_ (fun _=>?_)
theorem spec_JamsOf.mono : ∀ a0 k,LeO (spec_JamsOf.f k a0) (spec_JamsOf.f (k + 1) a0):=by
 intro a0 k
 have ih0:=spec_JamsOf.mono_l k
 unfold spec_JamsOf.f
 repeat' first
   | (with_reducible exact ih0 _ _ _)
   | (with_reducible exact spec_l8Lane.mono _ _)
   | (with_reducible exact LeO.refl _)
   | (with_reducible exact LeO.none _)
   | (with_reducible refine LeO.ite ?_ ?_)
   | (with_reducible refine LeO.bind ?_ (fun _=>?_))
   | exact ih0 _ _ _
   | exact spec_l8Lane.mono _ _
   | exact LeO.none _
   | refine LeO.ite ?_ ?_
   | refine LeO.bind ?_ (fun _=>?_)
set_option maxHeartbeats 8000000 in
set_option maxRecDepth 100000 in
theorem spec_JamsOf.calls (k : Nat) (A0 : Option Addr) (c0 : Nat) (l0 : List Int) (r1 : List Int) (r2 : Bool) (w : World) (hr0 : Kd.C (Kd.int .i64) w A0 l0.length l0) (hc0 : l0.length ≤ c0) (h : spec_JamsOf.f k l0 = some (r1,r2)) :
  Calls Try.prog 23 #[.slice A0 l0.length c0] w fun e w'=>∃ v0_ : Value,e = .returned (.tuple #[v0_,.bool r2]) ∧ Kd.R (Kd.int .i64) 3 w' w.heap.size (fun _=>True) v0_ r1 ∧ Below w.heap.size w w':=by
 have HR0:=Aside0.mk hr0
 have HC0:=Aside0.mk hc0
 clear hr0 hc0
 have HB:=Aside0.mk (Below.refl w.heap.size w)
 have H : ((some (([] : List Int) : List Int)).bind fun y134=>((spec_l8Lane.f k l0).bind fun t137=>(if t137 = true then (spec_JamsOf.l0 k l0 y134 0) else (some (y134,false))))) = some (r1,r2):=h
 clear h
 obtain ⟨y134,hy134⟩ : ∃ y_ : List Int,y_ = (([] : List Int)):=⟨_,rfl⟩
 replace H : ((spec_l8Lane.f k l0).bind fun t137=>(if t137 = true then (spec_JamsOf.l0 k l0 y134 0) else (some (y134,false)))) = some (r1,r2):=by first|(rw [hy134];with_reducible exact H)|(have H2_:=(Option.bind_some _ _).symm.trans H;rw [hy134];with_reducible exact H2_)|(have H2_:=(Option.bind_some _ _).symm.trans H;with_reducible exact H2_)|with_reducible exact H|(rw [hy134];exact H)|exact H
 have Ny134:=Aside0.mk hy134
 clear hy134
 replace H:=Option.bind_eq_some_iff.mp H
 obtain ⟨t137,A20,H⟩:=H
 replace H : (if t137 = true then (spec_JamsOf.l0 k l0 y134 0) else (some (y134,false))) = some (r1,r2):=H
 have A2:=Aside0.mk A20
 clear A20
 by_cases c3 : t137 = true
 rotate_left
 ·replace c3:=Bool.eq_false_iff.mpr c3
  subst c3
  have H1 : (some (y134,false)) = some (r1,r2):=by rw [if_neg (show ¬ (false = true) by decide)] at H;exact H
  clear H
  have H:=H1
  clear H1
  simp only [Option.some.injEq,Prod.mk.injEq] at H
  obtain ⟨rfl,rfl⟩:=H
  go_enter Try.func23,Try.ntmps23
  go_wp2_with (first|((with_reducible refine gate_dst (N:=6) rfl ?_);refine R_lit (Kd.int .i64) _ 3 ?hg (N:=6) ?hd (xs:=([] : List Int)) (inner:=[]) (ok:=fun _=>True) (okp:=fun _=>True) ?hr ?hp (fun _ hk=>hk) trivial (Below.refl _ _) (Nat.le_refl _) (by simp) ?_;(case hd=>rfl);(case hg=>rfl);(case hr=>first|(go_simp;done)|(go_simp;rfl));(case hp=>exact (Reps.none _ _));intro v135 w16 ho17 hb hg_ hnew_;clear hg_ hnew_;(first|rw [← Ny134.out] at ho17|(simp only [Int.reduceToNat] at ho17;rw [← Ny134.out] at ho17));have n0_:=Aside0.mk (R_lower ho17 (below_size (hm HB.out)));have n1_:=Aside0.mk (below_step (hm HB.out) hb);clear HB;have HO136:=n0_;have HB:=n1_;clear n0_ n1_;clear hb ho17)|((with_reducible refine gate_callee (f:=40) rfl ?_);refine goesL_ (some 8) rfl rfl Try.func40 (by kernel_rfl) rfl #[.slice A0 l0.length c0] rfl (by (try simp only [List.map_toArray,List.map_cons,List.map_nil]);first|done|rfl|(simp only [List.length_drop,List.length_take];rfl)) ?_;(with_reducible refine (spec_l8Lane.calls k _ _ l0 false _ ?side1 ?side2 A2.out).mono ?_);(case side1=>exact cm (C_below HR0.out HB.out));(case side2=>exact HC0.out);rintro e w' ⟨rfl,⟨nd,rfl⟩⟩;refine ⟨_,rfl,?_⟩))
  go_ret2
  exact ⟨_,by first|rfl|(simp [errW_none,errW_some] <;> rfl)|(simp [*,errW_none,errW_some] <;> rfl),rm HO136.out,hm HB.out⟩
 subst c3
 have H1 : (spec_JamsOf.l0 k l0 y134 0) = some (r1,r2):=by rw [if_pos rfl] at H;exact H
 clear H
 have H:=H1
 clear H1
 have H':=Aside0.mk H
 clear H
 go_enter Try.func23,Try.ntmps23
 go_wp2_with (first|((with_reducible refine gate_dst (N:=6) rfl ?_);refine R_lit (Kd.int .i64) _ 3 ?hg (N:=6) ?hd (xs:=([] : List Int)) (inner:=[]) (ok:=fun _=>True) (okp:=fun _=>True) ?hr ?hp (fun _ hk=>hk) trivial (Below.refl _ _) (Nat.le_refl _) (by simp) ?_;(case hd=>rfl);(case hg=>rfl);(case hr=>first|(go_simp;done)|(go_simp;rfl));(case hp=>exact (Reps.none _ _));intro v135 w4 ho5 hb hg_ hnew_;clear hg_ hnew_;(first|rw [← Ny134.out] at ho5|(simp only [Int.reduceToNat] at ho5;rw [← Ny134.out] at ho5));have n0_:=Aside0.mk (R_lower ho5 (below_size (hm HB.out)));have n1_:=Aside0.mk (below_step (hm HB.out) hb);clear HB;have HO136:=n0_;have HB:=n1_;clear n0_ n1_;clear hb ho5)|((with_reducible refine gate_callee (f:=40) rfl ?_);refine goesL_ (some 8) rfl rfl Try.func40 (by kernel_rfl) rfl #[.slice A0 l0.length c0] rfl (by (try simp only [List.map_toArray,List.map_cons,List.map_nil]);first|done|rfl|(simp only [List.length_drop,List.length_take];rfl)) ?_;(with_reducible refine (spec_l8Lane.calls k _ _ l0 true _ ?side1 ?side2 A2.out).mono ?_);(case side1=>exact cm (C_below HR0.out HB.out));(case side2=>exact HC0.out);rintro e w' ⟨rfl,⟨nd,rfl⟩⟩;refine ⟨_,rfl,?_⟩))
 go_loopg [4,5] k (fun kq v4 v5 w'=>∃ (x4_1 : List Int) (x5_1 : Int),v5 = .int .i64 x5_1 ∧ Aside0 (spec_JamsOf.l0 kq l0 x4_1 x5_1 = some (r1,r2)) ∧ Aside0 (kq ≤ k) ∧ Aside0 (Kd.R (Kd.int .i64) 3 w' w.heap.size (fun _=>True) v4 x4_1) ∧ Aside0 (Below w.heap.size w w'))
 case atStart=>exact ⟨(y134),(0),(by first|rfl|(simp;done)|(simp [*];done)),H',⟨Nat.le_refl _⟩,⟨rm HO136.out⟩,⟨hm HB.out⟩⟩
 clear H'
 try clear c2
 try clear p2
 try clear c3
 try clear c4
 obtain ⟨x4_1,x5_1,rfl,HA,HK1,HO_4,HB⟩:=hrel
 cases gk with
 | zero=>exact absurd HA.out (by simp [spec_JamsOf.l0])
 | succ k1 =>
  have H:=HA.out
  clear HA
  simp only [spec_JamsOf.l0] at H
  by_cases c6 : x5_1 < (l0.length : Int)
  rotate_left
  ·rw [if_neg c6] at H
   have c6b0 : decide (x5_1 < (l0.length : Int)) = false:=decide_eq_false c6
   clear c6
   simp only [Option.some.injEq,Prod.mk.injEq] at H
   obtain ⟨rfl,rfl⟩:=H
   go_wp2
   go_ret2
   exact ⟨_,by first|rfl|(simp [errW_none,errW_some] <;> rfl)|(simp [*,errW_none,errW_some] <;> rfl),rm HO_4.out,hm HB.out⟩
  rw [if_pos c6] at H
  have c6b0 : decide (x5_1 < (l0.length : Int)) = true:=decide_eq_true c6
  clear c6
  by_cases c7 : 0 ≤ x5_1
  rotate_left
  ·rw [if_neg c7] at H
   exact absurd H (by simp)
  rw [if_pos c7] at H
  have c7b0 : decide (0 ≤ x5_1) = true:=decide_eq_true c7
  clear c7
  by_cases c8 : (rd l0 x5_1) = 1
  rotate_left
  ·rw [if_neg c8] at H
   have c8b0 : ((rd l0 x5_1) == 1) = false:=beq_eq_false_iff_ne.mpr c8
   have c8b1 : ((rd l0 x5_1) != 1) = true:=bne_iff_ne.mpr c8
   have H':=Aside0.mk H
   clear H
   have p138 : 0 ≤ (x5_1 : Int):=od
   have q138 : x5_1 < (l0.length : Int):=od
   obtain ⟨ad138,e138,hx138_0⟩:=Kd.at_int HR0.out x5_1 p138 q138
   cases e138
   replace hx138_0:=(HB.out.cell (World.block_lt_of_cell? w _ hx138_0)).trans hx138_0
   replace p138:=eq_true p138
   replace q138:=eq_true q138
   go_wp2
   go_roundg k1
   case measure=>have:=HK1.out;omega
   case rel=>exact ⟨(x4_1),(wrap64 (x5_1 + 1)),(by first|rfl|(simp;done)|(simp [*];done)),H',⟨by have:=HK1.out;omega⟩,⟨rm HO_4.out⟩,⟨hm HB.out⟩⟩
  rw [if_pos c8] at H
  have c8b0 : ((rd l0 x5_1) == 1) = true:=beq_iff_eq.mpr c8
  have c8b1 : ((rd l0 x5_1) != 1) = false:=bne_eq_false_iff_eq.mpr c8
  clear c8
  by_cases c9 : (l0.length : Int) = 0
  ·rw [if_pos c9] at H
   exact absurd H (by simp)
  rw [if_neg c9] at H
  have c9b0 : ((l0.length : Int) == 0) = false:=beq_eq_false_iff_ne.mpr c9
  have c9b1 : ((l0.length : Int) != 0) = true:=bne_iff_ne.mpr c9
  have c9b2 : ¬ (l0 = []):=fun h_=>c9 (by rw [h_];rfl)
  obtain ⟨ji10,hji10⟩ : ∃ j_ : Int,(Int.tmod (wrap64 (x5_1 + 1)) (l0.length : Int)) = j_:=⟨_,rfl⟩
  replace H : (if 0 ≤ (ji10) then (if (ji10) < (l0.length : Int) then (if (rd l0 (ji10)) = 1 then (if x4_1.length < 17592186044416 then (spec_JamsOf.l0 k1 l0 (x4_1 ++ [x5_1]) (wrap64 (x5_1 + 1))) else (none)) else (spec_JamsOf.l0 k1 l0 x4_1 (wrap64 (x5_1 + 1)))) else (none)) else (none)) = some (r1,r2):=by first|(rw [hji10] at H;exact H)|(simp only [hji10] at H ⊢;exact H)
  by_cases c11 : 0 ≤ (ji10)
  rotate_left
  ·rw [if_neg c11] at H
   exact absurd H (by simp)
  rw [if_pos c11] at H
  have c11b0 : decide (0 ≤ (ji10)) = true:=decide_eq_true c11
  clear c11
  by_cases c12 : (ji10) < (l0.length : Int)
  rotate_left
  ·rw [if_neg c12] at H
   exact absurd H (by simp)
  rw [if_pos c12] at H
  have c12b0 : decide ((ji10) < (l0.length : Int)) = true:=decide_eq_true c12
  clear c12
  by_cases c13 : (rd l0 (ji10)) = 1
  rotate_left
  ·rw [if_neg c13] at H
   have c13b0 : ((rd l0 (ji10)) == 1) = false:=beq_eq_false_iff_ne.mpr c13
   have c13b1 : ((rd l0 (ji10)) != 1) = true:=bne_iff_ne.mpr c13
   have H':=Aside0.mk H
   clear H
   have p138 : 0 ≤ (x5_1 : Int):=od
   have q138 : x5_1 < (l0.length : Int):=od
   obtain ⟨ad138,e138,hx138_0⟩:=Kd.at_int HR0.out x5_1 p138 q138
   cases e138
   replace hx138_0:=(HB.out.cell (World.block_lt_of_cell? w _ hx138_0)).trans hx138_0
   replace p138:=eq_true p138
   replace q138:=eq_true q138
   have p139 : 0 ≤ ((ji10) : Int):=od
   have q139 : (ji10) < (l0.length : Int):=od
   obtain ⟨ad139,e139,hx139_0⟩:=Kd.at_int HR0.out (ji10) p139 q139
   obtain rfl : ad138 = ad139:=(by injection e139)
   replace hx139_0:=(HB.out.cell (World.block_lt_of_cell? w _ hx139_0)).trans hx139_0
   replace p139:=eq_true p139
   replace q139:=eq_true q139
   go_wp2
   go_roundg k1
   case measure=>have:=HK1.out;omega
   case rel=>exact ⟨(x4_1),(wrap64 (x5_1 + 1)),(by first|rfl|(simp;done)|(simp [*];done)),H',⟨by have:=HK1.out;omega⟩,⟨rm HO_4.out⟩,⟨hm HB.out⟩⟩
  rw [if_pos c13] at H
  have c13b0 : ((rd l0 (ji10)) == 1) = true:=beq_iff_eq.mpr c13
  have c13b1 : ((rd l0 (ji10)) != 1) = false:=bne_eq_false_iff_eq.mpr c13
  clear c13
  by_cases c14 : x4_1.length < 17592186044416
  rotate_left
  ·rw [if_neg c14] at H
   exact absurd H (by simp)
  rw [if_pos c14] at H
  have LMc14:=Aside0.mk c14
  clear c14
  obtain ⟨y140,hy140⟩ : ∃ y_ : List Int,y_ = (x4_1 ++ [x5_1]):=⟨_,rfl⟩
  replace H : (spec_JamsOf.l0 k1 l0 y140 (wrap64 (x5_1 + 1))) = some (r1,r2):=by first|(rw [hy140];with_reducible exact H)|(have H2_:=(Option.bind_some _ _).symm.trans H;rw [hy140];with_reducible exact H2_)|(have H2_:=(Option.bind_some _ _).symm.trans H;with_reducible exact H2_)|with_reducible exact H|(rw [hy140];exact H)|exact H
  have Ny140:=Aside0.mk hy140
  clear hy140
  have H':=Aside0.mk H
  clear H
  have p138 : 0 ≤ (x5_1 : Int):=od
  have q138 : x5_1 < (l0.length : Int):=od
  obtain ⟨ad138,e138,hx138_0⟩:=Kd.at_int HR0.out x5_1 p138 q138
  cases e138
  replace hx138_0:=(HB.out.cell (World.block_lt_of_cell? w _ hx138_0)).trans hx138_0
  replace p138:=eq_true p138
  replace q138:=eq_true q138
  have p139 : 0 ≤ ((ji10) : Int):=od
  have q139 : (ji10) < (l0.length : Int):=od
  obtain ⟨ad139,e139,hx139_0⟩:=Kd.at_int HR0.out (ji10) p139 q139
  obtain rfl : ad138 = ad139:=(by injection e139)
  replace hx139_0:=(HB.out.cell (World.block_lt_of_cell? w _ hx139_0)).trans hx139_0
  replace p139:=eq_true p139
  replace q139:=eq_true q139
  go_wp2_with (first|((with_reducible refine gate_builtin (b:=.append) (xs:=#[.tmp 33,.tmp 35]) rfl ?_);at_builtin;refine R_append (Kd.int .i64) (w0:=w) w.heap.size rfl (.tmp 33) (.tmp 35) 22 3 (.int .i64 0) 8 rfl Try.underlying22 info3 rfl (by decide) (by omega) u4 x4_1 x5_1 [.int .i64 x5_1] (fun _=>True) (fun _=>False) rfl rfl ?aP (fun _ hk=>hk.elim) ?aF ?aO ?aB ?aS ?aL ?_;(case aP=>exact rfl);(case aB=>exact (hm HB.out));(case aF=>exact (fun _ _=>trivial));(case aO=>exact (rm HO_4.out));(case aS=>exact (below_size (hm HB.out)));(case aL=>have:=LMc14.out;omega);intro v141 w15 ho hb hg hat;rw [← Ny140.out] at ho;have n0_:=Aside0.mk (hb);have n1_:=Aside0.mk (ho);clear HB;clear HO_4;have HB:=n0_;have HO142:=n1_;clear n0_ n1_;clear ho hb hg hat))
  go_roundg k1
  case measure=>have:=HK1.out;omega
  case rel=>exact ⟨(y140),(wrap64 (x5_1 + 1)),(by first|rfl|(simp;done)|(simp [*];done)),H',⟨by have:=HK1.out;omega⟩,⟨rm HO142.out⟩,⟨hm HB.out⟩⟩


end
end Go.Proofs.Ythkbjcihelmaeaa.QFnLanes
