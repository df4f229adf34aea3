/- Functions that the law FnWires comes to, and their walks: no condition but those named. -/
import Derived.Test.YtciihopkgblpkaaQFnWiresx0
import Derived.Test.YtciihopkgblpkaaQFnWiresx1
import Derived.Test.YtciihopkgblpkaaQFnWiresx4
import Derived.Test.YtciihopkgblpkaaQFnWiresx6
import Derived.Test.YtciihopkgblpkaaQFnWiresx8
namespace Go.Proofs.Ytciihopkgblpkaa.QFnWires
open Go.RowKit Go.Proofs.YtciihopkgblpkaaW.PrintWords Go.Proofs.YtciihopkgblpkaaW.PrintLast Go.Proofs.YtciihopkgblpkaaW.PrintMore Go.Proofs.Ytciihopkgblpkaa.Short
attribute [local go_sem] max2_int min2_int max_two min_two max_three min_three max_four min_four
set_option linter.unusedVariables false
set_option linter.unusedSimpArgs false

section
open Kd
/-! ### slices_pdqsortOrdered_int: function 60 -/
mutual
def slices_pdqsortOrdered_int.l0 : Nat → List Int → Int → Int → Int → Bool → Option (List Int)
 | 0,_,_,_,_,_=>none
 | k + 1,x0,x1,x2,x3,x8=>if (wrap64 (x2 - x1)) ≤ 12 then ((slices_insertionSortOrdered_int.f k x0 x1 x2).bind fun t251=>(some t251)) else (if x3 = 0 then (none) else (if x8 = true then (none) else (none)))
def slices_pdqsortOrdered_int.f : Nat → List Int → Int → Int → Int → Option (List Int)
 | 0,_,_,_,_=>none
 | k + 1,l0,a1,a2,a3=>slices_pdqsortOrdered_int.l0 k l0 a1 a2 a3 true
end
theorem slices_pdqsortOrdered_int.mono_l : ∀ k,(∀ y0 y1 y2 y3,LeO (slices_pdqsortOrdered_int.f k y0 y1 y2 y3) (slices_pdqsortOrdered_int.f (k + 1) y0 y1 y2 y3)) ∧ (∀ y0 y1 y2 y3 y4,LeO (slices_pdqsortOrdered_int.l0 k y0 y1 y2 y3 y4) (slices_pdqsortOrdered_int.l0 (k + 1) y0 y1 y2 y3 y4))
 | 0=>by
  refine ⟨?_,?_⟩<;>(intros;intro r h;simp [slices_pdqsortOrdered_int.f,slices_pdqsortOrdered_int.l0] at h)
 | k + 1=>by
  obtain ⟨ih0,ih1⟩:=slices_pdqsortOrdered_int.mono_l k
  refine ⟨?_,?_⟩<;>intros<;>(first|unfold slices_pdqsortOrdered_int.f | unfold slices_pdqsortOrdered_int.l0)<;>(repeat' first|(with_reducible exact ih0 ..)|(with_reducible exact ih1 ..)|(with_reducible exact slices_insertionSortOrdered_int.mono _ _ _ _)|(with_reducible exact LeO.refl _)|(with_reducible exact LeO.none _)|(with_reducible refine LeO.ite ?_ ?_)|(with_reducible refine LeO.bind ?_ (fun _=>?_))|exact ih0 ..|exact ih1 ..|exact slices_insertionSortOrdered_int.mono _ _ _ _|exact LeO.none _|refine LeO.ite ?_ ?_|refine LeO.bind ?_ (fun _=>?_))
theorem slices_pdqsortOrdered_int.mono : ∀ a0 a1 a2 a3 k,LeO (slices_pdqsortOrdered_int.f k a0 a1 a2 a3) (slices_pdqsortOrdered_int.f (k + 1) a0 a1 a2 a3):=by
 intro a0 a1 a2 a3 k
 obtain ⟨ih0,ih1⟩:=slices_pdqsortOrdered_int.mono_l k
 exact ih0 a0 a1 a2 a3
set_option maxHeartbeats 8000000 in
set_option maxRecDepth 100000 in
theorem slices_pdqsortOrdered_int.calls (k : Nat) : ∀ (P0_ : Nat → Prop) (u9000_ : Value) (l0 : List Int) (a1 : Int) (a2 : Int) (a3 : Int) (r : List Int) (w0 w : World) (hB : Below w0.heap.size w0 w) (ho0 : Kd.R (Kd.int .i64) 3 w w0.heap.size P0_ u9000_ l0) (h : slices_pdqsortOrdered_int.f k l0 a1 a2 a3 = some r),
  Calls Try.prog 60 #[u9000_,.int .i64 a1,.int .i64 a2,.int .i64 a3] w fun e w'=>e = .returned (.tuple #[]) ∧ Kd.R (Kd.int .i64) 3 w' w0.heap.size (fun k_=>(P0_ k_ ∨ w.heap.size ≤ k_)) u9000_ r ∧ Below w0.heap.size w0 w' ∧ Kept w w' (fun k_=>P0_ k_):=by
 induction k using Nat.strongRecOn with
 | _ k ih =>
 intro P0_ u9000_ l0 a1 a2 a3 r w0 w hB ho0 h
 cases k with
 | zero=>exact absurd h (by simp [slices_pdqsortOrdered_int.f])
 | succ k =>
 simp only [slices_pdqsortOrdered_int.f] at h
 have HO0:=Aside0.mk (show Kd.R (Kd.int .i64) 3 w w0.heap.size (fun k_=>(P0_ k_ ∨ w.heap.size ≤ k_)) u9000_ l0 from R_mono ho0 (fun k_ hk=>(.inl hk)))
 have HK:=Aside0.mk (Kept.refl w (fun k_=>P0_ k_))
 have HW0:=Aside0.mk hB.size
 have HB:=Aside0.mk hB
 clear hB
 have H : (slices_pdqsortOrdered_int.l0 k l0 a1 a2 a3 true) = some r:=h
 clear h
 have H':=Aside0.mk H
 clear H
 go_enter Try.func60,Try.ntmps60
 go_wp2
 go_loopg [1,2,3,8] k (fun kq v1 v2 v3 v8 w'=>∃ (x0_1 : List Int) (x1_1 : Int) (x2_1 : Int) (x3_1 : Int) (x8_1 : Bool),v1 = .int .i64 x1_1 ∧ v2 = .int .i64 x2_1 ∧ v3 = .int .i64 x3_1 ∧ v8 = .bool x8_1 ∧ Aside0 (slices_pdqsortOrdered_int.l0 kq x0_1 x1_1 x2_1 x3_1 x8_1 = some r) ∧ Aside0 (kq ≤ k) ∧ Aside0 (Kd.R (Kd.int .i64) 3 w' w0.heap.size (fun k_=>(P0_ k_ ∨ w.heap.size ≤ k_)) u9000_ x0_1) ∧ Aside0 (Kept w w' (fun k_=>P0_ k_)) ∧ Aside0 (Below w0.heap.size w0 w'))
 case atStart=>exact ⟨(l0),(a1),(a2),(a3),(true),fd,fd,fd,fd,H',⟨Nat.le_refl _⟩,⟨rm HO0.out⟩,⟨by repeat ((with_reducible first|exact HK.out|apply Kept.alloc|apply Kept.drewN|apply Kept.drew))⟩,⟨hm HB.out⟩⟩
 clear H'
 obtain ⟨x0_1,x1_1,x2_1,x3_1,x8_1,rfl,rfl,rfl,rfl,HA,HK1,HO_0,HK,HB⟩:=hrel
 cases gk with
 | zero=>exact absurd HA.out (by simp [slices_pdqsortOrdered_int.l0])
 | succ k1 =>
  have H:=HA.out
  clear HA
  simp only [slices_pdqsortOrdered_int.l0] at H
  by_cases c5 : (wrap64 (x2_1 - x1_1)) ≤ 12
  rotate_left
  ·rw [if_neg c5] at H
   have c5b0 : decide ((wrap64 (x2_1 - x1_1)) ≤ 12) = false:=decide_eq_false c5
   clear c5
   by_cases c9 : x3_1 = 0
   ·rw [if_pos c9] at H
    exact absurd H (by simp)
   rw [if_neg c9] at H
   have c9b0 : (x3_1 == 0) = false:=beq_eq_false_iff_ne.mpr c9
   have c9b1 : (x3_1 != 0) = true:=bne_iff_ne.mpr c9
   by_cases c10 : x8_1 = true
   ·subst c10
    rw [if_pos rfl] at H
    exact absurd H (by simp)
   replace c10:=Bool.eq_false_iff.mpr c10
   subst c10
   rw [if_neg (show ¬ (false = true) by decide)] at H
   exact absurd H (by simp)
  rw [if_pos c5] at H
  have c5b0 : decide ((wrap64 (x2_1 - x1_1)) ≤ 12) = true:=decide_eq_true c5
  clear c5
  replace H:=Option.bind_eq_some_iff.mp H
  obtain ⟨t251,A60,H⟩:=H
  have A6:=Aside0.mk A60
  clear A60
  obtain rfl:=Option.some.inj H
  obtain ⟨Ao7,co7,eo7⟩:=R_slice HO_0.out
  subst eo7
  have go_:=trivial;repeat ((clear go_);try go_wp2_with ((go_at_call 65;(with_reducible refine (slices_insertionSortOrdered_int.calls k1 (fun k_=>some k_ = (.slice Ao7 x0_1.length co7 : Value).ownBlock) (.slice Ao7 x0_1.length co7) x0_1 x1_1 x2_1 t251 w0 _ ?side1 ?side2 A6.out).mono ?_);(case side1=>exact hm HB.out);(case side2=>exact R_tight rfl HO_0.out);rintro e w8 ⟨rfl,hy0,hb,hkp⟩;replace HK:=ak (Kept.then_ (S:=(fun k_=>P0_ k_)) (by repeat ((with_reducible first|exact HK.out|apply Kept.alloc|apply Kept.drewN|apply Kept.drew))) hkp (fun k_ hs_=>(fun e_=>(HO_0.out.1 k_ e_.symm)) hs_));replace HO_0:=ak (R_reok rfl hy0 (fun k_ e_=>HO_0.out.1 k_ e_));replace HB:=ak hb;(try clear hb);(try clear hkp);(try clear hy0))))
  first|go_end0|(refine bodyPost_ret (results_none rfl _ _ _) rfl ?_)
  exact ⟨fe,rm HO_0.out,hm HB.out,by repeat ((with_reducible first|exact HK.out|apply Kept.alloc|apply Kept.drewN|apply Kept.drew))⟩

/-! ### slices_Sort_int_int: function 54 -/
def slices_Sort_int_int.f (k : Nat) (l0 : List Int) : Option (List Int):=(bits_Len.f k (IntKind.u64.wrap ((l0.length : Int)))).bind fun t252=>((slices_pdqsortOrdered_int.f k l0 0 (l0.length : Int) t252).bind fun t253=>(some t253))
theorem slices_Sort_int_int.mono : ∀ a0 k,LeO (slices_Sort_int_int.f k a0) (slices_Sort_int_int.f (k + 1) a0):=by
 intro a0 k
 unfold slices_Sort_int_int.f
 repeat' first
   | (with_reducible exact bits_Len.mono _ _)
   | (with_reducible exact slices_pdqsortOrdered_int.mono _ _ _ _ _)
   | (with_reducible exact LeO.refl _)
   | (with_reducible exact LeO.none _)
   | (with_reducible refine LeO.ite ?_ ?_)
   | (with_reducible refine LeO.bind ?_ (fun _=>?_))
   | exact bits_Len.mono _ _
   | exact slices_pdqsortOrdered_int.mono _ _ _ _ _
   | exact LeO.none _
   | refine LeO.ite ?_ ?_
   | refine LeO.bind ?_ (fun _=>?_)
set_option maxHeartbeats 8000000 in
set_option maxRecDepth 100000 in
theorem slices_Sort_int_int.calls (k : Nat) (P0_ : Nat → Prop) (u9000_ : Value) (l0 : List Int) (r : List Int) (w0 w : World) (hB : Below w0.heap.size w0 w) (ho0 : Kd.R (Kd.int .i64) 3 w w0.heap.size P0_ u9000_ l0) (h : slices_Sort_int_int.f k l0 = some r) :
  Calls Try.prog 54 #[u9000_] w fun e w'=>e = .returned (.tuple #[]) ∧ Kd.R (Kd.int .i64) 3 w' w0.heap.size (fun k_=>(P0_ k_ ∨ w.heap.size ≤ k_)) u9000_ r ∧ Below w0.heap.size w0 w' ∧ Kept w w' (fun k_=>P0_ k_):=by
 have HO0:=Aside0.mk (show Kd.R (Kd.int .i64) 3 w w0.heap.size (fun k_=>(P0_ k_ ∨ w.heap.size ≤ k_)) u9000_ l0 from R_mono ho0 (fun k_ hk=>(.inl hk)))
 have HK:=Aside0.mk (Kept.refl w (fun k_=>P0_ k_))
 have HW0:=Aside0.mk hB.size
 have HB:=Aside0.mk hB
 clear hB
 have H : ((bits_Len.f k (IntKind.u64.wrap ((l0.length : Int)))).bind fun t252=>((slices_pdqsortOrdered_int.f k l0 0 (l0.length : Int) t252).bind fun t253=>(some t253))) = some r:=h
 clear h
 replace H:=Option.bind_eq_some_iff.mp H
 obtain ⟨t252,A20,H⟩:=H
 have A2:=Aside0.mk A20
 clear A20
 replace H:=Option.bind_eq_some_iff.mp H
 obtain ⟨t253,A30,H⟩:=H
 have A3:=Aside0.mk A30
 clear A30
 obtain rfl:=Option.some.inj H
 obtain ⟨Ao4,co4,eo4⟩:=R_slice HO0.out
 subst eo4
 go_enter Try.func54,Try.ntmps54
 go_wp2_with (first|((with_reducible refine gate_callee (f:=61) rfl ?_);refine goesL_ (some 9) rfl rfl Try.func61 (by kernel_rfl) rfl #[.int .u64 (IntKind.u64.wrap ((l0.length : Int)))] rfl gl ?_;(with_reducible refine (bits_Len.calls k (IntKind.u64.wrap ((l0.length : Int))) t252 _ A2.out).mono ?_);rintro e w' ⟨rfl,⟨nd,rfl⟩⟩;refine ⟨_,rfl,?_⟩)|((with_reducible refine gate_callee (f:=60) rfl ?_);refine goesL_ (some 10) rfl rfl Try.func60 (by kernel_rfl) rfl #[.slice Ao4 l0.length co4,.int .i64 0,.int .i64 (l0.length : Int),.int .i64 t252] rfl gl ?_;(with_reducible refine (slices_pdqsortOrdered_int.calls k (fun k_=>some k_ = (.slice Ao4 l0.length co4 : Value).ownBlock) (.slice Ao4 l0.length co4) l0 0 (l0.length : Int) t252 t253 w0 _ ?side1 ?side2 A3.out).mono ?_);(case side1=>exact hm HB.out);(case side2=>exact R_tight rfl HO0.out);rintro e w5 ⟨rfl,hy0,hb,hkp⟩;refine ⟨_,rfl,?_⟩;replace HK:=ak (Kept.then_ (S:=(fun k_=>P0_ k_)) (by repeat ((with_reducible first|exact HK.out|apply Kept.alloc|apply Kept.drewN|apply Kept.drew))) hkp (fun k_ hs_=>(fun e_=>(HO0.out.1 k_ e_.symm)) hs_));replace HO0:=ak (R_reok rfl hy0 (fun k_ e_=>HO0.out.1 k_ e_));replace HB:=ak hb;(try clear hb);(try clear hkp);(try clear hy0)))
 first|go_end0|(refine bodyPost_ret (results_none rfl _ _ _) rfl ?_)
 exact ⟨fe,rm HO0.out,hm HB.out,by repeat ((with_reducible first|exact HK.out|apply Kept.alloc|apply Kept.drewN|apply Kept.drew))⟩

-- NOT PRINTED: function 77 (bits_Mul32)

-- NOT PRINTED: function 78 (bits_Mul64)

-- NOT PRINTED: function 64 (bits_Mul)


/-! ### slices_Repeat_int_int: slices.Repeat at a list of one number -/
def slices_Repeat_int_int.f (k : Nat) (l : List Int) (n : Int) : Option (List Int):=Repeat.f k l n
theorem slices_Repeat_int_int.mono : ∀ l n k,LeO (slices_Repeat_int_int.f k l n) (slices_Repeat_int_int.f (k + 1) l n):=fun l n k=>Repeat.mono l n k
theorem slices_Repeat_int_int.calls (k : Nat) (A0 : Option Addr) (c0 : Nat) (l0 : List Int) (a1 : Int) (r : List Int) (w : World) (hr0 : Kd.C (Kd.int .i64) w A0 l0.length l0) (hc0 : l0.length ≤ c0) (h : slices_Repeat_int_int.f k l0 a1 = some r) :
    Calls Try.prog 59 #[.slice A0 l0.length c0,.int .i64 a1] w fun e w'=>∃ v0_ : Value,e = .returned (v0_) ∧ Kd.R (Kd.int .i64) 3 w' w.heap.size (fun _=>True) v0_ r ∧ Below w.heap.size w w':=Repeat.calls k A0 c0 l0 a1 r w hr0 hc0 h

/-! ### impl_Wire_falls: function 52 -/
def impl_Wire_falls.l0 : Nat → List Int → List Int → List Int → Int → Int → Int → List Int → List Int → Option (List Int × List Int)
 | 0,_,_,_,_,_,_,_,_=>none
 | k + 1,x4,x5,x12,x13,x14,x255000,x255001,x255002=>if x14 < x13 then (if 0 ≤ x14 then (if x14 < (x12.length : Int) then (if x14 < (x255002.length : Int) then (if (rd x255002 x14) < 0 then (if x4.length < 17592186044416 then (impl_Wire_falls.l0 k (x4 ++ [rd x12 x14]) x5 x12 x13 (wrap64 (x14 + 1)) x255000 x255001 x255002) else (none)) else (if x5.length < 17592186044416 then (impl_Wire_falls.l0 k x4 (x5 ++ [rd x12 x14]) x12 x13 (wrap64 (x14 + 1)) x255000 x255001 x255002) else (none))) else (none)) else (none)) else (none)) else ((slices_Sort_int_int.f k x4).bind fun t272=>((slices_Sort_int_int.f k x5).bind fun t273=>((slices_Reverse_int_int.f k t273).bind fun t274=>((slices_Repeat_int_int.f k (([(-1)] : List Int)) (x4.length : Int)).bind fun t278=>((slices_Repeat_int_int.f k (([1] : List Int)) (x5.length : Int)).bind fun t284=>(if t278.length + t284.length < 17592186044416 then (if t272.length + t274.length < 17592186044416 then (some ((t272 ++ t274),(t278 ++ t284))) else (none)) else (none)))))))
def impl_Wire_falls.f (k : Nat) (a0_0 : Int) (l0_1 : List Int) (l0_2 : List Int) : Option (List Int × List Int):=(impl_Wire_shades.f k a0_0 l0_1 l0_2).bind fun t261=>(impl_Wire_falls.l0 k (([] : List Int)) (([] : List Int)) t261 (t261.length : Int) 0 a0_0 l0_1 l0_2)
theorem impl_Wire_falls.mono_l : ∀ k,(∀ y0 y1 y2 y3 y4 y5 y6 y7,LeO (impl_Wire_falls.l0 k y0 y1 y2 y3 y4 y5 y6 y7) (impl_Wire_falls.l0 (k + 1) y0 y1 y2 y3 y4 y5 y6 y7))
 | 0=>by
  refine ?_<;>(intros;intro r h;simp [impl_Wire_falls.l0] at h)
 | k + 1=>by
  have ih0:=impl_Wire_falls.mono_l k
  refine ?_<;>intros<;>(first|unfold impl_Wire_falls.l0)<;>(repeat' first|(with_reducible exact ih0 ..)|(with_reducible exact impl_Wire_shades.mono _ _ _ _)|(with_reducible exact slices_Repeat_int_int.mono _ _ _)|(with_reducible exact slices_Reverse_int_int.mono _ _)|(with_reducible exact slices_Sort_int_int.mono _ _)|(with_reducible exact LeO.refl _)|(with_reducible exact LeO.none _)|(with_reducible refine LeO.ite ?_ ?_)|(with_reducible refine LeO.bind ?_ (fun _=>?_))|exact ih0 ..|exact impl_Wire_shades.mono _ _ _ _|exact slices_Repeat_int_int.mono _ _ _|exact slices_Reverse_int_int.mono _ _|exact slices_Sort_int_int.mono _ _|exact LeO.none _|refine LeO.ite ?_ ?_|refine LeO.bind ?_ (fun _=>?_))
theorem impl_Wire_falls.mono : ∀ a0 a1 a2 k,LeO (impl_Wire_falls.f k a0 a1 a2) (impl_Wire_falls.f (k + 1) a0 a1 a2):=by
 intro a0 a1 a2 k
 have ih0:=impl_Wire_falls.mono_l k
 unfold impl_Wire_falls.f
 repeat' first
   | (with_reducible exact ih0 _ _ _ _ _ _ _ _)
   | (with_reducible exact impl_Wire_shades.mono _ _ _ _)
   | (with_reducible exact slices_Repeat_int_int.mono _ _ _)
   | (with_reducible exact slices_Reverse_int_int.mono _ _)
   | (with_reducible exact slices_Sort_int_int.mono _ _)
   | (with_reducible exact LeO.refl _)
   | (with_reducible exact LeO.none _)
   | (with_reducible refine LeO.ite ?_ ?_)
   | (with_reducible refine LeO.bind ?_ (fun _=>?_))
   | exact ih0 _ _ _ _ _ _ _ _
   | exact impl_Wire_shades.mono _ _ _ _
   | exact slices_Repeat_int_int.mono _ _ _
   | exact slices_Reverse_int_int.mono _ _
   | exact slices_Sort_int_int.mono _ _
   | exact LeO.none _
   | refine LeO.ite ?_ ?_
   | refine LeO.bind ?_ (fun _=>?_)
set_option maxHeartbeats 8000000 in
set_option maxRecDepth 100000 in
theorem impl_Wire_falls.calls (k : Nat) (a0_0 : Int) (A0_1 : Option Addr) (c0_1 : Nat) (l0_1 : List Int) (A0_2 : Option Addr) (c0_2 : Nat) (l0_2 : List Int) (r1 : List Int) (r2 : List Int) (w : World) (hr0_1 : Kd.C (Kd.int .i64) w A0_1 l0_1.length l0_1) (hc0_1 : l0_1.length ≤ c0_1) (hr0_2 : Kd.C (Kd.int .i64) w A0_2 l0_2.length l0_2) (hc0_2 : l0_2.length ≤ c0_2) (h : impl_Wire_falls.f k a0_0 l0_1 l0_2 = some (r1,r2)) :
  Calls Try.prog 52 #[.agg #[.int .i64 a0_0,.slice A0_1 l0_1.length c0_1,.slice A0_2 l0_2.length c0_2]] w fun e w'=>∃ v0_ v1_ : Value,e = .returned (.tuple #[v0_,v1_]) ∧ Kd.R (Kd.int .i64) 3 w' w.heap.size (fun k_=>ob k_ v1_) v0_ r1 ∧ Kd.R (Kd.int .i64) 3 w' w.heap.size (fun k_=>ob k_ v0_) v1_ r2 ∧ Below w.heap.size w w':=by
 have hu27:=Try.underlying27
 have HR0_1:=Aside0.mk hr0_1
 have HC0_1:=Aside0.mk hc0_1
 clear hr0_1 hc0_1
 have HR0_2:=Aside0.mk hr0_2
 have HC0_2:=Aside0.mk hc0_2
 clear hr0_2 hc0_2
 have HB:=Aside0.mk (Below.refl w.heap.size w)
 have H : ((impl_Wire_shades.f k a0_0 l0_1 l0_2).bind fun t261=>(impl_Wire_falls.l0 k (([] : List Int)) (([] : List Int)) t261 (t261.length : Int) 0 a0_0 l0_1 l0_2)) = some (r1,r2):=h
 clear h
 obtain ⟨y255,hy255⟩ : ∃ y_ : List Int,y_ = (([] : List Int)):=⟨_,rfl⟩
 replace H : ((impl_Wire_shades.f k a0_0 l0_1 l0_2).bind fun t261=>(impl_Wire_falls.l0 k y255 (([] : List Int)) t261 (t261.length : Int) 0 a0_0 l0_1 l0_2)) = some (r1,r2):=by first|(rw [hy255];with_reducible exact H)|(have H2_:=(Option.bind_some _ _).symm.trans H;rw [hy255];with_reducible exact H2_)|(have H2_:=(Option.bind_some _ _).symm.trans H;with_reducible exact H2_)|with_reducible exact H|(rw [hy255];exact H)|exact H
 have Ny255:=Aside0.mk hy255
 clear hy255
 obtain ⟨y258,hy258⟩ : ∃ y_ : List Int,y_ = (([] : List Int)):=⟨_,rfl⟩
 replace H : ((impl_Wire_shades.f k a0_0 l0_1 l0_2).bind fun t261=>(impl_Wire_falls.l0 k y255 y258 t261 (t261.length : Int) 0 a0_0 l0_1 l0_2)) = some (r1,r2):=by first|(rw [hy258];with_reducible exact H)|(have H2_:=(Option.bind_some _ _).symm.trans H;rw [hy258];with_reducible exact H2_)|(have H2_:=(Option.bind_some _ _).symm.trans H;with_reducible exact H2_)|with_reducible exact H|(rw [hy258];exact H)|exact H
 have Ny258:=Aside0.mk hy258
 clear hy258
 replace H:=Option.bind_eq_some_iff.mp H
 obtain ⟨t261,A20,H⟩:=H
 have A2:=Aside0.mk A20
 clear A20
 have H':=Aside0.mk H
 clear H
 go_enter Try.func52,Try.ntmps52
 go_wp2_with (first|((with_reducible refine gate_dst (N:=1) rfl ?_);refine box_event ?hg (N:=1) ?hd (cs:=#[.int .i64 a0_0,.slice A0_1 l0_1.length c0_1,.slice A0_2 l0_2.length c0_2]) (t:=27) ?hr ?_;(case hd=>rfl);(case hg=>rfl);(case hr=>first|(go_simp;done)|(go_simp;rfl));intro gb254 hg w3 hbox hb;have BK254:=ak hbox;have GW254:=ak ((by rw [hg];exact (below_size (hm HB.out)) : w.heap.size ≤ gb254));have GE254:=ak ((by rw [hg];exact (below_size (hm HB.out)) : w.heap.size ≤ gb254));replace HB:=bs HB hb;clear hb hbox hg)|((with_reducible refine gate_dst (N:=9) rfl ?_);refine R_lit (Kd.int .i64) _ 3 ?hg (N:=9) ?hd (xs:=([] : List Int)) (inner:=[]) (ok:=fun _=>True) (okp:=fun _=>True) ?hr ?hp (fun _ hk=>hk) trivial (Below.refl _ _) (Nat.le_refl _) (by simp) ?_;(case hd=>rfl);(case hg=>rfl);(case hr=>first|(go_simp;done)|(go_simp;rfl));(case hp=>exact (Reps.none _ _));intro v256 w4 ho5 hb hg_ hnew_;clear hg_ hnew_;(rw [← Ny255.out] at ho5);have HO257:=ak (R_lower ho5 (below_size (h1 HB.out GE254.out)));replace BK254:=kb BK254 hb;replace HB:=ak (below_step (h1 HB.out GE254.out) hb);clear hb ho5)|((with_reducible refine gate_dst (N:=10) rfl ?_);refine R_lit (Kd.int .i64) _ 3 ?hg (N:=10) ?hd (xs:=([] : List Int)) (inner:=[]) (ok:=fun _=>True) (okp:=fun _=>True) ?hr ?hp (fun _ hk=>hk) trivial (Below.refl _ _) (Nat.le_refl _) (by simp) ?_;(case hd=>rfl);(case hg=>rfl);(case hr=>first|(go_simp;done)|(go_simp;rfl));(case hp=>exact (Reps.none _ _));intro v259 w6 ho7 hb hg_ hnew_;clear hg_ hnew_;(rw [← Ny258.out] at ho7);have HO260:=ak (R_lower (R_new' ho7 (R_lt (rm HO257.out))) (below_size (h1 HB.out GE254.out)));replace HO257:=ak (R_elder' (rm HO257.out) (R_base ho7) hb);replace BK254:=kb BK254 hb;replace HB:=ak (below_step (h1 HB.out GE254.out) hb);clear hb ho7;have hcz8_0 : w6.cell? ⟨gb254,0,none⟩ = some (.int .i64 a0_0):=(blk_cell BK254.out 0).trans rfl;have hcz8_1 : w6.cell? ⟨gb254,1,none⟩ = some (.slice A0_1 l0_1.length c0_1):=(blk_cell BK254.out 1).trans rfl;have hcz8_2 : w6.cell? ⟨gb254,2,none⟩ = some (.slice A0_2 l0_2.length c0_2):=(blk_cell BK254.out 2).trans rfl;have hfz8_0:=blk_frozen BK254.out 0;have hfz8_1:=blk_frozen BK254.out 1;have hfz8_2:=blk_frozen BK254.out 2)|((with_reducible refine gate_callee (f:=47) rfl ?_);refine goesL_ (some 12) rfl rfl Try.func47 (by kernel_rfl) rfl #[.agg #[.int .i64 a0_0,.slice A0_1 l0_1.length c0_1,.slice A0_2 l0_2.length c0_2]] rfl gl ?_;(with_reducible refine (impl_Wire_shades.calls k a0_0 _ _ l0_1 _ _ l0_2 t261 _ ?side1 ?side2 ?side3 ?side4 A2.out).mono ?_);(case side1=>exact cm (C_below HR0_1.out HB.out));(case side2=>exact HC0_1.out);(case side3=>exact cm (C_below HR0_2.out HB.out));(case side4=>exact HC0_2.out);rintro e w9 ⟨v262,rfl,ho0,hb⟩;refine ⟨_,rfl,?_⟩;have HO263:=ak (R_lower (R_new' (R_new' ho0 (R_lt (rm HO257.out))) (R_lt (rm HO260.out))) (below_size (h1 HB.out GE254.out)));replace HO257:=ak (R_elder' (rm HO257.out) (R_base ho0) hb);replace HO260:=ak (R_elder' (rm HO260.out) (R_base ho0) hb);replace BK254:=kb BK254 hb;replace HB:=ak (below_step (h1 HB.out GE254.out) hb);(try clear hb);(try clear ho0);obtain ⟨Ao10,co10,eo10⟩:=R_slice HO263.out;subst eo10))
 go_loopg [4,5,14] k (fun kq v4 v5 v14 w'=>∃ (x4_1 : List Int) (x5_1 : List Int) (x14_1 : Int),v14 = .int .i64 x14_1 ∧ Aside0 (impl_Wire_falls.l0 kq x4_1 x5_1 t261 (t261.length : Int) x14_1 a0_0 l0_1 l0_2 = some (r1,r2)) ∧ Aside0 (kq ≤ k) ∧ Aside0 (Kd.R (Kd.int .i64) 3 w' w.heap.size (fun k_=>ob k_ v5 ∧ ob k_ (.slice Ao10 t261.length co10)) v4 x4_1) ∧ Aside0 (Kd.R (Kd.int .i64) 3 w' w.heap.size (fun k_=>ob k_ v4 ∧ ob k_ (.slice Ao10 t261.length co10)) v5 x5_1) ∧ Aside0 (Kd.R (Kd.int .i64) 3 w' w.heap.size (fun k_=>ob k_ v4 ∧ ob k_ v5) (.slice Ao10 t261.length co10) t261) ∧ Aside0 (w'.heap[gb254]? = some (.cells #[.int .i64 a0_0,(.slice A0_1 l0_1.length c0_1),(.slice A0_2 l0_2.length c0_2)] 27 (0,0))) ∧ Aside0 (Below w.heap.size w w'))
 case atStart=>exact ⟨(y255),(y258),(0),fd,H',⟨Nat.le_refl _⟩,⟨rm (R_mono HO257.out (fun _ hk=>⟨hk.1.2,hk.2⟩))⟩,⟨rm (R_mono HO260.out (fun _ hk=>⟨hk.1.2,hk.2⟩))⟩,⟨rm (R_mono HO263.out (fun _ hk=>⟨hk.1.2,hk.2⟩))⟩,⟨bm BK254.out⟩,⟨h1 HB.out GE254.out⟩⟩
 clear H'
 clear hcz8_0 hcz8_1 hcz8_2 hfz8_0 hfz8_1 hfz8_2
 obtain ⟨x4_1,x5_1,x14_1,rfl,HA,HK1,HO_4,HO_5,HO_12,BK254,HB⟩:=hrel
 cases gk with
 | zero=>exact absurd HA.out (by simp [impl_Wire_falls.l0])
 | succ k1 =>
  have H:=HA.out
  clear HA
  simp only [impl_Wire_falls.l0] at H
  by_cases c11 : x14_1 < (t261.length : Int)
  ·rw [if_pos c11] at H
   have c11b0 : decide (x14_1 < (t261.length : Int)) = true:=decide_eq_true c11
   clear c11
   by_cases c12 : 0 ≤ x14_1
   rotate_left
   ·rw [if_neg c12] at H
    exact absurd H (by simp)
   rw [if_pos c12] at H
   have c12b0 : decide (0 ≤ x14_1) = true:=decide_eq_true c12
   clear c12
   by_cases c13 : x14_1 < (t261.length : Int)
   rotate_left
   ·rw [if_neg c13] at H
    exact absurd H (by simp)
   rw [if_pos c13] at H
   have c13b0 : decide (x14_1 < (t261.length : Int)) = true:=decide_eq_true c13
   clear c13
   by_cases c14 : x14_1 < (l0_2.length : Int)
   rotate_left
   ·rw [if_neg c14] at H
    exact absurd H (by simp)
   rw [if_pos c14] at H
   have c14b0 : decide (x14_1 < (l0_2.length : Int)) = true:=decide_eq_true c14
   clear c14
   by_cases c15 : (rd l0_2 x14_1) < 0
   rotate_left
   ·rw [if_neg c15] at H
    have c15b0 : decide ((rd l0_2 x14_1) < 0) = false:=decide_eq_false c15
    clear c15
    by_cases c19 : x5_1.length < 17592186044416
    rotate_left
    ·rw [if_neg c19] at H
     exact absurd H (by simp)
    rw [if_pos c19] at H
    have LMc19:=Aside0.mk c19
    clear c19
    obtain ⟨y269,hy269⟩ : ∃ y_ : List Int,y_ = (x5_1 ++ [rd t261 x14_1]):=⟨_,rfl⟩
    replace H : (impl_Wire_falls.l0 k1 x4_1 y269 t261 (t261.length : Int) (wrap64 (x14_1 + 1)) a0_0 l0_1 l0_2) = some (r1,r2):=by first|(rw [hy269];with_reducible exact H)|(have H2_:=(Option.bind_some _ _).symm.trans H;rw [hy269];with_reducible exact H2_)|(have H2_:=(Option.bind_some _ _).symm.trans H;with_reducible exact H2_)|with_reducible exact H|(rw [hy269];exact H)|exact H
    have Ny269:=Aside0.mk hy269
    clear hy269
    have H':=Aside0.mk H
    clear H
    have p264 : 0 ≤ (x14_1 : Int):=od
    have q264 : x14_1 < (t261.length : Int):=od
    obtain ⟨ad264,e264,hx264_0⟩:=Kd.at_int (R_reads' HO_12.out).2.2 x14_1 p264 q264
    cases e264
    replace p264:=eq_true p264
    replace q264:=eq_true q264
    have hcz20_0 : wr.cell? ⟨gb254,0,none⟩ = some (.int .i64 a0_0):=(blk_cell BK254.out 0).trans rfl
    have hcz20_1 : wr.cell? ⟨gb254,1,none⟩ = some (.slice A0_1 l0_1.length c0_1):=(blk_cell BK254.out 1).trans rfl
    have hcz20_2 : wr.cell? ⟨gb254,2,none⟩ = some (.slice A0_2 l0_2.length c0_2):=(blk_cell BK254.out 2).trans rfl
    have hfz20_0:=blk_frozen BK254.out 0
    have hfz20_1:=blk_frozen BK254.out 1
    have hfz20_2:=blk_frozen BK254.out 2
    have p265 : 0 ≤ (x14_1 : Int):=od
    have q265 : x14_1 < (l0_2.length : Int):=od
    obtain ⟨ad265,e265,hx265_0⟩:=Kd.at_int HR0_2.out x14_1 p265 q265
    cases e265
    replace hx265_0:=(HB.out.cell (World.block_lt_of_cell? w _ hx265_0)).trans hx265_0
    replace p265:=eq_true p265
    replace q265:=eq_true q265
    go_wp2_with (((with_reducible refine gate_builtin (b:=.append) (xs:=#[.tmp 29,.tmp 31]) rfl ?_);at_builtin;refine R_append (Kd.int .i64) (w0:=w) w.heap.size rfl (.tmp 29) (.tmp 31) 22 3 (.int .i64 0) 8 rfl Try.underlying22 info3 rfl (by decide) (by omega) u5 x5_1 (rd t261 x14_1) [.int .i64 (rd t261 x14_1)] (fun k_=>ob k_ u4 ∧ some k_ ≠ (.slice (some ad264) t261.length co10 : Value).ownBlock) (fun _=>False) rfl rfl ?aP (fun _ hk=>hk.elim) ?aF ?aO ?aB ?aS ?aL ?_;(case aP=>exact rfl);(case aB=>exact (h1 HB.out GE254.out));(case aF=>exact (fun k_ hk=>⟨Kd.fresh' (R_lt (rm HO_4.out)) k_ hk,Kd.fresh' (R_lt (rm HO_12.out)) k_ hk⟩));(case aO=>exact (rm HO_5.out));(case aS=>exact (below_size (h1 HB.out GE254.out)));(case aL=>have:=LMc19.out;omega);intro v270 w21 ho hb hg hat;rw [← Ny269.out] at ho;replace HO_4:=ak (R_after (ok:=(fun k_=>some k_ ≠ (.slice (some ad264) t261.length co10 : Value).ownBlock)) (rm (R_mono HO_4.out (fun _ hk=>⟨hk.2,hk.1⟩))) hg hat);replace HO_12:=ak (R_after (ok:=(fun k_=>ob k_ u4)) (rm HO_12.out) hg hat);replace BK254:=ak (blk_grown (g:=gb254) (o:=.cells #[.int .i64 a0_0,.slice A0_1 l0_1.length c0_1,.slice (some ad265) l0_2.length c0_2] 27 (0,0)) (bm BK254.out) hg (R_ne HO_5.out BK254.out (by decide)));replace HB:=ak hb;have HO271:=ak ho;clear HO_5;clear ho hb hg hat))
    go_roundg k1
    case measure=>have:=HK1.out;omega
    case rel=>exact ⟨(x4_1),(y269),(wrap64 (x14_1 + 1)),fd,H',⟨by have:=HK1.out;omega⟩,⟨rm (R_mono HO_4.out (fun _ hk=>⟨hk.2,hk.1⟩))⟩,⟨rm HO271.out⟩,⟨rm HO_12.out⟩,⟨bm BK254.out⟩,⟨h1 HB.out GE254.out⟩⟩
   rw [if_pos c15] at H
   have c15b0 : decide ((rd l0_2 x14_1) < 0) = true:=decide_eq_true c15
   clear c15
   by_cases c16 : x4_1.length < 17592186044416
   rotate_left
   ·rw [if_neg c16] at H
    exact absurd H (by simp)
   rw [if_pos c16] at H
   have LMc16:=Aside0.mk c16
   clear c16
   obtain ⟨y266,hy266⟩ : ∃ y_ : List Int,y_ = (x4_1 ++ [rd t261 x14_1]):=⟨_,rfl⟩
   replace H : (impl_Wire_falls.l0 k1 y266 x5_1 t261 (t261.length : Int) (wrap64 (x14_1 + 1)) a0_0 l0_1 l0_2) = some (r1,r2):=by first|(rw [hy266];with_reducible exact H)|(have H2_:=(Option.bind_some _ _).symm.trans H;rw [hy266];with_reducible exact H2_)|(have H2_:=(Option.bind_some _ _).symm.trans H;with_reducible exact H2_)|with_reducible exact H|(rw [hy266];exact H)|exact H
   have Ny266:=Aside0.mk hy266
   clear hy266
   have H':=Aside0.mk H
   clear H
   have p264 : 0 ≤ (x14_1 : Int):=od
   have q264 : x14_1 < (t261.length : Int):=od
   obtain ⟨ad264,e264,hx264_0⟩:=Kd.at_int (R_reads' HO_12.out).2.2 x14_1 p264 q264
   cases e264
   replace p264:=eq_true p264
   replace q264:=eq_true q264
   have hcz17_0 : wr.cell? ⟨gb254,0,none⟩ = some (.int .i64 a0_0):=(blk_cell BK254.out 0).trans rfl
   have hcz17_1 : wr.cell? ⟨gb254,1,none⟩ = some (.slice A0_1 l0_1.length c0_1):=(blk_cell BK254.out 1).trans rfl
   have hcz17_2 : wr.cell? ⟨gb254,2,none⟩ = some (.slice A0_2 l0_2.length c0_2):=(blk_cell BK254.out 2).trans rfl
   have hfz17_0:=blk_frozen BK254.out 0
   have hfz17_1:=blk_frozen BK254.out 1
   have hfz17_2:=blk_frozen BK254.out 2
   have p265 : 0 ≤ (x14_1 : Int):=od
   have q265 : x14_1 < (l0_2.length : Int):=od
   obtain ⟨ad265,e265,hx265_0⟩:=Kd.at_int HR0_2.out x14_1 p265 q265
   cases e265
   replace hx265_0:=(HB.out.cell (World.block_lt_of_cell? w _ hx265_0)).trans hx265_0
   replace p265:=eq_true p265
   replace q265:=eq_true q265
   go_wp2_with (((with_reducible refine gate_builtin (b:=.append) (xs:=#[.tmp 25,.tmp 27]) rfl ?_);at_builtin;refine R_append (Kd.int .i64) (w0:=w) w.heap.size rfl (.tmp 25) (.tmp 27) 22 3 (.int .i64 0) 8 rfl Try.underlying22 info3 rfl (by decide) (by omega) u4 x4_1 (rd t261 x14_1) [.int .i64 (rd t261 x14_1)] (fun k_=>ob k_ u5 ∧ some k_ ≠ (.slice (some ad264) t261.length co10 : Value).ownBlock) (fun _=>False) rfl rfl ?aP (fun _ hk=>hk.elim) ?aF ?aO ?aB ?aS ?aL ?_;(case aP=>exact rfl);(case aB=>exact (h1 HB.out GE254.out));(case aF=>exact (fun k_ hk=>⟨Kd.fresh' (R_lt (rm HO_5.out)) k_ hk,Kd.fresh' (R_lt (rm HO_12.out)) k_ hk⟩));(case aO=>exact (rm HO_4.out));(case aS=>exact (below_size (h1 HB.out GE254.out)));(case aL=>have:=LMc16.out;omega);intro v267 w18 ho hb hg hat;rw [← Ny266.out] at ho;replace HO_5:=ak (R_after (ok:=(fun k_=>some k_ ≠ (.slice (some ad264) t261.length co10 : Value).ownBlock)) (rm (R_mono HO_5.out (fun _ hk=>⟨hk.2,hk.1⟩))) hg hat);replace HO_12:=ak (R_after (ok:=(fun k_=>ob k_ u5)) (rm (R_mono HO_12.out (fun _ hk=>⟨hk.2,hk.1⟩))) hg hat);replace BK254:=ak (blk_grown (g:=gb254) (o:=.cells #[.int .i64 a0_0,.slice A0_1 l0_1.length c0_1,.slice (some ad265) l0_2.length c0_2] 27 (0,0)) (bm BK254.out) hg (R_ne HO_4.out BK254.out (by decide)));replace HB:=ak hb;have HO268:=ak ho;clear HO_4;clear ho hb hg hat))
   go_roundg k1
   case measure=>have:=HK1.out;omega
   case rel=>exact ⟨(y266),(x5_1),(wrap64 (x14_1 + 1)),fd,H',⟨by have:=HK1.out;omega⟩,⟨rm HO268.out⟩,⟨rm (R_mono HO_5.out (fun _ hk=>⟨hk.2,hk.1⟩))⟩,⟨rm (R_mono HO_12.out (fun _ hk=>⟨hk.2,hk.1⟩))⟩,⟨bm BK254.out⟩,⟨h1 HB.out GE254.out⟩⟩
  rw [if_neg c11] at H
  have c11b0 : decide (x14_1 < (t261.length : Int)) = false:=decide_eq_false c11
  clear c11
  replace H:=Option.bind_eq_some_iff.mp H
  obtain ⟨t272,A220,H⟩:=H
  have A22:=Aside0.mk A220
  clear A220
  replace H:=Option.bind_eq_some_iff.mp H
  obtain ⟨t273,A230,H⟩:=H
  have A23:=Aside0.mk A230
  clear A230
  replace H:=Option.bind_eq_some_iff.mp H
  obtain ⟨t274,A240,H⟩:=H
  have A24:=Aside0.mk A240
  clear A240
  obtain ⟨y275,hy275⟩ : ∃ y_ : List Int,y_ = (([(-1)] : List Int)):=⟨_,rfl⟩
  replace H : ((slices_Repeat_int_int.f k1 y275 (x4_1.length : Int)).bind fun t278=>((slices_Repeat_int_int.f k1 (([1] : List Int)) (x5_1.length : Int)).bind fun t284=>(if t278.length + t284.length < 17592186044416 then (if t272.length + t274.length < 17592186044416 then (some ((t272 ++ t274),(t278 ++ t284))) else (none)) else (none)))) = some (r1,r2):=by first|(rw [hy275];with_reducible exact H)|(have H2_:=(Option.bind_some _ _).symm.trans H;rw [hy275];with_reducible exact H2_)|(have H2_:=(Option.bind_some _ _).symm.trans H;with_reducible exact H2_)|with_reducible exact H|(rw [hy275];exact H)|exact H
  have Ny275:=Aside0.mk hy275
  clear hy275
  replace H:=Option.bind_eq_some_iff.mp H
  obtain ⟨t278,A250,H⟩:=H
  have A25:=Aside0.mk A250
  clear A250
  obtain ⟨y281,hy281⟩ : ∃ y_ : List Int,y_ = (([1] : List Int)):=⟨_,rfl⟩
  replace H : ((slices_Repeat_int_int.f k1 y281 (x5_1.length : Int)).bind fun t284=>(if t278.length + t284.length < 17592186044416 then (if t272.length + t274.length < 17592186044416 then (some ((t272 ++ t274),(t278 ++ t284))) else (none)) else (none))) = some (r1,r2):=by first|(rw [hy281];with_reducible exact H)|(have H2_:=(Option.bind_some _ _).symm.trans H;rw [hy281];with_reducible exact H2_)|(have H2_:=(Option.bind_some _ _).symm.trans H;with_reducible exact H2_)|with_reducible exact H|(rw [hy281];exact H)|exact H
  have Ny281:=Aside0.mk hy281
  clear hy281
  replace H:=Option.bind_eq_some_iff.mp H
  obtain ⟨t284,A260,H⟩:=H
  have A26:=Aside0.mk A260
  clear A260
  by_cases c27 : t278.length + t284.length < 17592186044416
  rotate_left
  ·rw [if_neg c27] at H
   exact absurd H (by simp)
  rw [if_pos c27] at H
  have LMc27:=Aside0.mk c27
  clear c27
  obtain ⟨y287,hy287⟩ : ∃ y_ : List Int,y_ = (t278 ++ t284):=⟨_,rfl⟩
  replace H : (if t272.length + t274.length < 17592186044416 then (some ((t272 ++ t274),y287)) else (none)) = some (r1,r2):=by first|(rw [hy287];with_reducible exact H)|(have H2_:=(Option.bind_some _ _).symm.trans H;rw [hy287];with_reducible exact H2_)|(have H2_:=(Option.bind_some _ _).symm.trans H;with_reducible exact H2_)|with_reducible exact H|(rw [hy287];exact H)|exact H
  have Ny287:=Aside0.mk hy287
  clear hy287
  by_cases c28 : t272.length + t274.length < 17592186044416
  rotate_left
  ·rw [if_neg c28] at H
   exact absurd H (by simp)
  rw [if_pos c28] at H
  have LMc28:=Aside0.mk c28
  clear c28
  obtain ⟨y290,hy290⟩ : ∃ y_ : List Int,y_ = (t272 ++ t274):=⟨_,rfl⟩
  replace H : (some (y290,y287)) = some (r1,r2):=by first|(rw [hy290];with_reducible exact H)|(have H2_:=(Option.bind_some _ _).symm.trans H;rw [hy290];with_reducible exact H2_)|(have H2_:=(Option.bind_some _ _).symm.trans H;with_reducible exact H2_)|with_reducible exact H|(rw [hy290];exact H)|exact H
  have Ny290:=Aside0.mk hy290
  clear hy290
  simp only [Option.some.injEq,Prod.mk.injEq] at H
  obtain ⟨rfl,rfl⟩:=H
  obtain ⟨Ao29,co29,eo29⟩:=R_slice HO_4.out
  subst eo29
  go_wp2_with (first|((with_reducible refine gate_callee (f:=54) rfl ?_);refine goesL_ (some 35) rfl rfl Try.func54 (by kernel_rfl) rfl #[.slice Ao29 x4_1.length co29] rfl gl ?_;(with_reducible refine (slices_Sort_int_int.calls k1 (fun k_=>some k_ = (.slice Ao29 x4_1.length co29 : Value).ownBlock) (.slice Ao29 x4_1.length co29) x4_1 t272 w _ ?side1 ?side2 A22.out).mono ?_);(case side1=>exact h1 HB.out GE254.out);(case side2=>exact R_tight rfl HO_4.out);rintro e w30 ⟨rfl,hy0,hb,hkp⟩;refine ⟨_,rfl,?_⟩;replace HO_5:=ak (R_mono (ok':=fun k_=>ob k_ (.slice Ao29 x4_1.length co29) ∧ ob k_ (.slice Ao10 t261.length co10)) (R_keptB (HO_5.out) hkp (fun k_ hk_ hs_=>(hk_.1) hs_)) (fun k_ hk_=>⟨hk_.1.1,hk_.1.2⟩));replace HO_12:=ak (R_mono (ok':=fun k_=>ob k_ (.slice Ao29 x4_1.length co29) ∧ ob k_ u5) (R_keptB (HO_12.out) hkp (fun k_ hk_ hs_=>(hk_.1) hs_)) (fun k_ hk_=>⟨hk_.1.1,hk_.1.2⟩));replace BK254:=ak (blk_kept (bm BK254.out) hkp (fun hs_=>(fun e_=>(R_ne HO_4.out BK254.out (by decide)) e_) hs_));replace HO_4:=ak (R_reok rfl hy0 (fun k_ e_=>HO_4.out.1 k_ e_));replace HB:=ak hb;(try clear hb);(try clear hkp);(try clear hy0);obtain ⟨Ao31,co31,eo31⟩:=R_slice HO_5.out;subst eo31)|((with_reducible refine gate_callee (f:=54) rfl ?_);refine goesL_ (some 37) rfl rfl Try.func54 (by kernel_rfl) rfl #[.slice Ao31 x5_1.length co31] rfl gl ?_;(with_reducible refine (slices_Sort_int_int.calls k1 (fun k_=>some k_ = (.slice Ao31 x5_1.length co31 : Value).ownBlock) (.slice Ao31 x5_1.length co31) x5_1 t273 w _ ?side1 ?side2 A23.out).mono ?_);(case side1=>exact h1 HB.out GE254.out);(case side2=>exact R_tight rfl HO_5.out);rintro e w32 ⟨rfl,hy0,hb,hkp⟩;refine ⟨_,rfl,?_⟩;replace HO_4:=ak (R_mono (ok':=fun k_=>ob k_ (.slice Ao31 x5_1.length co31) ∧ ob k_ (.slice Ao10 t261.length co10)) (R_keptB (HO_4.out) hkp (fun k_ hk_ hs_=>(hk_.1) hs_)) (fun k_ hk_=>⟨hk_.1.1,hk_.1.2⟩));replace HO_12:=ak (R_mono (ok':=fun k_=>ob k_ (.slice Ao29 x4_1.length co29) ∧ ob k_ (.slice Ao31 x5_1.length co31)) (R_keptB (HO_12.out) hkp (fun k_ hk_ hs_=>(hk_.2) hs_)) (fun k_ hk_=>⟨hk_.1.1,hk_.1.2⟩));replace BK254:=ak (blk_kept (bm BK254.out) hkp (fun hs_=>(fun e_=>(R_ne HO_5.out BK254.out (by decide)) e_) hs_));replace HO_5:=ak (R_reok rfl hy0 (fun k_ e_=>HO_5.out.1 k_ e_));replace HB:=ak hb;(try clear hb);(try clear hkp);(try clear hy0))|((with_reducible refine gate_callee (f:=51) rfl ?_);refine goesL_ (some 39) rfl rfl Try.func51 (by kernel_rfl) rfl #[.slice Ao31 x5_1.length co31] rfl gl ?_;(with_reducible refine (slices_Reverse_int_int.calls k1 (fun k_=>some k_ = (.slice Ao31 x5_1.length co31 : Value).ownBlock) (.slice Ao31 x5_1.length co31) t273 t274 w _ ?side1 ?side2 A24.out).mono ?_);(case side1=>exact h1 HB.out GE254.out);(case side2=>exact R_tight rfl HO_5.out);rintro e w33 ⟨rfl,hy0,hb,hkp⟩;refine ⟨_,rfl,?_⟩;replace HO_4:=ak (R_mono (ok':=fun k_=>ob k_ (.slice Ao31 x5_1.length co31) ∧ ob k_ (.slice Ao10 t261.length co10)) (R_keptB (HO_4.out) hkp (fun k_ hk_ hs_=>(hk_.1) hs_)) (fun k_ hk_=>⟨hk_.1.1,hk_.1.2⟩));replace HO_12:=ak (R_mono (ok':=fun k_=>ob k_ (.slice Ao29 x4_1.length co29) ∧ ob k_ (.slice Ao31 x5_1.length co31)) (R_keptB (HO_12.out) hkp (fun k_ hk_ hs_=>(hk_.2) hs_)) (fun k_ hk_=>⟨hk_.1.1,hk_.1.2⟩));replace BK254:=ak (blk_kept (bm BK254.out) hkp (fun hs_=>(fun e_=>(R_ne HO_5.out BK254.out (by decide)) e_) hs_));replace HO_5:=ak (R_reok rfl hy0 (fun k_ e_=>HO_5.out.1 k_ e_));replace HB:=ak hb;(try clear hb);(try clear hkp);(try clear hy0))|((with_reducible refine gate_dst (N:=40) rfl ?_);refine R_lit (Kd.int .i64) _ 3 ?hg (N:=40) ?hd (xs:=([(-1)] : List Int)) (inner:=[.int .i64 (-1)]) (ok:=fun _=>True) (okp:=fun _=>True) ?hr ?hp (fun _ hk=>hk) trivial (Below.refl _ _) (Nat.le_refl _) (by simp) ?_;(case hd=>rfl);(case hg=>rfl);(case hr=>first|(go_simp;done)|(go_simp;rfl));(case hp=>exact (Reps.one (show Kd.M (Kd.int .i64) _ _ _ (-1) [.int .i64 (-1)] from rfl) (Reps.none _ _)));intro v276 w34 ho35 hb hg_ hnew_;clear hg_ hnew_;(rw [← Ny275.out] at ho35);have HO277:=ak (R_lower (R_new' (R_new' (R_new' ho35 (R_lt (rm HO_4.out))) (R_lt (rm HO_5.out))) (R_lt (rm HO_12.out))) (below_size (h1 HB.out GE254.out)));replace HO_4:=ak (R_elder' (rm HO_4.out) (R_base ho35) hb);replace HO_5:=ak (R_elder' (rm HO_5.out) (R_base ho35) hb);replace HO_12:=ak (R_elder' (rm HO_12.out) (R_base ho35) hb);replace BK254:=kb BK254 hb;replace HB:=ak (below_step (h1 HB.out GE254.out) hb);clear hb ho35;obtain ⟨Ao36,co36,eo36⟩:=R_slice HO277.out;subst eo36)|((with_reducible refine gate_callee (f:=59) rfl ?_);refine goesL_ (some 43) rfl rfl Try.func59 (by kernel_rfl) rfl #[.slice Ao36 y275.length co36,.int .i64 (x4_1.length : Int)] rfl gl ?_;(with_reducible refine (slices_Repeat_int_int.calls k1 _ _ y275 (x4_1.length : Int) t278 _ ?side1 ?side2 A25.out).mono ?_);(case side1=>exact cm (R_reads' HO277.out).2.2);(case side2=>exact (R_reads' HO277.out).2.1);rintro e w37 ⟨v279,rfl,ho0,hb⟩;refine ⟨_,rfl,?_⟩;have HO280:=ak (R_lower (R_new' (R_new' (R_new' (R_new' ho0 (R_lt (rm HO_4.out))) (R_lt (rm HO_5.out))) (R_lt (rm HO_12.out))) (R_lt (rm HO277.out))) (below_size (h1 HB.out GE254.out)));replace HO_4:=ak (R_elder' (rm HO_4.out) (R_base ho0) hb);replace HO_5:=ak (R_elder' (rm HO_5.out) (R_base ho0) hb);replace HO_12:=ak (R_elder' (rm HO_12.out) (R_base ho0) hb);replace HO277:=ak (R_elder' (rm HO277.out) (R_base ho0) hb);replace BK254:=kb BK254 hb;replace HB:=ak (below_step (h1 HB.out GE254.out) hb);(try clear hb);(try clear ho0))|((with_reducible refine gate_dst (N:=44) rfl ?_);refine R_lit (Kd.int .i64) _ 3 ?hg (N:=44) ?hd (xs:=([1] : List Int)) (inner:=[.int .i64 1]) (ok:=fun _=>True) (okp:=fun _=>True) ?hr ?hp (fun _ hk=>hk) trivial (Below.refl _ _) (Nat.le_refl _) (by simp) ?_;(case hd=>rfl);(case hg=>rfl);(case hr=>first|(go_simp;done)|(go_simp;rfl));(case hp=>exact (Reps.one (show Kd.M (Kd.int .i64) _ _ _ 1 [.int .i64 1] from rfl) (Reps.none _ _)));intro v282 w38 ho39 hb hg_ hnew_;clear hg_ hnew_;(rw [← Ny281.out] at ho39);have HO283:=ak (R_lower (R_new' (R_new' (R_new' (R_new' (R_new' ho39 (R_lt (rm HO_4.out))) (R_lt (rm HO_5.out))) (R_lt (rm HO_12.out))) (R_lt (rm HO277.out))) (R_lt (rm HO280.out))) (below_size (h1 HB.out GE254.out)));replace HO_4:=ak (R_elder' (rm HO_4.out) (R_base ho39) hb);replace HO_5:=ak (R_elder' (rm HO_5.out) (R_base ho39) hb);replace HO_12:=ak (R_elder' (rm HO_12.out) (R_base ho39) hb);replace HO277:=ak (R_elder' (rm HO277.out) (R_base ho39) hb);replace HO280:=ak (R_elder' (rm HO280.out) (R_base ho39) hb);replace BK254:=kb BK254 hb;replace HB:=ak (below_step (h1 HB.out GE254.out) hb);clear hb ho39;obtain ⟨Ao40,co40,eo40⟩:=R_slice HO283.out;subst eo40)|((with_reducible refine gate_callee (f:=59) rfl ?_);refine goesL_ (some 47) rfl rfl Try.func59 (by kernel_rfl) rfl #[.slice Ao40 y281.length co40,.int .i64 (x5_1.length : Int)] rfl gl ?_;(with_reducible refine (slices_Repeat_int_int.calls k1 _ _ y281 (x5_1.length : Int) t284 _ ?side1 ?side2 A26.out).mono ?_);(case side1=>exact cm (R_reads' HO283.out).2.2);(case side2=>exact (R_reads' HO283.out).2.1);rintro e w41 ⟨v285,rfl,ho0,hb⟩;refine ⟨_,rfl,?_⟩;have HO286:=ak (R_lower (R_new' (R_new' (R_new' (R_new' (R_new' (R_new' ho0 (R_lt (rm HO_4.out))) (R_lt (rm HO_5.out))) (R_lt (rm HO_12.out))) (R_lt (rm HO277.out))) (R_lt (rm HO280.out))) (R_lt (rm HO283.out))) (below_size (h1 HB.out GE254.out)));replace HO_4:=ak (R_elder' (rm HO_4.out) (R_base ho0) hb);replace HO_5:=ak (R_elder' (rm HO_5.out) (R_base ho0) hb);replace HO_12:=ak (R_elder' (rm HO_12.out) (R_base ho0) hb);replace HO277:=ak (R_elder' (rm HO277.out) (R_base ho0) hb);replace HO280:=ak (R_elder' (rm HO280.out) (R_base ho0) hb);replace HO283:=ak (R_elder' (rm HO283.out) (R_base ho0) hb);replace BK254:=kb BK254 hb;replace HB:=ak (below_step (h1 HB.out GE254.out) hb);(try clear hb);(try clear ho0);obtain ⟨Ao43,co43,eo43⟩:=R_slice HO286.out;subst eo43)|((with_reducible refine gate_builtin (b:=.append) (xs:=#[.tmp 43,.tmp 47]) rfl ?_);at_builtin;refine R_append_rows (Kd.int .i64) (w0:=w) w.heap.size rfl (.tmp 43) (.tmp 47) 22 3 (.int .i64 0) 8 rfl Try.underlying22 info3 rfl (by decide) (by omega) v279 t278 t284 _ _ _ (fun k_=>ob k_ (.slice Ao29 x4_1.length co29) ∧ ob k_ (.slice Ao31 x5_1.length co31) ∧ ob k_ (.slice Ao10 t261.length co10) ∧ ob k_ (.slice Ao36 y275.length co36) ∧ ob k_ (.slice Ao40 y281.length co40) ∧ ob k_ (.slice Ao43 t284.length co43)) (fun _=>False) rfl rfl ?aO ?aR (fun _ _ h=>h) (fun _ h=>h.elim) ?aF ?aB ?aS ?aL ?_;(case aR=>exact cm (R_reads' HO286.out).2.2);(case aB=>exact (h1 HB.out GE254.out));(case aF=>exact (fun k_ hk=>⟨Kd.fresh' (R_lt (rm HO_4.out)) k_ hk,Kd.fresh' (R_lt (rm HO_5.out)) k_ hk,Kd.fresh' (R_lt (rm HO_12.out)) k_ hk,Kd.fresh' (R_lt (rm HO277.out)) k_ hk,Kd.fresh' (R_lt (rm HO283.out)) k_ hk,Kd.fresh' (R_lt (rm HO286.out)) k_ hk⟩));(case aO=>exact (rm (R_mono HO280.out (fun _ hk=>⟨hk.1.1.1.1.1.2,⟨hk.1.1.1.1.2,⟨hk.1.1.1.2,⟨hk.1.1.2,⟨hk.1.2,hk.2⟩⟩⟩⟩⟩))));(case aS=>exact (below_size (h1 HB.out GE254.out)));(case aL=>have:=LMc27.out;omega);intro v288 w42 ho hb hg hat;rw [← Ny287.out] at ho;replace HO_4:=ak (R_after (ok:=(fun k_=>ob k_ (.slice Ao31 x5_1.length co31) ∧ ob k_ (.slice Ao10 t261.length co10) ∧ ob k_ (.slice Ao36 y275.length co36) ∧ ob k_ (.slice Ao40 y281.length co40) ∧ ob k_ (.slice Ao43 t284.length co43))) (rm (R_mono HO_4.out (fun _ hk=>⟨⟨hk.1.1.1.1.1,⟨hk.1.1.1.1.2,⟨hk.1.1.1.2,⟨hk.1.2,hk.2⟩⟩⟩⟩,hk.1.1.2⟩))) hg hat);replace HO_5:=ak (R_after (ok:=(fun k_=>ob k_ (.slice Ao29 x4_1.length co29) ∧ ob k_ (.slice Ao10 t261.length co10) ∧ ob k_ (.slice Ao36 y275.length co36) ∧ ob k_ (.slice Ao40 y281.length co40) ∧ ob k_ (.slice Ao43 t284.length co43))) (rm (R_mono HO_5.out (fun _ hk=>⟨⟨hk.1.1.1.1.1,⟨hk.1.1.1.1.2,⟨hk.1.1.1.2,⟨hk.1.2,hk.2⟩⟩⟩⟩,hk.1.1.2⟩))) hg hat);replace HO_12:=ak (R_after (ok:=(fun k_=>ob k_ (.slice Ao29 x4_1.length co29) ∧ ob k_ (.slice Ao31 x5_1.length co31) ∧ ob k_ (.slice Ao36 y275.length co36) ∧ ob k_ (.slice Ao40 y281.length co40) ∧ ob k_ (.slice Ao43 t284.length co43))) (rm (R_mono HO_12.out (fun _ hk=>⟨⟨hk.1.1.1.1.1,⟨hk.1.1.1.1.2,⟨hk.1.1.1.2,⟨hk.1.2,hk.2⟩⟩⟩⟩,hk.1.1.2⟩))) hg hat);replace BK254:=ak (blk_grown (g:=gb254) (o:=.cells #[.int .i64 a0_0,.slice A0_1 l0_1.length c0_1,.slice A0_2 l0_2.length c0_2] 27 (0,0)) (bm BK254.out) hg (R_ne HO280.out BK254.out (by decide)));replace HO277:=ak (R_after (ok:=(fun k_=>ob k_ (.slice Ao29 x4_1.length co29) ∧ ob k_ (.slice Ao31 x5_1.length co31) ∧ ob k_ (.slice Ao10 t261.length co10) ∧ ob k_ (.slice Ao40 y281.length co40) ∧ ob k_ (.slice Ao43 t284.length co43))) (rm (R_mono HO277.out (fun _ hk=>⟨⟨hk.1.1.1.1.1.2,⟨hk.1.1.1.1.2,⟨hk.1.1.1.2,⟨hk.1.2,hk.2⟩⟩⟩⟩,hk.1.1.2⟩))) hg hat);replace HO283:=ak (R_after (ok:=(fun k_=>ob k_ (.slice Ao29 x4_1.length co29) ∧ ob k_ (.slice Ao31 x5_1.length co31) ∧ ob k_ (.slice Ao10 t261.length co10) ∧ ob k_ (.slice Ao36 y275.length co36) ∧ ob k_ (.slice Ao43 t284.length co43))) (rm (R_mono HO283.out (fun _ hk=>⟨⟨hk.1.1.1.1.1.2,⟨hk.1.1.1.1.2,⟨hk.1.1.1.2,⟨hk.1.1.2,hk.2⟩⟩⟩⟩,hk.1.2⟩))) hg hat);replace HO286:=ak (R_after (ok:=(fun k_=>ob k_ (.slice Ao29 x4_1.length co29) ∧ ob k_ (.slice Ao31 x5_1.length co31) ∧ ob k_ (.slice Ao10 t261.length co10) ∧ ob k_ (.slice Ao36 y275.length co36) ∧ ob k_ (.slice Ao40 y281.length co40))) (rm (R_mono HO286.out (fun _ hk=>⟨⟨hk.1.1.1.1.1.2,⟨hk.1.1.1.1.2,⟨hk.1.1.1.2,⟨hk.1.1.2,hk.2⟩⟩⟩⟩,hk.1.2⟩))) hg hat);replace HB:=ak hb;have HO289:=ak ho;clear HO280;clear ho hb hg hat)|((with_reducible refine gate_builtin (b:=.append) (xs:=#[.tmp 49,.tmp 50]) rfl ?_);at_builtin;refine R_append_rows (Kd.int .i64) (w0:=w) w.heap.size rfl (.tmp 49) (.tmp 50) 22 3 (.int .i64 0) 8 rfl Try.underlying22 info3 rfl (by decide) (by omega) (.slice Ao29 x4_1.length co29) t272 t274 _ _ _ (fun k_=>ob k_ (.slice Ao31 x5_1.length co31) ∧ ob k_ (.slice Ao10 t261.length co10) ∧ ob k_ (.slice Ao36 y275.length co36) ∧ ob k_ (.slice Ao40 y281.length co40) ∧ ob k_ (.slice Ao43 t284.length co43) ∧ ob k_ v288) (fun _=>False) rfl rfl ?aO ?aR (fun _ _ h=>h) (fun _ h=>h.elim) ?aF ?aB ?aS ?aL ?_;(case aR=>rw [show x5_1.length = t274.length from (R_reads' HO_5.out).1];exact cm (R_reads' HO_5.out).2.2);(case aB=>exact (h1 HB.out GE254.out));(case aF=>exact (fun k_ hk=>⟨Kd.fresh' (R_lt (rm HO_5.out)) k_ hk,Kd.fresh' (R_lt (rm HO_12.out)) k_ hk,Kd.fresh' (R_lt (rm HO277.out)) k_ hk,Kd.fresh' (R_lt (rm HO283.out)) k_ hk,Kd.fresh' (R_lt (rm HO286.out)) k_ hk,Kd.fresh' (R_lt (rm HO289.out)) k_ hk⟩));(case aO=>exact (rm (R_mono HO_4.out (fun _ hk=>⟨hk.1.1,⟨hk.1.2.1,⟨hk.1.2.2.1,⟨hk.1.2.2.2.1,⟨hk.1.2.2.2.2,hk.2⟩⟩⟩⟩⟩))));(case aS=>exact (below_size (h1 HB.out GE254.out)));(case aL=>have:=LMc28.out;have hlx_:=(R_reads' HO_5.out).1;omega);intro v291 w44 ho hb hg hat;rw [← Ny290.out] at ho;replace HO_5:=ak (R_after (ok:=(fun k_=>ob k_ (.slice Ao10 t261.length co10) ∧ ob k_ (.slice Ao36 y275.length co36) ∧ ob k_ (.slice Ao40 y281.length co40) ∧ ob k_ (.slice Ao43 t284.length co43) ∧ ob k_ v288)) (rm (R_mono HO_5.out (fun _ hk=>⟨⟨hk.1.2.1,⟨hk.1.2.2.1,⟨hk.1.2.2.2.1,⟨hk.1.2.2.2.2,hk.2⟩⟩⟩⟩,hk.1.1⟩))) hg hat);replace HO_12:=ak (R_after (ok:=(fun k_=>ob k_ (.slice Ao31 x5_1.length co31) ∧ ob k_ (.slice Ao36 y275.length co36) ∧ ob k_ (.slice Ao40 y281.length co40) ∧ ob k_ (.slice Ao43 t284.length co43) ∧ ob k_ v288)) (rm (R_mono HO_12.out (fun _ hk=>⟨⟨hk.1.2.1,⟨hk.1.2.2.1,⟨hk.1.2.2.2.1,⟨hk.1.2.2.2.2,hk.2⟩⟩⟩⟩,hk.1.1⟩))) hg hat);replace BK254:=ak (blk_grown (g:=gb254) (o:=.cells #[.int .i64 a0_0,.slice A0_1 l0_1.length c0_1,.slice A0_2 l0_2.length c0_2] 27 (0,0)) (bm BK254.out) hg (R_ne HO_4.out BK254.out (by decide)));replace HO277:=ak (R_after (ok:=(fun k_=>ob k_ (.slice Ao31 x5_1.length co31) ∧ ob k_ (.slice Ao10 t261.length co10) ∧ ob k_ (.slice Ao40 y281.length co40) ∧ ob k_ (.slice Ao43 t284.length co43) ∧ ob k_ v288)) (rm (R_mono HO277.out (fun _ hk=>⟨⟨hk.1.2.1,⟨hk.1.2.2.1,⟨hk.1.2.2.2.1,⟨hk.1.2.2.2.2,hk.2⟩⟩⟩⟩,hk.1.1⟩))) hg hat);replace HO283:=ak (R_after (ok:=(fun k_=>ob k_ (.slice Ao31 x5_1.length co31) ∧ ob k_ (.slice Ao10 t261.length co10) ∧ ob k_ (.slice Ao36 y275.length co36) ∧ ob k_ (.slice Ao43 t284.length co43) ∧ ob k_ v288)) (rm (R_mono HO283.out (fun _ hk=>⟨⟨hk.1.2.1,⟨hk.1.2.2.1,⟨hk.1.2.2.2.1,⟨hk.1.2.2.2.2,hk.2⟩⟩⟩⟩,hk.1.1⟩))) hg hat);replace HO286:=ak (R_after (ok:=(fun k_=>ob k_ (.slice Ao31 x5_1.length co31) ∧ ob k_ (.slice Ao10 t261.length co10) ∧ ob k_ (.slice Ao36 y275.length co36) ∧ ob k_ (.slice Ao40 y281.length co40) ∧ ob k_ v288)) (rm (R_mono HO286.out (fun _ hk=>⟨⟨hk.1.2.1,⟨hk.1.2.2.1,⟨hk.1.2.2.2.1,⟨hk.1.2.2.2.2,hk.2⟩⟩⟩⟩,hk.1.1⟩))) hg hat);replace HO289:=ak (R_after (ok:=(fun k_=>ob k_ (.slice Ao31 x5_1.length co31) ∧ ob k_ (.slice Ao10 t261.length co10) ∧ ob k_ (.slice Ao36 y275.length co36) ∧ ob k_ (.slice Ao40 y281.length co40) ∧ ob k_ (.slice Ao43 t284.length co43))) (rm (R_mono HO289.out (fun _ hk=>⟨⟨hk.2.1,⟨hk.2.2.1,⟨hk.2.2.2.1,⟨hk.2.2.2.2.1,hk.2.2.2.2.2⟩⟩⟩⟩,hk.1⟩))) hg hat);replace HB:=ak hb;have HO292:=ak ho;clear HO_4;clear ho hb hg hat))
  go_ret2
  exact ⟨_,_,fe,rm (R_mono HO292.out (fun _ hk=>hk.2.2.2.2.2)),rm (R_mono HO289.out (fun _ hk=>hk.2)),h1 HB.out GE254.out⟩

/-! ### impl_FallsOf: function 30 -/
def impl_FallsOf.f (k : Nat) (a0_0 : Int) (l0_1 : List Int) (l0_2 : List Int) : Option (List Int × List Int × Bool):=(impl_IsWire.f k a0_0 l0_1 l0_2).bind fun t294=>(if t294 = true then ((impl_Wire_falls.f k a0_0 l0_1 l0_2).bind fun bt295=>(some (bt295.1,bt295.2,true))) else (some (([] : List Int),([] : List Int),false)))
theorem impl_FallsOf.mono : ∀ a0 a1 a2 k,LeO (impl_FallsOf.f k a0 a1 a2) (impl_FallsOf.f (k + 1) a0 a1 a2):=by
 intro a0 a1 a2 k
 unfold impl_FallsOf.f
 repeat' first
   | (with_reducible exact impl_IsWire.mono _ _ _ _)
   | (with_reducible exact impl_Wire_falls.mono _ _ _ _)
   | (with_reducible exact LeO.refl _)
   | (with_reducible exact LeO.none _)
   | (with_reducible refine LeO.ite ?_ ?_)
   | (with_reducible refine LeO.bind ?_ (fun _=>?_))
   | exact impl_IsWire.mono _ _ _ _
   | exact impl_Wire_falls.mono _ _ _ _
   | exact LeO.none _
   | refine LeO.ite ?_ ?_
   | refine LeO.bind ?_ (fun _=>?_)
set_option maxHeartbeats 8000000 in
set_option maxRecDepth 100000 in
theorem impl_FallsOf.calls (k : Nat) (a0_0 : Int) (A0_1 : Option Addr) (c0_1 : Nat) (l0_1 : List Int) (A0_2 : Option Addr) (c0_2 : Nat) (l0_2 : List Int) (r1 : List Int) (r2 : List Int) (r3 : Bool) (w : World) (hr0_1 : Kd.C (Kd.int .i64) w A0_1 l0_1.length l0_1) (hc0_1 : l0_1.length ≤ c0_1) (hr0_2 : Kd.C (Kd.int .i64) w A0_2 l0_2.length l0_2) (hc0_2 : l0_2.length ≤ c0_2) (h : impl_FallsOf.f k a0_0 l0_1 l0_2 = some (r1,r2,r3)) :
  Calls Try.prog 30 #[.agg #[.int .i64 a0_0,.slice A0_1 l0_1.length c0_1,.slice A0_2 l0_2.length c0_2]] w fun e w'=>∃ v0_ v1_ : Value,e = .returned (.tuple #[v0_,v1_,.bool r3]) ∧ Kd.R (Kd.int .i64) 3 w' w.heap.size (fun k_=>ob k_ v1_) v0_ r1 ∧ Kd.R (Kd.int .i64) 3 w' w.heap.size (fun k_=>ob k_ v0_) v1_ r2 ∧ Below w.heap.size w w':=by
 have hu27:=Try.underlying27
 have HR0_1:=Aside0.mk hr0_1
 have HC0_1:=Aside0.mk hc0_1
 clear hr0_1 hc0_1
 have HR0_2:=Aside0.mk hr0_2
 have HC0_2:=Aside0.mk hc0_2
 clear hr0_2 hc0_2
 have HB:=Aside0.mk (Below.refl w.heap.size w)
 have H : ((impl_IsWire.f k a0_0 l0_1 l0_2).bind fun t294=>(if t294 = true then ((impl_Wire_falls.f k a0_0 l0_1 l0_2).bind fun bt295=>(some (bt295.1,bt295.2,true))) else (some (([] : List Int),([] : List Int),false)))) = some (r1,r2,r3):=h
 clear h
 replace H:=Option.bind_eq_some_iff.mp H
 obtain ⟨t294,A20,H⟩:=H
 have A2:=Aside0.mk A20
 clear A20
 by_cases c3 : t294 = true
 rotate_left
 ·replace c3:=Bool.eq_false_iff.mpr c3
  subst c3
  rw [if_neg (show ¬ (false = true) by decide)] at H
  simp only [Option.some.injEq,Prod.mk.injEq] at H
  obtain ⟨rfl,rfl,rfl⟩:=H
  go_enter Try.func30,Try.ntmps30
  go_wp2_with (first|((with_reducible refine gate_dst (N:=1) rfl ?_);refine box_event ?hg (N:=1) ?hd (cs:=#[.int .i64 a0_0,.slice A0_1 l0_1.length c0_1,.slice A0_2 l0_2.length c0_2]) (t:=27) ?hr ?_;(case hd=>rfl);(case hg=>rfl);(case hr=>first|(go_simp;done)|(go_simp;rfl));intro gb293 hg w10 hbox hb;have BK293:=ak hbox;have GW293:=ak ((by rw [hg];exact (below_size (hm HB.out)) : w.heap.size ≤ gb293));have GE293:=ak ((by rw [hg];exact (below_size (hm HB.out)) : w.heap.size ≤ gb293));replace HB:=bs HB hb;clear hb hbox hg;have hcz11_0 : w10.cell? ⟨gb293,0,none⟩ = some (.int .i64 a0_0):=(blk_cell BK293.out 0).trans rfl;have hcz11_1 : w10.cell? ⟨gb293,1,none⟩ = some (.slice A0_1 l0_1.length c0_1):=(blk_cell BK293.out 1).trans rfl;have hcz11_2 : w10.cell? ⟨gb293,2,none⟩ = some (.slice A0_2 l0_2.length c0_2):=(blk_cell BK293.out 2).trans rfl;have hfz11_0:=blk_frozen BK293.out 0;have hfz11_1:=blk_frozen BK293.out 1;have hfz11_2:=blk_frozen BK293.out 2)|((with_reducible refine gate_callee (f:=14) rfl ?_);refine goesL_ (some 8) rfl rfl Try.func14 (by kernel_rfl) rfl #[.agg #[.int .i64 a0_0,.slice A0_1 l0_1.length c0_1,.slice A0_2 l0_2.length c0_2]] rfl gl ?_;(with_reducible refine (impl_IsWire.calls k a0_0 _ _ l0_1 _ _ l0_2 false _ ?side1 ?side2 ?side3 ?side4 A2.out).mono ?_);(case side1=>exact cm (C_below HR0_1.out HB.out));(case side2=>exact HC0_1.out);(case side3=>exact cm (C_below HR0_2.out HB.out));(case side4=>exact HC0_2.out);rintro e w12 ⟨rfl,hb⟩;refine ⟨_,rfl,?_⟩;replace BK293:=kb BK293 hb;replace HB:=ak (below_step (h1 HB.out GE293.out) hb);(try clear hb)))
  go_ret3
  exact ⟨_,_,fe,by first|exact R_nil _ _ _ _ _|exact Kd.N_nil _ _ _ _ _|exact Kd.V_nil _ _ _ _ _|exact Kd.Q_nil _ _ _ _ _|exact Kd.S_nil _ _ _ _ _,by first|exact R_nil _ _ _ _ _|exact Kd.N_nil _ _ _ _ _|exact Kd.V_nil _ _ _ _ _|exact Kd.Q_nil _ _ _ _ _|exact Kd.S_nil _ _ _ _ _,h1 HB.out GE293.out⟩
 subst c3
 rw [if_pos rfl] at H
 replace H:=Option.bind_eq_some_iff.mp H
 obtain ⟨⟨t295,t298⟩,A40,H⟩:=H
 (try dsimp only at H)
 have A4:=Aside0.mk A40
 clear A40
 simp only [Option.some.injEq,Prod.mk.injEq] at H
 obtain ⟨rfl,rfl,rfl⟩:=H
 go_enter Try.func30,Try.ntmps30
 go_wp2_with (first|((with_reducible refine gate_dst (N:=1) rfl ?_);refine box_event ?hg (N:=1) ?hd (cs:=#[.int .i64 a0_0,.slice A0_1 l0_1.length c0_1,.slice A0_2 l0_2.length c0_2]) (t:=27) ?hr ?_;(case hd=>rfl);(case hg=>rfl);(case hr=>first|(go_simp;done)|(go_simp;rfl));intro gb293 hg w5 hbox hb;have BK293:=ak hbox;have GW293:=ak ((by rw [hg];exact (below_size (hm HB.out)) : w.heap.size ≤ gb293));have GE293:=ak ((by rw [hg];exact (below_size (hm HB.out)) : w.heap.size ≤ gb293));replace HB:=bs HB hb;clear hb hbox hg;have hcz6_0 : w5.cell? ⟨gb293,0,none⟩ = some (.int .i64 a0_0):=(blk_cell BK293.out 0).trans rfl;have hcz6_1 : w5.cell? ⟨gb293,1,none⟩ = some (.slice A0_1 l0_1.length c0_1):=(blk_cell BK293.out 1).trans rfl;have hcz6_2 : w5.cell? ⟨gb293,2,none⟩ = some (.slice A0_2 l0_2.length c0_2):=(blk_cell BK293.out 2).trans rfl;have hfz6_0:=blk_frozen BK293.out 0;have hfz6_1:=blk_frozen BK293.out 1;have hfz6_2:=blk_frozen BK293.out 2)|((with_reducible refine gate_callee (f:=14) rfl ?_);refine goesL_ (some 8) rfl rfl Try.func14 (by kernel_rfl) rfl #[.agg #[.int .i64 a0_0,.slice A0_1 l0_1.length c0_1,.slice A0_2 l0_2.length c0_2]] rfl gl ?_;(with_reducible refine (impl_IsWire.calls k a0_0 _ _ l0_1 _ _ l0_2 true _ ?side1 ?side2 ?side3 ?side4 A2.out).mono ?_);(case side1=>exact cm (C_below HR0_1.out HB.out));(case side2=>exact HC0_1.out);(case side3=>exact cm (C_below HR0_2.out HB.out));(case side4=>exact HC0_2.out);rintro e w7 ⟨rfl,hb⟩;refine ⟨_,rfl,?_⟩;replace BK293:=kb BK293 hb;replace HB:=ak (below_step (h1 HB.out GE293.out) hb);(try clear hb);have hcz8_0 : w7.cell? ⟨gb293,0,none⟩ = some (.int .i64 a0_0):=(blk_cell BK293.out 0).trans rfl;have hcz8_1 : w7.cell? ⟨gb293,1,none⟩ = some (.slice A0_1 l0_1.length c0_1):=(blk_cell BK293.out 1).trans rfl;have hcz8_2 : w7.cell? ⟨gb293,2,none⟩ = some (.slice A0_2 l0_2.length c0_2):=(blk_cell BK293.out 2).trans rfl;have hfz8_0:=blk_frozen BK293.out 0;have hfz8_1:=blk_frozen BK293.out 1;have hfz8_2:=blk_frozen BK293.out 2)|((with_reducible refine gate_callee (f:=52) rfl ?_);refine goesL_ (some 12) rfl rfl Try.func52 (by kernel_rfl) rfl #[.agg #[.int .i64 a0_0,.slice A0_1 l0_1.length c0_1,.slice A0_2 l0_2.length c0_2]] rfl gl ?_;(with_reducible refine (impl_Wire_falls.calls k a0_0 _ _ l0_1 _ _ l0_2 t295 t298 _ ?side1 ?side2 ?side3 ?side4 A4.out).mono ?_);(case side1=>exact cm (C_below HR0_1.out HB.out));(case side2=>exact HC0_1.out);(case side3=>exact cm (C_below HR0_2.out HB.out));(case side4=>exact HC0_2.out);rintro e w9 ⟨v296,v299,rfl,ho0,ho1,hb⟩;refine ⟨_,rfl,?_⟩;have HO297:=ak (R_lower ho0 (below_size (h1 HB.out GE293.out)));have HO300:=ak (R_lower ho1 (below_size (h1 HB.out GE293.out)));replace BK293:=kb BK293 hb;replace HB:=ak (below_step (h1 HB.out GE293.out) hb);(try clear hb);(try clear ho0);(try clear ho1)))
 go_ret3
 exact ⟨_,_,fe,rm HO297.out,rm HO300.out,h1 HB.out GE293.out⟩

/-! ### spec_l1Own: function 53 -/
def spec_l1Own.f (l0 : List Int) : Option (List Int):=(some (([] : List Int) : List Int)).bind fun y301=>(if y301.length + l0.length < 17592186044416 then (some (y301 ++ l0)) else (none))
set_option maxHeartbeats 8000000 in
set_option maxRecDepth 100000 in
theorem spec_l1Own.calls (A0 : Option Addr) (c0 : Nat) (l0 : List Int) (r : List Int) (w : World) (hr0 : Kd.C (Kd.int .i64) w A0 l0.length l0) (hc0 : l0.length ≤ c0) (h : spec_l1Own.f l0 = some r) :
  Calls Try.prog 53 #[.slice A0 l0.length c0] w fun e w'=>∃ v0_ : Value,e = .returned (v0_) ∧ Kd.R (Kd.int .i64) 3 w' w.heap.size (fun _=>True) v0_ r ∧ Below w.heap.size w w':=by
 have HR0:=Aside0.mk hr0
 have HC0:=Aside0.mk hc0
 clear hr0 hc0
 have HB:=Aside0.mk (Below.refl w.heap.size w)
 have H : ((some (([] : List Int) : List Int)).bind fun y301=>(if y301.length + l0.length < 17592186044416 then (some (y301 ++ l0)) else (none))) = some r:=h
 clear h
 obtain ⟨y301,hy301⟩ : ∃ y_ : List Int,y_ = (([] : List Int)):=⟨_,rfl⟩
 replace H : (if y301.length + l0.length < 17592186044416 then (some (y301 ++ l0)) else (none)) = some r:=by first|(rw [hy301];with_reducible exact H)|(have H2_:=(Option.bind_some _ _).symm.trans H;rw [hy301];with_reducible exact H2_)|(have H2_:=(Option.bind_some _ _).symm.trans H;with_reducible exact H2_)|with_reducible exact H|(rw [hy301];exact H)|exact H
 have Ny301:=Aside0.mk hy301
 clear hy301
 by_cases c2 : y301.length + l0.length < 17592186044416
 rotate_left
 ·rw [if_neg c2] at H
  exact absurd H (by simp)
 rw [if_pos c2] at H
 have LMc2:=Aside0.mk c2
 clear c2
 obtain ⟨y304,hy304⟩ : ∃ y_ : List Int,y_ = (y301 ++ l0):=⟨_,rfl⟩
 replace H : (some y304) = some r:=by first|(rw [hy304];with_reducible exact H)|(have H2_:=(Option.bind_some _ _).symm.trans H;rw [hy304];with_reducible exact H2_)|(have H2_:=(Option.bind_some _ _).symm.trans H;with_reducible exact H2_)|with_reducible exact H|(rw [hy304];exact H)|exact H
 have Ny304:=Aside0.mk hy304
 clear hy304
 obtain rfl:=Option.some.inj H
 go_enter Try.func53,Try.ntmps53
 go_wp2_with (first|((with_reducible refine gate_dst (N:=3) rfl ?_);refine R_lit (Kd.int .i64) _ 3 ?hg (N:=3) ?hd (xs:=([] : List Int)) (inner:=[]) (ok:=fun _=>True) (okp:=fun _=>True) ?hr ?hp (fun _ hk=>hk) trivial (Below.refl _ _) (Nat.le_refl _) (by simp) ?_;(case hd=>rfl);(case hg=>rfl);(case hr=>first|(go_simp;done)|(go_simp;rfl));(case hp=>exact (Reps.none _ _));intro v302 w3 ho4 hb hg_ hnew_;clear hg_ hnew_;(rw [← Ny301.out] at ho4);have HO303:=ak (R_lower ho4 (below_size (hm HB.out)));replace HB:=bs HB hb;clear hb ho4)|((with_reducible refine gate_builtin (b:=.append) (xs:=#[.tmp 3,.tmp 4]) rfl ?_);at_builtin;refine R_append_rows (Kd.int .i64) (w0:=w) w.heap.size rfl (.tmp 3) (.tmp 4) 22 3 (.int .i64 0) 8 rfl Try.underlying22 info3 rfl (by decide) (by omega) v302 y301 l0 _ _ _ (fun _=>True) (fun _=>False) rfl rfl ?aO ?aR (fun _ _ h=>h) (fun _ h=>h.elim) ?aF ?aB ?aS ?aL ?_;(case aR=>exact cm (C_below HR0.out HB.out));(case aB=>exact (hm HB.out));(case aF=>exact (fun _ _=>trivial));(case aO=>exact (rm HO303.out));(case aS=>exact (below_size (hm HB.out)));(case aL=>have:=LMc2.out;omega);intro v305 w5 ho hb hg hat;rw [← Ny304.out] at ho;replace HB:=ak hb;have HO306:=ak ho;clear HO303;clear ho hb hg hat))
 go_ret
 exact ⟨_,fe,rm HO306.out,hm HB.out⟩


end
end Go.Proofs.Ytciihopkgblpkaa.QFnWires
