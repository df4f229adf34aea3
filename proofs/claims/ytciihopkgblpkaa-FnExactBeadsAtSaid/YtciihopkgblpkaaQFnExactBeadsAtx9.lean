/- Functions that the law FnExactBeadsAt comes to, as Lean functions, with the proof that the Go code does what they say: written by a program of this session over the kit's print. No condition but those named. -/
import Derived.Test.YtciihopkgblpkaaQFnExactBeadsAtx0
import Derived.Test.YtciihopkgblpkaaQFnExactBeadsAtx7
import Derived.Test.YtciihopkgblpkaaQFnExactBeadsAtx8
namespace Go.Proofs.Ytciihopkgblpkaa.QFnExactBeadsAt
open Go.RowKit Go.Proofs.YtciihopkgblpkaaW.PrintWords Go.Proofs.YtciihopkgblpkaaW.PrintLast Go.Proofs.YtciihopkgblpkaaW.PrintMore Go.Proofs.Ytciihopkgblpkaa.Short
attribute [local go_sem] max2_int min2_int max_two min_two max_three min_three max_four min_four   -- for this text's walks alone
set_option linter.unusedVariables false
set_option linter.unusedSimpArgs false

/-! ### slices_pdqsortOrdered_int: function 60 -/
section
open Kd
mutual
def slices_pdqsortOrdered_int.l0 : Nat → List Int → Int → Int → Int → Bool → Option (List Int)
 | 0,_,_,_,_,_=>none
 | k + 1,x0,x1,x2,x3,x8=>if (wrap64 (x2 - x1)) ≤ 12 then ((slices_insertionSortOrdered_int.f k x0 x1 x2).bind fun t288=>(some t288)) else (if x3 = 0 then (none) else (if x8 = true then (none) else (none)))
def slices_pdqsortOrdered_int.f : Nat → List Int → Int → Int → Int → Option (List Int)
 | 0,_,_,_,_=>none
 | k + 1,l0,a1,a2,a3=>slices_pdqsortOrdered_int.l0 k l0 a1 a2 a3 true
end
theorem slices_pdqsortOrdered_int.mono_l : ∀ k,(∀ y0 y1 y2 y3,LeO (slices_pdqsortOrdered_int.f k y0 y1 y2 y3) (slices_pdqsortOrdered_int.f (k + 1) y0 y1 y2 y3)) ∧ (∀ y0 y1 y2 y3 y4,LeO (slices_pdqsortOrdered_int.l0 k y0 y1 y2 y3 y4) (slices_pdqsortOrdered_int.l0 (k + 1) y0 y1 y2 y3 y4))
 | 0=>⟨fun _ _ _ _ r h=>by simp [slices_pdqsortOrdered_int.f] at h,fun _ _ _ _ _ r h=>by simp [slices_pdqsortOrdered_int.l0] at h⟩
 | k + 1=>by
  obtain ⟨ih0,ih1⟩:=slices_pdqsortOrdered_int.mono_l k
  refine ⟨?_,?_⟩
  ·intro y0 y1 y2 y3
   unfold slices_pdqsortOrdered_int.f
   repeat' first
   | (with_reducible exact ih0 _ _ _ _)
   | (with_reducible exact ih1 _ _ _ _ _)
   | (with_reducible exact slices_insertionSortOrdered_int.mono _ _ _ _)
   | (with_reducible exact LeO.refl _)
   | (with_reducible exact LeO.none _)
   | (with_reducible refine LeO.ite ?_ ?_)
   | (with_reducible refine LeO.bind ?_ (fun _=>?_))
   | exact ih0 _ _ _ _
   | exact ih1 _ _ _ _ _
   | exact slices_insertionSortOrdered_int.mono _ _ _ _
   | exact LeO.none _
   | refine LeO.ite ?_ ?_
   | refine LeO.bind ?_ (fun _=>?_)
  ·intro y0 y1 y2 y3 y4
   unfold slices_pdqsortOrdered_int.l0
   repeat' first
   | (with_reducible exact ih0 _ _ _ _)
   | (with_reducible exact ih1 _ _ _ _ _)
   | (with_reducible exact slices_insertionSortOrdered_int.mono _ _ _ _)
   | (with_reducible exact LeO.refl _)
   | (with_reducible exact LeO.none _)
   | (with_reducible refine LeO.ite ?_ ?_)
   | (with_reducible refine LeO.bind ?_ (fun _=>?_))
   | exact ih0 _ _ _ _
   | exact ih1 _ _ _ _ _
   | exact slices_insertionSortOrdered_int.mono _ _ _ _
   | exact LeO.none _
   | refine LeO.ite ?_ ?_
   | refine LeO.bind ?_ (fun _=>?_)
theorem slices_pdqsortOrdered_int.mono : ∀ a0 a1 a2 a3 k,LeO (slices_pdqsortOrdered_int.f k a0 a1 a2 a3) (slices_pdqsortOrdered_int.f (k + 1) a0 a1 a2 a3):=by
 intro a0 a1 a2 a3 k
 obtain ⟨ih0,ih1⟩:=slices_pdqsortOrdered_int.mono_l k
 exact ih0 a0 a1 a2 a3
set_option maxHeartbeats 8000000 in
set_option maxRecDepth 100000 in
theorem slices_pdqsortOrdered_int.calls (k : Nat) : ∀ (P0_ : Nat → Prop) (u9000_ : Value) (l0 : List Int) (a1 : Int) (a2 : Int) (a3 : Int) (r : List Int) (w0 w : World) (hB : Below w0.heap.size w0 w) (ho0 : Kd.R (Kd.int .i64) 3 w w0.heap.size P0_ u9000_ l0) (h : slices_pdqsortOrdered_int.f k l0 a1 a2 a3 = some r),
  Calls Try.prog 60 #[u9000_,.int .i64 a1,.int .i64 a2,.int .i64 a3] w fun e w'=>e = .returned (.tuple #[]) ∧ Kd.R (Kd.int .i64) 3 w' w0.heap.size (fun k_=>(P0_ k_ ∨ w.heap.size ≤ k_)) u9000_ r ∧ Below w0.heap.size w0 w' ∧ Kept w w' (fun k_=>P0_ k_):=by
 induction k using Nat.strongRecOn with
 | _ k ih =>
 intro P0_ u9000_ l0 a1 a2 a3 r w0 w hB ho0 h
 cases k with
 | zero=>exact absurd h (by simp [slices_pdqsortOrdered_int.f])
 | succ k =>
 simp only [slices_pdqsortOrdered_int.f] at h
 have HO0:=Aside0.mk (show Kd.R (Kd.int .i64) 3 w w0.heap.size (fun k_=>(P0_ k_ ∨ w.heap.size ≤ k_)) u9000_ l0 from R_mono ho0 (fun k_ hk=>(.inl hk)))
 have HK:=Aside0.mk (Kept.refl w (fun k_=>P0_ k_))
 have HW0:=Aside0.mk hB.size
 have HB:=Aside0.mk hB
 clear hB
 have H : (slices_pdqsortOrdered_int.l0 k l0 a1 a2 a3 true) = some r:=h
 clear h
 have H':=Aside0.mk H
 clear H
 go_enter Try.func60,Try.ntmps60
 go_wp2
 repeat (go_quiet (fail);try go_wp2)
 go_loopg [1,2,3,8] k (fun kq v1 v2 v3 v8 w'=>∃ (x0_1 : List Int) (x1_1 : Int) (x2_1 : Int) (x3_1 : Int) (x8_1 : Bool),v1 = .int .i64 x1_1 ∧ v2 = .int .i64 x2_1 ∧ v3 = .int .i64 x3_1 ∧ v8 = .bool x8_1 ∧ Aside0 (slices_pdqsortOrdered_int.l0 kq x0_1 x1_1 x2_1 x3_1 x8_1 = some r) ∧ Aside0 (kq ≤ k) ∧ Aside0 (Kd.R (Kd.int .i64) 3 w' w0.heap.size (fun k_=>(P0_ k_ ∨ w.heap.size ≤ k_)) u9000_ x0_1) ∧ Aside0 (Kept w w' (fun k_=>P0_ k_)) ∧ Aside0 (Below w0.heap.size w0 w'))
 case atStart=>exact ⟨(l0),(a1),(a2),(a3),(true),(by first|rfl|(simp;done)|(simp [*];done)),(by first|rfl|(simp;done)|(simp [*];done)),(by first|rfl|(simp;done)|(simp [*];done)),(by first|rfl|(simp;done)|(simp [*];done)),H',⟨Nat.le_refl _⟩,⟨rm HO0.out⟩,⟨by repeat (first|(with_reducible first|exact HK.out|apply Kept.alloc|apply Kept.drewN|apply Kept.drew)|exact HK.out)⟩,⟨hm HB.out⟩⟩
 clear H'
 try clear p2
 obtain ⟨x0_1,x1_1,x2_1,x3_1,x8_1,rfl,rfl,rfl,rfl,HA,HK1,HO_0,HK,HB⟩:=hrel
 cases gk with
 | zero=>exact absurd HA.out (by simp [slices_pdqsortOrdered_int.l0])
 | succ k1 =>
  have H:=HA.out
  clear HA
  simp only [slices_pdqsortOrdered_int.l0] at H
  by_cases c5 : (wrap64 (x2_1 - x1_1)) ≤ 12
  rotate_left
  ·rw [if_neg c5] at H
   have c5b0 : decide ((wrap64 (x2_1 - x1_1)) ≤ 12) = false:=decide_eq_false c5
   clear c5
   by_cases c9 : x3_1 = 0
   ·rw [if_pos c9] at H
    exact absurd H (by simp)
   rw [if_neg c9] at H
   have c9b0 : (x3_1 == 0) = false:=beq_eq_false_iff_ne.mpr c9
   have c9b1 : (x3_1 != 0) = true:=bne_iff_ne.mpr c9
   by_cases c10 : x8_1 = true
   ·subst c10
    have H1 : (none) = some r:=by rw [if_pos rfl] at H;exact H
    clear H
    have H:=H1
    clear H1
    exact absurd H (by simp)
   replace c10:=Bool.eq_false_iff.mpr c10
   subst c10
   have H1 : (none) = some r:=by rw [if_neg (show ¬ (false = true) by decide)] at H;exact H
   clear H
   have H:=H1
   clear H1
   exact absurd H (by simp)
  rw [if_pos c5] at H
  have c5b0 : decide ((wrap64 (x2_1 - x1_1)) ≤ 12) = true:=decide_eq_true c5
  clear c5
  replace H:=Option.bind_eq_some_iff.mp H
  obtain ⟨t288,A60,H⟩:=H
  replace H : (some t288) = some r:=H
  have A6:=Aside0.mk A60
  clear A60
  obtain rfl:=Option.some.inj H
  obtain ⟨Ao7,co7,eo7⟩:=R_slice HO_0.out
  subst eo7
  go_wp2_with (first|(go_at_call 65;(with_reducible refine (slices_insertionSortOrdered_int.calls k1 (fun k_=>some k_ = (.slice Ao7 x0_1.length co7 : Value).ownBlock) (.slice Ao7 x0_1.length co7) x0_1 x1_1 x2_1 t288 w0 _ ?side1 ?side2 A6.out).mono ?_);(case side1=>repeat (first|(with_reducible first|exact HB.out|apply below_alloc|apply pw_below_drewN|apply below_drew1)|exact HB.out));(case side2=>exact R_tight rfl HO_0.out);rintro e w8 ⟨rfl,hy0,hb,hkp⟩;have n0_:=Aside0.mk (R_reok rfl hy0 (fun k_ e_=>HO_0.out.1 k_ e_));have n1_:=Aside0.mk (Kept.then_ (S:=(fun k_=>P0_ k_)) (by repeat (first|(with_reducible first|exact HK.out|apply Kept.alloc|apply Kept.drewN|apply Kept.drew)|exact HK.out)) hkp (fun k_ hs_=>(fun e_=>(HO_0.out.1 k_ e_.symm)) hs_));have n2_:=Aside0.mk (hb);clear HO_0;clear HK;clear HB;have HO_0:=n0_;have HK:=n1_;have HB:=n2_;clear n0_ n1_ n2_;(try clear hb);(try clear hkp);(try clear hy0)))
  repeat (go_quiet (fail);try go_wp2_with (first|(go_at_call 65;(with_reducible refine (slices_insertionSortOrdered_int.calls k1 (fun k_=>some k_ = (.slice Ao7 x0_1.length co7 : Value).ownBlock) (.slice Ao7 x0_1.length co7) x0_1 x1_1 x2_1 t288 w0 _ ?side1 ?side2 A6.out).mono ?_);(case side1=>repeat (first|(with_reducible first|exact HB.out|apply below_alloc|apply pw_below_drewN|apply below_drew1)|exact HB.out));(case side2=>exact R_tight rfl HO_0.out);rintro e w8 ⟨rfl,hy0,hb,hkp⟩;have n0_:=Aside0.mk (R_reok rfl hy0 (fun k_ e_=>HO_0.out.1 k_ e_));have n1_:=Aside0.mk (Kept.then_ (S:=(fun k_=>P0_ k_)) (by repeat (first|(with_reducible first|exact HK.out|apply Kept.alloc|apply Kept.drewN|apply Kept.drew)|exact HK.out)) hkp (fun k_ hs_=>(fun e_=>(HO_0.out.1 k_ e_.symm)) hs_));have n2_:=Aside0.mk (hb);clear HO_0;clear HK;clear HB;have HO_0:=n0_;have HK:=n1_;have HB:=n2_;clear n0_ n1_ n2_;(try clear hb);(try clear hkp);(try clear hy0))))
  first|go_end0|((try simp only [Exit.inBlock,Exit.then]);refine bodyPost_ret (results_none rfl _ _ _) rfl ?_)
  exact ⟨by first|rfl|(simp [errW_none,errW_some] <;> rfl)|(simp [*,errW_none,errW_some] <;> rfl),rm HO_0.out,hm HB.out,by repeat (first|(with_reducible first|exact HK.out|apply Kept.alloc|apply Kept.drewN|apply Kept.drew)|exact HK.out)⟩

/-! ### slices_Sort_int_int: function 54 -/
def slices_Sort_int_int.f (k : Nat) (l0 : List Int) : Option (List Int):=(bits_Len.f k (IntKind.u64.wrap ((l0.length : Int)))).bind fun t289=>((slices_pdqsortOrdered_int.f k l0 0 (l0.length : Int) t289).bind fun t290=>(some t290))
theorem slices_Sort_int_int.mono : ∀ a0 k,LeO (slices_Sort_int_int.f k a0) (slices_Sort_int_int.f (k + 1) a0):=by
 intro a0 k
 unfold slices_Sort_int_int.f
 repeat' first
   | (with_reducible exact bits_Len.mono _ _)
   | (with_reducible exact slices_pdqsortOrdered_int.mono _ _ _ _ _)
   | (with_reducible exact LeO.refl _)
   | (with_reducible exact LeO.none _)
   | (with_reducible refine LeO.ite ?_ ?_)
   | (with_reducible refine LeO.bind ?_ (fun _=>?_))
   | exact bits_Len.mono _ _
   | exact slices_pdqsortOrdered_int.mono _ _ _ _ _
   | exact LeO.none _
   | refine LeO.ite ?_ ?_
   | refine LeO.bind ?_ (fun _=>?_)
set_option maxHeartbeats 8000000 in
set_option maxRecDepth 100000 in
theorem slices_Sort_int_int.calls (k : Nat) (P0_ : Nat → Prop) (u9000_ : Value) (l0 : List Int) (r : List Int) (w0 w : World) (hB : Below w0.heap.size w0 w) (ho0 : Kd.R (Kd.int .i64) 3 w w0.heap.size P0_ u9000_ l0) (h : slices_Sort_int_int.f k l0 = some r) :
  Calls Try.prog 54 #[u9000_] w fun e w'=>e = .returned (.tuple #[]) ∧ Kd.R (Kd.int .i64) 3 w' w0.heap.size (fun k_=>(P0_ k_ ∨ w.heap.size ≤ k_)) u9000_ r ∧ Below w0.heap.size w0 w' ∧ Kept w w' (fun k_=>P0_ k_):=by
 have HO0:=Aside0.mk (show Kd.R (Kd.int .i64) 3 w w0.heap.size (fun k_=>(P0_ k_ ∨ w.heap.size ≤ k_)) u9000_ l0 from R_mono ho0 (fun k_ hk=>(.inl hk)))
 have HK:=Aside0.mk (Kept.refl w (fun k_=>P0_ k_))
 have HW0:=Aside0.mk hB.size
 have HB:=Aside0.mk hB
 clear hB
 have H : ((bits_Len.f k (IntKind.u64.wrap ((l0.length : Int)))).bind fun t289=>((slices_pdqsortOrdered_int.f k l0 0 (l0.length : Int) t289).bind fun t290=>(some t290))) = some r:=h
 clear h
 replace H:=Option.bind_eq_some_iff.mp H
 obtain ⟨t289,A20,H⟩:=H
 replace H : ((slices_pdqsortOrdered_int.f k l0 0 (l0.length : Int) t289).bind fun t290=>(some t290)) = some r:=H
 have A2:=Aside0.mk A20
 clear A20
 replace H:=Option.bind_eq_some_iff.mp H
 obtain ⟨t290,A30,H⟩:=H
 replace H : (some t290) = some r:=H
 have A3:=Aside0.mk A30
 clear A30
 obtain rfl:=Option.some.inj H
 obtain ⟨Ao4,co4,eo4⟩:=R_slice HO0.out
 subst eo4
 go_enter Try.func54,Try.ntmps54
 go_wp2_with (first|((with_reducible refine gate_callee (f:=61) rfl ?_);refine goesL_ (some 9) rfl rfl Try.func61 (by kernel_rfl) rfl #[.int .u64 (IntKind.u64.wrap ((l0.length : Int)))] rfl (by (try simp only [List.map_toArray,List.map_cons,List.map_nil]);first|done|rfl|(simp only [List.length_drop,List.length_take];rfl)) ?_;(with_reducible refine (bits_Len.calls k (IntKind.u64.wrap ((l0.length : Int))) t289 _ A2.out).mono ?_);rintro e w' ⟨rfl,⟨nd,rfl⟩⟩;refine ⟨_,rfl,?_⟩)|((with_reducible refine gate_callee (f:=60) rfl ?_);refine goesL_ (some 10) rfl rfl Try.func60 (by kernel_rfl) rfl #[.slice Ao4 l0.length co4,.int .i64 0,.int .i64 (l0.length : Int),.int .i64 t289] rfl (by (try simp only [List.map_toArray,List.map_cons,List.map_nil]);first|done|rfl|(simp only [List.length_drop,List.length_take];rfl)) ?_;(with_reducible refine (slices_pdqsortOrdered_int.calls k (fun k_=>some k_ = (.slice Ao4 l0.length co4 : Value).ownBlock) (.slice Ao4 l0.length co4) l0 0 (l0.length : Int) t289 t290 w0 _ ?side1 ?side2 A3.out).mono ?_);(case side1=>repeat (first|(with_reducible first|exact HB.out|apply below_alloc|apply pw_below_drewN|apply below_drew1)|exact HB.out));(case side2=>exact R_tight rfl HO0.out);rintro e w5 ⟨rfl,hy0,hb,hkp⟩;refine ⟨_,rfl,?_⟩;have n0_:=Aside0.mk (R_reok rfl hy0 (fun k_ e_=>HO0.out.1 k_ e_));have n1_:=Aside0.mk (Kept.then_ (S:=(fun k_=>P0_ k_)) (by repeat (first|(with_reducible first|exact HK.out|apply Kept.alloc|apply Kept.drewN|apply Kept.drew)|exact HK.out)) hkp (fun k_ hs_=>(fun e_=>(HO0.out.1 k_ e_.symm)) hs_));have n2_:=Aside0.mk (hb);clear HO0;clear HK;clear HB;have HO0:=n0_;have HK:=n1_;have HB:=n2_;clear n0_ n1_ n2_;(try clear hb);(try clear hkp);(try clear hy0)))
 first|go_end0|((try simp only [Exit.inBlock,Exit.then]);refine bodyPost_ret (results_none rfl _ _ _) rfl ?_)
 exact ⟨by first|rfl|(simp [errW_none,errW_some] <;> rfl)|(simp [*,errW_none,errW_some] <;> rfl),rm HO0.out,hm HB.out,by repeat (first|(with_reducible first|exact HK.out|apply Kept.alloc|apply Kept.drewN|apply Kept.drew)|exact HK.out)⟩

-- NOT PRINTED: function 77 (bits_Mul32)

-- NOT PRINTED: function 78 (bits_Mul64)

-- NOT PRINTED: function 64 (bits_Mul)


/-! ### slices_Repeat_int_int: slices.Repeat at a list of one number -/
def slices_Repeat_int_int.f (k : Nat) (l : List Int) (n : Int) : Option (List Int):=Repeat.f k l n
theorem slices_Repeat_int_int.mono : ∀ l n k,LeO (slices_Repeat_int_int.f k l n) (slices_Repeat_int_int.f (k + 1) l n):=fun l n k=>Repeat.mono l n k
theorem slices_Repeat_int_int.calls (k : Nat) (A0 : Option Addr) (c0 : Nat) (l0 : List Int) (a1 : Int) (r : List Int) (w : World) (hr0 : Kd.C (Kd.int .i64) w A0 l0.length l0) (hc0 : l0.length ≤ c0) (h : slices_Repeat_int_int.f k l0 a1 = some r) :
    Calls Try.prog 59 #[.slice A0 l0.length c0,.int .i64 a1] w fun e w'=>∃ v0_ : Value,e = .returned (v0_) ∧ Kd.R (Kd.int .i64) 3 w' w.heap.size (fun _=>True) v0_ r ∧ Below w.heap.size w w':=Repeat.calls k A0 c0 l0 a1 r w hr0 hc0 h

/-! ### impl_Wire_falls: function 52 -/
def impl_Wire_falls.l0 : Nat → List Int → List Int → List Int → Int → Int → Int → List Int → List Int → Option (List Int × List Int)
 | 0,_,_,_,_,_,_,_,_=>none
 | k + 1,x4,x5,x12,x13,x14,x292000,x292001,x292002=>if x14 < x13 then (if 0 ≤ x14 then (if x14 < (x12.length : Int) then (if x14 < (x292002.length : Int) then (if (rd x292002 x14) < 0 then (if x4.length < 17592186044416 then (impl_Wire_falls.l0 k (x4 ++ [rd x12 x14]) x5 x12 x13 (wrap64 (x14 + 1)) x292000 x292001 x292002) else (none)) else (if x5.length < 17592186044416 then (impl_Wire_falls.l0 k x4 (x5 ++ [rd x12 x14]) x12 x13 (wrap64 (x14 + 1)) x292000 x292001 x292002) else (none))) else (none)) else (none)) else (none)) else ((slices_Sort_int_int.f k x4).bind fun t309=>((slices_Sort_int_int.f k x5).bind fun t310=>((slices_Reverse_int_int.f k t310).bind fun t311=>((slices_Repeat_int_int.f k (([(-1)] : List Int)) (x4.length : Int)).bind fun t315=>((slices_Repeat_int_int.f k (([1] : List Int)) (x5.length : Int)).bind fun t321=>(if t315.length + t321.length < 17592186044416 then (if t309.length + t311.length < 17592186044416 then (some ((t309 ++ t311),(t315 ++ t321))) else (none)) else (none)))))))
def impl_Wire_falls.f (k : Nat) (a0_0 : Int) (l0_1 : List Int) (l0_2 : List Int) : Option (List Int × List Int):=(impl_Wire_shades.f k a0_0 l0_1 l0_2).bind fun t298=>(impl_Wire_falls.l0 k (([] : List Int)) (([] : List Int)) t298 (t298.length : Int) 0 a0_0 l0_1 l0_2)
theorem impl_Wire_falls.mono_l : ∀ k,(∀ y0 y1 y2 y3 y4 y5 y6 y7,LeO (impl_Wire_falls.l0 k y0 y1 y2 y3 y4 y5 y6 y7) (impl_Wire_falls.l0 (k + 1) y0 y1 y2 y3 y4 y5 y6 y7))
 | 0=>fun _ _ _ _ _ _ _ _ r h=>by simp [impl_Wire_falls.l0] at h
 | k + 1=>by
  have ih0:=impl_Wire_falls.mono_l k
  ·intro y0 y1 y2 y3 y4 y5 y6 y7
   unfold impl_Wire_falls.l0
   repeat' first
   | (with_reducible exact ih0 _ _ _ _ _ _ _ _)
   | (with_reducible exact impl_Wire_shades.mono _ _ _ _)
   | (with_reducible exact slices_Repeat_int_int.mono _ _ _)
   | (with_reducible exact slices_Reverse_int_int.mono _ _)
   | (with_reducible exact slices_Sort_int_int.mono _ _)
   | (with_reducible exact LeO.refl _)
   | (with_reducible exact LeO.none _)
   | (with_reducible refine LeO.ite ?_ ?_)
   | (with_reducible refine LeO.bind ?_ (fun _=>?_))
   | exact ih0 _ _ _ _ _ _ _ _
   | exact impl_Wire_shades.mono _ _ _ _
   | exact slices_Repeat_int_int.mono _ _ _
   | exact slices_Reverse_int_int.mono _ _
   | exact slices_Sort_int_int.mono _ _
   | exact LeO.none _
   | refine LeO.ite ?_ ?_
   | refine LeO.bind ?_ (fun _=>?_)
theorem impl_Wire_falls.mono : ∀ a0 a1 a2 k,LeO (impl_Wire_falls.f k a0 a1 a2) (impl_Wire_falls.f (k + 1) a0 a1 a2):=by
 intro a0 a1 a2 k
 have ih0:=impl_Wire_falls.mono_l k
 unfold impl_Wire_falls.f
 repeat' first
   | (with_reducible exact ih0 _ _ _ _ _ _ _ _)
   | (with_reducible exact impl_Wire_shades.mono _ _ _ _)
   | (with_reducible exact slices_Repeat_int_int.mono _ _ _)
   | (with_reducible exact slices_Reverse_int_int.mono _ _)
   | (with_reducible exact slices_Sort_int_int.mono _ _)
   | (with_reducible exact LeO.refl _)
   | (with_reducible exact LeO.none _)
   | (with_reducible refine LeO.ite ?_ ?_)
   | (with_reducible refine LeO.bind ?_ (fun _=>?_))
   | exact ih0 _ _ _ _ _ _ _ _
   | exact impl_Wire_shades.mono _ _ _ _
   | exact slices_Repeat_int_int.mono _ _ _
   | exact slices_Reverse_int_int.mono _ _
   | exact slices_Sort_int_int.mono _ _
   | exact LeO.none _
   | refine LeO.ite ?_ ?_
   | refine LeO.bind ?_ (fun _=>?_)
set_option maxHeartbeats 8000000 in
set_option maxRecDepth 100000 in
theorem impl_Wire_falls.calls (k : Nat) (a0_0 : Int) (A0_1 : Option Addr) (c0_1 : Nat) (l0_1 : List Int) (A0_2 : Option Addr) (c0_2 : Nat) (l0_2 : List Int) (r1 : List Int) (r2 : List Int) (w : World) (hr0_1 : Kd.C (Kd.int .i64) w A0_1 l0_1.length l0_1) (hc0_1 : l0_1.length ≤ c0_1) (hr0_2 : Kd.C (Kd.int .i64) w A0_2 l0_2.length l0_2) (hc0_2 : l0_2.length ≤ c0_2) (h : impl_Wire_falls.f k a0_0 l0_1 l0_2 = some (r1,r2)) :
  Calls Try.prog 52 #[.agg #[.int .i64 a0_0,.slice A0_1 l0_1.length c0_1,.slice A0_2 l0_2.length c0_2]] w fun e w'=>∃ v0_ v1_ : Value,e = .returned (.tuple #[v0_,v1_]) ∧ Kd.R (Kd.int .i64) 3 w' w.heap.size (fun k_=>some k_ ≠ (v1_ : Value).ownBlock) v0_ r1 ∧ Kd.R (Kd.int .i64) 3 w' w.heap.size (fun k_=>some k_ ≠ (v0_ : Value).ownBlock) v1_ r2 ∧ Below w.heap.size w w':=by
 have hu27:=Try.underlying27
 have HR0_1:=Aside0.mk hr0_1
 have HC0_1:=Aside0.mk hc0_1
 clear hr0_1 hc0_1
 have HR0_2:=Aside0.mk hr0_2
 have HC0_2:=Aside0.mk hc0_2
 clear hr0_2 hc0_2
 have HB:=Aside0.mk (Below.refl w.heap.size w)
 have H : ((impl_Wire_shades.f k a0_0 l0_1 l0_2).bind fun t298=>(impl_Wire_falls.l0 k (([] : List Int)) (([] : List Int)) t298 (t298.length : Int) 0 a0_0 l0_1 l0_2)) = some (r1,r2):=h
 clear h
 obtain ⟨y292,hy292⟩ : ∃ y_ : List Int,y_ = (([] : List Int)):=⟨_,rfl⟩
 replace H : ((impl_Wire_shades.f k a0_0 l0_1 l0_2).bind fun t298=>(impl_Wire_falls.l0 k y292 (([] : List Int)) t298 (t298.length : Int) 0 a0_0 l0_1 l0_2)) = some (r1,r2):=by first|(rw [hy292];with_reducible exact H)|(have H2_:=(Option.bind_some _ _).symm.trans H;rw [hy292];with_reducible exact H2_)|(have H2_:=(Option.bind_some _ _).symm.trans H;with_reducible exact H2_)|with_reducible exact H|(rw [hy292];exact H)|exact H
 have Ny292:=Aside0.mk hy292
 clear hy292
 obtain ⟨y295,hy295⟩ : ∃ y_ : List Int,y_ = (([] : List Int)):=⟨_,rfl⟩
 replace H : ((impl_Wire_shades.f k a0_0 l0_1 l0_2).bind fun t298=>(impl_Wire_falls.l0 k y292 y295 t298 (t298.length : Int) 0 a0_0 l0_1 l0_2)) = some (r1,r2):=by first|(rw [hy295];with_reducible exact H)|(have H2_:=(Option.bind_some _ _).symm.trans H;rw [hy295];with_reducible exact H2_)|(have H2_:=(Option.bind_some _ _).symm.trans H;with_reducible exact H2_)|with_reducible exact H|(rw [hy295];exact H)|exact H
 have Ny295:=Aside0.mk hy295
 clear hy295
 replace H:=Option.bind_eq_some_iff.mp H
 obtain ⟨t298,A20,H⟩:=H
 replace H : (impl_Wire_falls.l0 k y292 y295 t298 (t298.length : Int) 0 a0_0 l0_1 l0_2) = some (r1,r2):=H
 have A2:=Aside0.mk A20
 clear A20
 have H':=Aside0.mk H
 clear H
 go_enter Try.func52,Try.ntmps52
 go_wp2_with (first|((with_reducible refine gate_dst (N:=1) rfl ?_);refine box_event ?hg (N:=1) ?hd (cs:=#[.int .i64 a0_0,.slice A0_1 l0_1.length c0_1,.slice A0_2 l0_2.length c0_2]) (t:=27) ?hr ?_;(case hd=>rfl);(case hg=>rfl);(case hr=>first|(go_simp;done)|(go_simp;rfl));intro gb291 hg w3 hbox hb;have n0_:=Aside0.mk (below_step (hm HB.out) hb);have n1_:=Aside0.mk (hbox);have n2_:=Aside0.mk ((by rw [hg];exact (below_size (hm HB.out)) : w.heap.size ≤ gb291));have n3_:=Aside0.mk ((by rw [hg];exact (below_size (hm HB.out)) : w.heap.size ≤ gb291));clear HB;have HB:=n0_;have BK291:=n1_;have GW291:=n2_;have GE291:=n3_;clear n0_ n1_ n2_ n3_;clear hb hbox hg)|((with_reducible refine gate_dst (N:=9) rfl ?_);refine R_lit (Kd.int .i64) _ 3 ?hg (N:=9) ?hd (xs:=([] : List Int)) (inner:=[]) (ok:=fun _=>True) (okp:=fun _=>True) ?hr ?hp (fun _ hk=>hk) trivial (Below.refl _ _) (Nat.le_refl _) (by simp) ?_;(case hd=>rfl);(case hg=>rfl);(case hr=>first|(go_simp;done)|(go_simp;rfl));(case hp=>exact (Reps.none _ _));intro v293 w4 ho5 hb hg_ hnew_;clear hg_ hnew_;(first|rw [← Ny292.out] at ho5|(simp only [Int.reduceToNat] at ho5;rw [← Ny292.out] at ho5));have n0_:=Aside0.mk (R_lower ho5 (below_size (h1 HB.out GE291.out)));have n1_:=Aside0.mk (blk_below (g:=gb291) (o:=.cells #[.int .i64 a0_0,.slice A0_1 l0_1.length c0_1,.slice A0_2 l0_2.length c0_2] 27 (0,0)) (bm BK291.out) hb);have n2_:=Aside0.mk (below_step (h1 HB.out GE291.out) hb);clear BK291;clear HB;have HO294:=n0_;have BK291:=n1_;have HB:=n2_;clear n0_ n1_ n2_;clear hb ho5)|((with_reducible refine gate_dst (N:=10) rfl ?_);refine R_lit (Kd.int .i64) _ 3 ?hg (N:=10) ?hd (xs:=([] : List Int)) (inner:=[]) (ok:=fun _=>True) (okp:=fun _=>True) ?hr ?hp (fun _ hk=>hk) trivial (Below.refl _ _) (Nat.le_refl _) (by simp) ?_;(case hd=>rfl);(case hg=>rfl);(case hr=>first|(go_simp;done)|(go_simp;rfl));(case hp=>exact (Reps.none _ _));intro v296 w6 ho7 hb hg_ hnew_;clear hg_ hnew_;(first|rw [← Ny295.out] at ho7|(simp only [Int.reduceToNat] at ho7;rw [← Ny295.out] at ho7));have n0_:=Aside0.mk (R_elder' (rm HO294.out) (R_base ho7) hb);have n1_:=Aside0.mk (R_lower (R_new' ho7 (R_lt (rm HO294.out))) (below_size (h1 HB.out GE291.out)));have n2_:=Aside0.mk (blk_below (g:=gb291) (o:=.cells #[.int .i64 a0_0,.slice A0_1 l0_1.length c0_1,.slice A0_2 l0_2.length c0_2] 27 (0,0)) (bm BK291.out) hb);have n3_:=Aside0.mk (below_step (h1 HB.out GE291.out) hb);clear HO294;clear BK291;clear HB;have HO294:=n0_;have HO297:=n1_;have BK291:=n2_;have HB:=n3_;clear n0_ n1_ n2_ n3_;clear hb ho7;have hcz8_0 : w6.cell? ⟨gb291,0,none⟩ = some (.int .i64 a0_0):=(blk_cell BK291.out 0).trans rfl;have hcz8_1 : w6.cell? ⟨gb291,1,none⟩ = some (.slice A0_1 l0_1.length c0_1):=(blk_cell BK291.out 1).trans rfl;have hcz8_2 : w6.cell? ⟨gb291,2,none⟩ = some (.slice A0_2 l0_2.length c0_2):=(blk_cell BK291.out 2).trans rfl;have hfz8_0:=blk_frozen BK291.out 0;have hfz8_1:=blk_frozen BK291.out 1;have hfz8_2:=blk_frozen BK291.out 2)|((with_reducible refine gate_callee (f:=47) rfl ?_);refine goesL_ (some 12) rfl rfl Try.func47 (by kernel_rfl) rfl #[.agg #[.int .i64 a0_0,.slice A0_1 l0_1.length c0_1,.slice A0_2 l0_2.length c0_2]] rfl (by (try simp only [List.map_toArray,List.map_cons,List.map_nil]);first|done|rfl|(simp only [List.length_drop,List.length_take];rfl)) ?_;(with_reducible refine (impl_Wire_shades.calls k a0_0 _ _ l0_1 _ _ l0_2 t298 _ ?side1 ?side2 ?side3 ?side4 A2.out).mono ?_);(case side1=>exact cm (C_below HR0_1.out HB.out));(case side2=>exact HC0_1.out);(case side3=>exact cm (C_below HR0_2.out HB.out));(case side4=>exact HC0_2.out);rintro e w9 ⟨v299,rfl,ho0,hb⟩;refine ⟨_,rfl,?_⟩;have n0_:=Aside0.mk (R_elder' (rm HO294.out) (R_base ho0) hb);have n1_:=Aside0.mk (R_elder' (rm HO297.out) (R_base ho0) hb);have n2_:=Aside0.mk (R_lower (R_new' (R_new' ho0 (R_lt (rm HO294.out))) (R_lt (rm HO297.out))) (below_size (h1 HB.out GE291.out)));have n3_:=Aside0.mk (blk_below (g:=gb291) (o:=.cells #[.int .i64 a0_0,.slice A0_1 l0_1.length c0_1,.slice A0_2 l0_2.length c0_2] 27 (0,0)) (bm BK291.out) hb);have n4_:=Aside0.mk (below_step (h1 HB.out GE291.out) hb);clear HO294;clear HO297;clear BK291;clear HB;have HO294:=n0_;have HO297:=n1_;have HO300:=n2_;have BK291:=n3_;have HB:=n4_;clear n0_ n1_ n2_ n3_ n4_;(try clear hb);(try clear hb2);(try clear hk);(try clear hi);(try clear ho0);obtain ⟨Ao10,co10,eo10⟩:=R_slice HO300.out;subst eo10))
 go_loopg [4,5,14] k (fun kq v4 v5 v14 w'=>∃ (x4_1 : List Int) (x5_1 : List Int) (x14_1 : Int),v14 = .int .i64 x14_1 ∧ Aside0 (impl_Wire_falls.l0 kq x4_1 x5_1 t298 (t298.length : Int) x14_1 a0_0 l0_1 l0_2 = some (r1,r2)) ∧ Aside0 (kq ≤ k) ∧ Aside0 (Kd.R (Kd.int .i64) 3 w' w.heap.size (fun k_=>some k_ ≠ (v5 : Value).ownBlock ∧ some k_ ≠ ((.slice Ao10 t298.length co10) : Value).ownBlock) v4 x4_1) ∧ Aside0 (Kd.R (Kd.int .i64) 3 w' w.heap.size (fun k_=>some k_ ≠ (v4 : Value).ownBlock ∧ some k_ ≠ ((.slice Ao10 t298.length co10) : Value).ownBlock) v5 x5_1) ∧ Aside0 (Kd.R (Kd.int .i64) 3 w' w.heap.size (fun k_=>some k_ ≠ (v4 : Value).ownBlock ∧ some k_ ≠ (v5 : Value).ownBlock) (.slice Ao10 t298.length co10) t298) ∧ Aside0 (w'.heap[gb291]? = some (.cells #[.int .i64 a0_0,(.slice A0_1 l0_1.length c0_1),(.slice A0_2 l0_2.length c0_2)] 27 (0,0))) ∧ Aside0 (Below w.heap.size w w'))
 case atStart=>exact ⟨(y292),(y295),(0),(by first|rfl|(simp;done)|(simp [*];done)),H',⟨Nat.le_refl _⟩,⟨rm (R_mono HO294.out (fun _ hk=>⟨hk.1.2,hk.2⟩))⟩,⟨rm (R_mono HO297.out (fun _ hk=>⟨hk.1.2,hk.2⟩))⟩,⟨rm (R_mono HO300.out (fun _ hk=>⟨hk.1.2,hk.2⟩))⟩,⟨bm BK291.out⟩,⟨h1 HB.out GE291.out⟩⟩
 clear H'
 try clear p2
 try clear c4
 try clear c5
 try clear hcz8_0
 try clear hcz8_1
 try clear hcz8_2
 try clear hfz8_0
 try clear hfz8_1
 try clear hfz8_2
 obtain ⟨x4_1,x5_1,x14_1,rfl,HA,HK1,HO_4,HO_5,HO_12,BK291,HB⟩:=hrel
 cases gk with
 | zero=>exact absurd HA.out (by simp [impl_Wire_falls.l0])
 | succ k1 =>
  have H:=HA.out
  clear HA
  simp only [impl_Wire_falls.l0] at H
  by_cases c11 : x14_1 < (t298.length : Int)
  ·rw [if_pos c11] at H
   have c11b0 : decide (x14_1 < (t298.length : Int)) = true:=decide_eq_true c11
   clear c11
   by_cases c12 : 0 ≤ x14_1
   rotate_left
   ·rw [if_neg c12] at H
    exact absurd H (by simp)
   rw [if_pos c12] at H
   have c12b0 : decide (0 ≤ x14_1) = true:=decide_eq_true c12
   clear c12
   by_cases c13 : x14_1 < (t298.length : Int)
   rotate_left
   ·rw [if_neg c13] at H
    exact absurd H (by simp)
   rw [if_pos c13] at H
   have c13b0 : decide (x14_1 < (t298.length : Int)) = true:=decide_eq_true c13
   clear c13
   by_cases c14 : x14_1 < (l0_2.length : Int)
   rotate_left
   ·rw [if_neg c14] at H
    exact absurd H (by simp)
   rw [if_pos c14] at H
   have c14b0 : decide (x14_1 < (l0_2.length : Int)) = true:=decide_eq_true c14
   clear c14
   by_cases c15 : (rd l0_2 x14_1) < 0
   rotate_left
   ·rw [if_neg c15] at H
    have c15b0 : decide ((rd l0_2 x14_1) < 0) = false:=decide_eq_false c15
    clear c15
    by_cases c19 : x5_1.length < 17592186044416
    rotate_left
    ·rw [if_neg c19] at H
     exact absurd H (by simp)
    rw [if_pos c19] at H
    have LMc19:=Aside0.mk c19
    clear c19
    obtain ⟨y306,hy306⟩ : ∃ y_ : List Int,y_ = (x5_1 ++ [rd t298 x14_1]):=⟨_,rfl⟩
    replace H : (impl_Wire_falls.l0 k1 x4_1 y306 t298 (t298.length : Int) (wrap64 (x14_1 + 1)) a0_0 l0_1 l0_2) = some (r1,r2):=by first|(rw [hy306];with_reducible exact H)|(have H2_:=(Option.bind_some _ _).symm.trans H;rw [hy306];with_reducible exact H2_)|(have H2_:=(Option.bind_some _ _).symm.trans H;with_reducible exact H2_)|with_reducible exact H|(rw [hy306];exact H)|exact H
    have Ny306:=Aside0.mk hy306
    clear hy306
    have H':=Aside0.mk H
    clear H
    have p301 : 0 ≤ (x14_1 : Int):=od
    have q301 : x14_1 < (t298.length : Int):=od
    obtain ⟨ad301,e301,hx301_0⟩:=Kd.at_int (R_reads' HO_12.out).2.2 x14_1 p301 q301
    cases e301
    replace p301:=eq_true p301
    replace q301:=eq_true q301
    have hcz20_0 : wr.cell? ⟨gb291,0,none⟩ = some (.int .i64 a0_0):=(blk_cell BK291.out 0).trans rfl
    have hcz20_1 : wr.cell? ⟨gb291,1,none⟩ = some (.slice A0_1 l0_1.length c0_1):=(blk_cell BK291.out 1).trans rfl
    have hcz20_2 : wr.cell? ⟨gb291,2,none⟩ = some (.slice A0_2 l0_2.length c0_2):=(blk_cell BK291.out 2).trans rfl
    have hfz20_0:=blk_frozen BK291.out 0
    have hfz20_1:=blk_frozen BK291.out 1
    have hfz20_2:=blk_frozen BK291.out 2
    have p302 : 0 ≤ (x14_1 : Int):=od
    have q302 : x14_1 < (l0_2.length : Int):=od
    obtain ⟨ad302,e302,hx302_0⟩:=Kd.at_int HR0_2.out x14_1 p302 q302
    cases e302
    replace hx302_0:=(HB.out.cell (World.block_lt_of_cell? w _ hx302_0)).trans hx302_0
    replace p302:=eq_true p302
    replace q302:=eq_true q302
    go_wp2_with (first|((with_reducible refine gate_builtin (b:=.append) (xs:=#[.tmp 29,.tmp 31]) rfl ?_);at_builtin;refine R_append (Kd.int .i64) (w0:=w) w.heap.size rfl (.tmp 29) (.tmp 31) 22 3 (.int .i64 0) 8 rfl Try.underlying22 info3 rfl (by decide) (by omega) u5 x5_1 (rd t298 x14_1) [.int .i64 (rd t298 x14_1)] (fun k_=>some k_ ≠ (u4 : Value).ownBlock ∧ some k_ ≠ (.slice (some ad301) t298.length co10 : Value).ownBlock) (fun _=>False) rfl rfl ?aP (fun _ hk=>hk.elim) ?aF ?aO ?aB ?aS ?aL ?_;(case aP=>exact rfl);(case aB=>exact (h1 HB.out GE291.out));(case aF=>exact (fun k_ hk=>⟨Kd.fresh' (R_lt (rm HO_4.out)) k_ hk,Kd.fresh' (R_lt (rm HO_12.out)) k_ hk⟩));(case aO=>exact (rm HO_5.out));(case aS=>exact (below_size (h1 HB.out GE291.out)));(case aL=>have:=LMc19.out;omega);intro v307 w21 ho hb hg hat;rw [← Ny306.out] at ho;have n0_:=Aside0.mk (R_after (ok:=(fun k_=>some k_ ≠ (.slice (some ad301) t298.length co10 : Value).ownBlock)) (rm (R_mono HO_4.out (fun _ hk=>⟨hk.2,hk.1⟩))) hg hat);have n1_:=Aside0.mk (R_after (ok:=(fun k_=>some k_ ≠ (u4 : Value).ownBlock)) (rm HO_12.out) hg hat);have n2_:=Aside0.mk (blk_grown (g:=gb291) (o:=.cells #[.int .i64 a0_0,.slice A0_1 l0_1.length c0_1,.slice (some ad302) l0_2.length c0_2] 27 (0,0)) (bm BK291.out) hg (R_ne HO_5.out BK291.out (by decide)));have n3_:=Aside0.mk (hb);have n4_:=Aside0.mk (ho);clear HO_4;clear HO_12;clear BK291;clear HB;clear HO_5;have HO_4:=n0_;have HO_12:=n1_;have BK291:=n2_;have HB:=n3_;have HO308:=n4_;clear n0_ n1_ n2_ n3_ n4_;clear ho hb hg hat))
    go_roundg k1
    case measure=>have:=HK1.out;omega
    case rel=>exact ⟨(x4_1),(y306),(wrap64 (x14_1 + 1)),(by first|rfl|(simp;done)|(simp [*];done)),H',⟨by have:=HK1.out;omega⟩,⟨rm (R_mono HO_4.out (fun _ hk=>⟨hk.2,hk.1⟩))⟩,⟨rm HO308.out⟩,⟨rm HO_12.out⟩,⟨bm BK291.out⟩,⟨h1 HB.out GE291.out⟩⟩
   rw [if_pos c15] at H
   have c15b0 : decide ((rd l0_2 x14_1) < 0) = true:=decide_eq_true c15
   clear c15
   by_cases c16 : x4_1.length < 17592186044416
   rotate_left
   ·rw [if_neg c16] at H
    exact absurd H (by simp)
   rw [if_pos c16] at H
   have LMc16:=Aside0.mk c16
   clear c16
   obtain ⟨y303,hy303⟩ : ∃ y_ : List Int,y_ = (x4_1 ++ [rd t298 x14_1]):=⟨_,rfl⟩
   replace H : (impl_Wire_falls.l0 k1 y303 x5_1 t298 (t298.length : Int) (wrap64 (x14_1 + 1)) a0_0 l0_1 l0_2) = some (r1,r2):=by first|(rw [hy303];with_reducible exact H)|(have H2_:=(Option.bind_some _ _).symm.trans H;rw [hy303];with_reducible exact H2_)|(have H2_:=(Option.bind_some _ _).symm.trans H;with_reducible exact H2_)|with_reducible exact H|(rw [hy303];exact H)|exact H
   have Ny303:=Aside0.mk hy303
   clear hy303
   have H':=Aside0.mk H
   clear H
   have p301 : 0 ≤ (x14_1 : Int):=od
   have q301 : x14_1 < (t298.length : Int):=od
   obtain ⟨ad301,e301,hx301_0⟩:=Kd.at_int (R_reads' HO_12.out).2.2 x14_1 p301 q301
   cases e301
   replace p301:=eq_true p301
   replace q301:=eq_true q301
   have hcz17_0 : wr.cell? ⟨gb291,0,none⟩ = some (.int .i64 a0_0):=(blk_cell BK291.out 0).trans rfl
   have hcz17_1 : wr.cell? ⟨gb291,1,none⟩ = some (.slice A0_1 l0_1.length c0_1):=(blk_cell BK291.out 1).trans rfl
   have hcz17_2 : wr.cell? ⟨gb291,2,none⟩ = some (.slice A0_2 l0_2.length c0_2):=(blk_cell BK291.out 2).trans rfl
   have hfz17_0:=blk_frozen BK291.out 0
   have hfz17_1:=blk_frozen BK291.out 1
   have hfz17_2:=blk_frozen BK291.out 2
   have p302 : 0 ≤ (x14_1 : Int):=od
   have q302 : x14_1 < (l0_2.length : Int):=od
   obtain ⟨ad302,e302,hx302_0⟩:=Kd.at_int HR0_2.out x14_1 p302 q302
   cases e302
   replace hx302_0:=(HB.out.cell (World.block_lt_of_cell? w _ hx302_0)).trans hx302_0
   replace p302:=eq_true p302
   replace q302:=eq_true q302
   go_wp2_with (first|((with_reducible refine gate_builtin (b:=.append) (xs:=#[.tmp 25,.tmp 27]) rfl ?_);at_builtin;refine R_append (Kd.int .i64) (w0:=w) w.heap.size rfl (.tmp 25) (.tmp 27) 22 3 (.int .i64 0) 8 rfl Try.underlying22 info3 rfl (by decide) (by omega) u4 x4_1 (rd t298 x14_1) [.int .i64 (rd t298 x14_1)] (fun k_=>some k_ ≠ (u5 : Value).ownBlock ∧ some k_ ≠ (.slice (some ad301) t298.length co10 : Value).ownBlock) (fun _=>False) rfl rfl ?aP (fun _ hk=>hk.elim) ?aF ?aO ?aB ?aS ?aL ?_;(case aP=>exact rfl);(case aB=>exact (h1 HB.out GE291.out));(case aF=>exact (fun k_ hk=>⟨Kd.fresh' (R_lt (rm HO_5.out)) k_ hk,Kd.fresh' (R_lt (rm HO_12.out)) k_ hk⟩));(case aO=>exact (rm HO_4.out));(case aS=>exact (below_size (h1 HB.out GE291.out)));(case aL=>have:=LMc16.out;omega);intro v304 w18 ho hb hg hat;rw [← Ny303.out] at ho;have n0_:=Aside0.mk (R_after (ok:=(fun k_=>some k_ ≠ (.slice (some ad301) t298.length co10 : Value).ownBlock)) (rm (R_mono HO_5.out (fun _ hk=>⟨hk.2,hk.1⟩))) hg hat);have n1_:=Aside0.mk (R_after (ok:=(fun k_=>some k_ ≠ (u5 : Value).ownBlock)) (rm (R_mono HO_12.out (fun _ hk=>⟨hk.2,hk.1⟩))) hg hat);have n2_:=Aside0.mk (blk_grown (g:=gb291) (o:=.cells #[.int .i64 a0_0,.slice A0_1 l0_1.length c0_1,.slice (some ad302) l0_2.length c0_2] 27 (0,0)) (bm BK291.out) hg (R_ne HO_4.out BK291.out (by decide)));have n3_:=Aside0.mk (hb);have n4_:=Aside0.mk (ho);clear HO_5;clear HO_12;clear BK291;clear HB;clear HO_4;have HO_5:=n0_;have HO_12:=n1_;have BK291:=n2_;have HB:=n3_;have HO305:=n4_;clear n0_ n1_ n2_ n3_ n4_;clear ho hb hg hat))
   go_roundg k1
   case measure=>have:=HK1.out;omega
   case rel=>exact ⟨(y303),(x5_1),(wrap64 (x14_1 + 1)),(by first|rfl|(simp;done)|(simp [*];done)),H',⟨by have:=HK1.out;omega⟩,⟨rm HO305.out⟩,⟨rm (R_mono HO_5.out (fun _ hk=>⟨hk.2,hk.1⟩))⟩,⟨rm (R_mono HO_12.out (fun _ hk=>⟨hk.2,hk.1⟩))⟩,⟨bm BK291.out⟩,⟨h1 HB.out GE291.out⟩⟩
  rw [if_neg c11] at H
  have c11b0 : decide (x14_1 < (t298.length : Int)) = false:=decide_eq_false c11
  clear c11
  replace H:=Option.bind_eq_some_iff.mp H
  obtain ⟨t309,A220,H⟩:=H
  replace H : ((slices_Sort_int_int.f k1 x5_1).bind fun t310=>((slices_Reverse_int_int.f k1 t310).bind fun t311=>((slices_Repeat_int_int.f k1 (([(-1)] : List Int)) (x4_1.length : Int)).bind fun t315=>((slices_Repeat_int_int.f k1 (([1] : List Int)) (x5_1.length : Int)).bind fun t321=>(if t315.length + t321.length < 17592186044416 then (if t309.length + t311.length < 17592186044416 then (some ((t309 ++ t311),(t315 ++ t321))) else (none)) else (none)))))) = some (r1,r2):=H
  have A22:=Aside0.mk A220
  clear A220
  replace H:=Option.bind_eq_some_iff.mp H
  obtain ⟨t310,A230,H⟩:=H
  replace H : ((slices_Reverse_int_int.f k1 t310).bind fun t311=>((slices_Repeat_int_int.f k1 (([(-1)] : List Int)) (x4_1.length : Int)).bind fun t315=>((slices_Repeat_int_int.f k1 (([1] : List Int)) (x5_1.length : Int)).bind fun t321=>(if t315.length + t321.length < 17592186044416 then (if t309.length + t311.length < 17592186044416 then (some ((t309 ++ t311),(t315 ++ t321))) else (none)) else (none))))) = some (r1,r2):=H
  have A23:=Aside0.mk A230
  clear A230
  replace H:=Option.bind_eq_some_iff.mp H
  obtain ⟨t311,A240,H⟩:=H
  replace H : ((slices_Repeat_int_int.f k1 (([(-1)] : List Int)) (x4_1.length : Int)).bind fun t315=>((slices_Repeat_int_int.f k1 (([1] : List Int)) (x5_1.length : Int)).bind fun t321=>(if t315.length + t321.length < 17592186044416 then (if t309.length + t311.length < 17592186044416 then (some ((t309 ++ t311),(t315 ++ t321))) else (none)) else (none)))) = some (r1,r2):=H
  have A24:=Aside0.mk A240
  clear A240
  obtain ⟨y312,hy312⟩ : ∃ y_ : List Int,y_ = (([(-1)] : List Int)):=⟨_,rfl⟩
  replace H : ((slices_Repeat_int_int.f k1 y312 (x4_1.length : Int)).bind fun t315=>((slices_Repeat_int_int.f k1 (([1] : List Int)) (x5_1.length : Int)).bind fun t321=>(if t315.length + t321.length < 17592186044416 then (if t309.length + t311.length < 17592186044416 then (some ((t309 ++ t311),(t315 ++ t321))) else (none)) else (none)))) = some (r1,r2):=by first|(rw [hy312];with_reducible exact H)|(have H2_:=(Option.bind_some _ _).symm.trans H;rw [hy312];with_reducible exact H2_)|(have H2_:=(Option.bind_some _ _).symm.trans H;with_reducible exact H2_)|with_reducible exact H|(rw [hy312];exact H)|exact H
  have Ny312:=Aside0.mk hy312
  clear hy312
  replace H:=Option.bind_eq_some_iff.mp H
  obtain ⟨t315,A250,H⟩:=H
  replace H : ((slices_Repeat_int_int.f k1 (([1] : List Int)) (x5_1.length : Int)).bind fun t321=>(if t315.length + t321.length < 17592186044416 then (if t309.length + t311.length < 17592186044416 then (some ((t309 ++ t311),(t315 ++ t321))) else (none)) else (none))) = some (r1,r2):=H
  have A25:=Aside0.mk A250
  clear A250
  obtain ⟨y318,hy318⟩ : ∃ y_ : List Int,y_ = (([1] : List Int)):=⟨_,rfl⟩
  replace H : ((slices_Repeat_int_int.f k1 y318 (x5_1.length : Int)).bind fun t321=>(if t315.length + t321.length < 17592186044416 then (if t309.length + t311.length < 17592186044416 then (some ((t309 ++ t311),(t315 ++ t321))) else (none)) else (none))) = some (r1,r2):=by first|(rw [hy318];with_reducible exact H)|(have H2_:=(Option.bind_some _ _).symm.trans H;rw [hy318];with_reducible exact H2_)|(have H2_:=(Option.bind_some _ _).symm.trans H;with_reducible exact H2_)|with_reducible exact H|(rw [hy318];exact H)|exact H
  have Ny318:=Aside0.mk hy318
  clear hy318
  replace H:=Option.bind_eq_some_iff.mp H
  obtain ⟨t321,A260,H⟩:=H
  replace H : (if t315.length + t321.length < 17592186044416 then (if t309.length + t311.length < 17592186044416 then (some ((t309 ++ t311),(t315 ++ t321))) else (none)) else (none)) = some (r1,r2):=H
  have A26:=Aside0.mk A260
  clear A260
  by_cases c27 : t315.length + t321.length < 17592186044416
  rotate_left
  ·rw [if_neg c27] at H
   exact absurd H (by simp)
  rw [if_pos c27] at H
  have LMc27:=Aside0.mk c27
  clear c27
  obtain ⟨y324,hy324⟩ : ∃ y_ : List Int,y_ = (t315 ++ t321):=⟨_,rfl⟩
  replace H : (if t309.length + t311.length < 17592186044416 then (some ((t309 ++ t311),y324)) else (none)) = some (r1,r2):=by first|(rw [hy324];with_reducible exact H)|(have H2_:=(Option.bind_some _ _).symm.trans H;rw [hy324];with_reducible exact H2_)|(have H2_:=(Option.bind_some _ _).symm.trans H;with_reducible exact H2_)|with_reducible exact H|(rw [hy324];exact H)|exact H
  have Ny324:=Aside0.mk hy324
  clear hy324
  by_cases c28 : t309.length + t311.length < 17592186044416
  rotate_left
  ·rw [if_neg c28] at H
   exact absurd H (by simp)
  rw [if_pos c28] at H
  have LMc28:=Aside0.mk c28
  clear c28
  obtain ⟨y327,hy327⟩ : ∃ y_ : List Int,y_ = (t309 ++ t311):=⟨_,rfl⟩
  replace H : (some (y327,y324)) = some (r1,r2):=by first|(rw [hy327];with_reducible exact H)|(have H2_:=(Option.bind_some _ _).symm.trans H;rw [hy327];with_reducible exact H2_)|(have H2_:=(Option.bind_some _ _).symm.trans H;with_reducible exact H2_)|with_reducible exact H|(rw [hy327];exact H)|exact H
  have Ny327:=Aside0.mk hy327
  clear hy327
  simp only [Option.some.injEq,Prod.mk.injEq] at H
  obtain ⟨rfl,rfl⟩:=H
  obtain ⟨Ao29,co29,eo29⟩:=R_slice HO_4.out
  subst eo29
  go_wp2_with (first|((with_reducible refine gate_callee (f:=54) rfl ?_);refine goesL_ (some 35) rfl rfl Try.func54 (by kernel_rfl) rfl #[.slice Ao29 x4_1.length co29] rfl (by (try simp only [List.map_toArray,List.map_cons,List.map_nil]);first|done|rfl|(simp only [List.length_drop,List.length_take];rfl)) ?_;(with_reducible refine (slices_Sort_int_int.calls k1 (fun k_=>some k_ = (.slice Ao29 x4_1.length co29 : Value).ownBlock) (.slice Ao29 x4_1.length co29) x4_1 t309 w _ ?side1 ?side2 A22.out).mono ?_);(case side1=>repeat (first|(with_reducible first|exact HB.out|apply below_alloc|apply pw_below_drewN|apply below_drew1|refine below_set ?_ GE291.out)|exact HB.out));(case side2=>exact R_tight rfl HO_4.out);rintro e w30 ⟨rfl,hy0,hb,hkp⟩;refine ⟨_,rfl,?_⟩;have n0_:=Aside0.mk (R_reok rfl hy0 (fun k_ e_=>HO_4.out.1 k_ e_));have n1_:=Aside0.mk (R_mono (ok':=fun k_=>some k_ ≠ (.slice Ao29 x4_1.length co29 : Value).ownBlock ∧ some k_ ≠ (.slice Ao10 t298.length co10 : Value).ownBlock) (R_keptB (HO_5.out) hkp (fun k_ hk_ hs_=>(hk_.1) hs_)) (fun k_ hk_=>⟨hk_.1.1,hk_.1.2⟩));have n2_:=Aside0.mk (R_mono (ok':=fun k_=>some k_ ≠ (.slice Ao29 x4_1.length co29 : Value).ownBlock ∧ some k_ ≠ (u5 : Value).ownBlock) (R_keptB (HO_12.out) hkp (fun k_ hk_ hs_=>(hk_.1) hs_)) (fun k_ hk_=>⟨hk_.1.1,hk_.1.2⟩));have n3_:=Aside0.mk (blk_kept (bm BK291.out) hkp (fun hs_=>(fun e_=>(R_ne HO_4.out BK291.out (by decide)) e_) hs_));have n4_:=Aside0.mk (hb);clear HO_4;clear HO_5;clear HO_12;clear BK291;clear HB;have HO_4:=n0_;have HO_5:=n1_;have HO_12:=n2_;have BK291:=n3_;have HB:=n4_;clear n0_ n1_ n2_ n3_ n4_;(try clear hb);(try clear hkp);(try clear hy0);obtain ⟨Ao31,co31,eo31⟩:=R_slice HO_5.out;subst eo31)|((with_reducible refine gate_callee (f:=54) rfl ?_);refine goesL_ (some 37) rfl rfl Try.func54 (by kernel_rfl) rfl #[.slice Ao31 x5_1.length co31] rfl (by (try simp only [List.map_toArray,List.map_cons,List.map_nil]);first|done|rfl|(simp only [List.length_drop,List.length_take];rfl)) ?_;(with_reducible refine (slices_Sort_int_int.calls k1 (fun k_=>some k_ = (.slice Ao31 x5_1.length co31 : Value).ownBlock) (.slice Ao31 x5_1.length co31) x5_1 t310 w _ ?side1 ?side2 A23.out).mono ?_);(case side1=>repeat (first|(with_reducible first|exact HB.out|apply below_alloc|apply pw_below_drewN|apply below_drew1|refine below_set ?_ GE291.out)|exact HB.out));(case side2=>exact R_tight rfl HO_5.out);rintro e w32 ⟨rfl,hy0,hb,hkp⟩;refine ⟨_,rfl,?_⟩;have n0_:=Aside0.mk (R_mono (ok':=fun k_=>some k_ ≠ (.slice Ao31 x5_1.length co31 : Value).ownBlock ∧ some k_ ≠ (.slice Ao10 t298.length co10 : Value).ownBlock) (R_keptB (HO_4.out) hkp (fun k_ hk_ hs_=>(hk_.1) hs_)) (fun k_ hk_=>⟨hk_.1.1,hk_.1.2⟩));have n1_:=Aside0.mk (R_reok rfl hy0 (fun k_ e_=>HO_5.out.1 k_ e_));have n2_:=Aside0.mk (R_mono (ok':=fun k_=>some k_ ≠ (.slice Ao29 x4_1.length co29 : Value).ownBlock ∧ some k_ ≠ (.slice Ao31 x5_1.length co31 : Value).ownBlock) (R_keptB (HO_12.out) hkp (fun k_ hk_ hs_=>(hk_.2) hs_)) (fun k_ hk_=>⟨hk_.1.1,hk_.1.2⟩));have n3_:=Aside0.mk (blk_kept (bm BK291.out) hkp (fun hs_=>(fun e_=>(R_ne HO_5.out BK291.out (by decide)) e_) hs_));have n4_:=Aside0.mk (hb);clear HO_4;clear HO_5;clear HO_12;clear BK291;clear HB;have HO_4:=n0_;have HO_5:=n1_;have HO_12:=n2_;have BK291:=n3_;have HB:=n4_;clear n0_ n1_ n2_ n3_ n4_;(try clear hb);(try clear hkp);(try clear hy0))|((with_reducible refine gate_callee (f:=51) rfl ?_);refine goesL_ (some 39) rfl rfl Try.func51 (by kernel_rfl) rfl #[.slice Ao31 x5_1.length co31] rfl (by (try simp only [List.map_toArray,List.map_cons,List.map_nil]);first|done|rfl|(simp only [List.length_drop,List.length_take];rfl)) ?_;(with_reducible refine (slices_Reverse_int_int.calls k1 (fun k_=>some k_ = (.slice Ao31 x5_1.length co31 : Value).ownBlock) (.slice Ao31 x5_1.length co31) t310 t311 w _ ?side1 ?side2 A24.out).mono ?_);(case side1=>repeat (first|(with_reducible first|exact HB.out|apply below_alloc|apply pw_below_drewN|apply below_drew1|refine below_set ?_ GE291.out)|exact HB.out));(case side2=>exact R_tight rfl HO_5.out);rintro e w33 ⟨rfl,hy0,hb,hkp⟩;refine ⟨_,rfl,?_⟩;have n0_:=Aside0.mk (R_mono (ok':=fun k_=>some k_ ≠ (.slice Ao31 x5_1.length co31 : Value).ownBlock ∧ some k_ ≠ (.slice Ao10 t298.length co10 : Value).ownBlock) (R_keptB (HO_4.out) hkp (fun k_ hk_ hs_=>(hk_.1) hs_)) (fun k_ hk_=>⟨hk_.1.1,hk_.1.2⟩));have n1_:=Aside0.mk (R_reok rfl hy0 (fun k_ e_=>HO_5.out.1 k_ e_));have n2_:=Aside0.mk (R_mono (ok':=fun k_=>some k_ ≠ (.slice Ao29 x4_1.length co29 : Value).ownBlock ∧ some k_ ≠ (.slice Ao31 x5_1.length co31 : Value).ownBlock) (R_keptB (HO_12.out) hkp (fun k_ hk_ hs_=>(hk_.2) hs_)) (fun k_ hk_=>⟨hk_.1.1,hk_.1.2⟩));have n3_:=Aside0.mk (blk_kept (bm BK291.out) hkp (fun hs_=>(fun e_=>(R_ne HO_5.out BK291.out (by decide)) e_) hs_));have n4_:=Aside0.mk (hb);clear HO_4;clear HO_5;clear HO_12;clear BK291;clear HB;have HO_4:=n0_;have HO_5:=n1_;have HO_12:=n2_;have BK291:=n3_;have HB:=n4_;clear n0_ n1_ n2_ n3_ n4_;(try clear hb);(try clear hkp);(try clear hy0))|((with_reducible refine gate_dst (N:=40) rfl ?_);refine R_lit (Kd.int .i64) _ 3 ?hg (N:=40) ?hd (xs:=([(-1)] : List Int)) (inner:=[.int .i64 (-1)]) (ok:=fun _=>True) (okp:=fun _=>True) ?hr ?hp (fun _ hk=>hk) trivial (Below.refl _ _) (Nat.le_refl _) (by simp) ?_;(case hd=>rfl);(case hg=>rfl);(case hr=>first|(go_simp;done)|(go_simp;rfl));(case hp=>exact (Reps.one (show Kd.M (Kd.int .i64) _ _ _ (-1) [.int .i64 (-1)] from rfl) (Reps.none _ _)));intro v313 w34 ho35 hb hg_ hnew_;clear hg_ hnew_;(first|rw [← Ny312.out] at ho35|(simp only [Int.reduceToNat] at ho35;rw [← Ny312.out] at ho35));have n0_:=Aside0.mk (R_elder' (rm HO_4.out) (R_base ho35) hb);have n1_:=Aside0.mk (R_elder' (rm HO_5.out) (R_base ho35) hb);have n2_:=Aside0.mk (R_elder' (rm HO_12.out) (R_base ho35) hb);have n3_:=Aside0.mk (R_lower (R_new' (R_new' (R_new' ho35 (R_lt (rm HO_4.out))) (R_lt (rm HO_5.out))) (R_lt (rm HO_12.out))) (below_size (h1 HB.out GE291.out)));have n4_:=Aside0.mk (blk_below (g:=gb291) (o:=.cells #[.int .i64 a0_0,.slice A0_1 l0_1.length c0_1,.slice A0_2 l0_2.length c0_2] 27 (0,0)) (bm BK291.out) hb);have n5_:=Aside0.mk (below_step (h1 HB.out GE291.out) hb);clear HO_4;clear HO_5;clear HO_12;clear BK291;clear HB;have HO_4:=n0_;have HO_5:=n1_;have HO_12:=n2_;have HO314:=n3_;have BK291:=n4_;have HB:=n5_;clear n0_ n1_ n2_ n3_ n4_ n5_;clear hb ho35;obtain ⟨Ao36,co36,eo36⟩:=R_slice HO314.out;subst eo36)|((with_reducible refine gate_callee (f:=59) rfl ?_);refine goesL_ (some 43) rfl rfl Try.func59 (by kernel_rfl) rfl #[.slice Ao36 y312.length co36,.int .i64 (x4_1.length : Int)] rfl (by (try simp only [List.map_toArray,List.map_cons,List.map_nil]);first|done|rfl|(simp only [List.length_drop,List.length_take];rfl)) ?_;(with_reducible refine (slices_Repeat_int_int.calls k1 _ _ y312 (x4_1.length : Int) t315 _ ?side1 ?side2 A25.out).mono ?_);(case side1=>exact cm (R_reads' HO314.out).2.2);(case side2=>exact (R_reads' HO314.out).2.1);rintro e w37 ⟨v316,rfl,ho0,hb⟩;refine ⟨_,rfl,?_⟩;have n0_:=Aside0.mk (R_elder' (rm HO_4.out) (R_base ho0) hb);have n1_:=Aside0.mk (R_elder' (rm HO_5.out) (R_base ho0) hb);have n2_:=Aside0.mk (R_elder' (rm HO_12.out) (R_base ho0) hb);have n3_:=Aside0.mk (R_elder' (rm HO314.out) (R_base ho0) hb);have n4_:=Aside0.mk (R_lower (R_new' (R_new' (R_new' (R_new' ho0 (R_lt (rm HO_4.out))) (R_lt (rm HO_5.out))) (R_lt (rm HO_12.out))) (R_lt (rm HO314.out))) (below_size (h1 HB.out GE291.out)));have n5_:=Aside0.mk (blk_below (g:=gb291) (o:=.cells #[.int .i64 a0_0,.slice A0_1 l0_1.length c0_1,.slice A0_2 l0_2.length c0_2] 27 (0,0)) (bm BK291.out) hb);have n6_:=Aside0.mk (below_step (h1 HB.out GE291.out) hb);clear HO_4;clear HO_5;clear HO_12;clear HO314;clear BK291;clear HB;have HO_4:=n0_;have HO_5:=n1_;have HO_12:=n2_;have HO314:=n3_;have HO317:=n4_;have BK291:=n5_;have HB:=n6_;clear n0_ n1_ n2_ n3_ n4_ n5_ n6_;(try clear hb);(try clear hb2);(try clear hk);(try clear hi);(try clear ho0))|((with_reducible refine gate_dst (N:=44) rfl ?_);refine R_lit (Kd.int .i64) _ 3 ?hg (N:=44) ?hd (xs:=([1] : List Int)) (inner:=[.int .i64 1]) (ok:=fun _=>True) (okp:=fun _=>True) ?hr ?hp (fun _ hk=>hk) trivial (Below.refl _ _) (Nat.le_refl _) (by simp) ?_;(case hd=>rfl);(case hg=>rfl);(case hr=>first|(go_simp;done)|(go_simp;rfl));(case hp=>exact (Reps.one (show Kd.M (Kd.int .i64) _ _ _ 1 [.int .i64 1] from rfl) (Reps.none _ _)));intro v319 w38 ho39 hb hg_ hnew_;clear hg_ hnew_;(first|rw [← Ny318.out] at ho39|(simp only [Int.reduceToNat] at ho39;rw [← Ny318.out] at ho39));have n0_:=Aside0.mk (R_elder' (rm HO_4.out) (R_base ho39) hb);have n1_:=Aside0.mk (R_elder' (rm HO_5.out) (R_base ho39) hb);have n2_:=Aside0.mk (R_elder' (rm HO_12.out) (R_base ho39) hb);have n3_:=Aside0.mk (R_elder' (rm HO314.out) (R_base ho39) hb);have n4_:=Aside0.mk (R_elder' (rm HO317.out) (R_base ho39) hb);have n5_:=Aside0.mk (R_lower (R_new' (R_new' (R_new' (R_new' (R_new' ho39 (R_lt (rm HO_4.out))) (R_lt (rm HO_5.out))) (R_lt (rm HO_12.out))) (R_lt (rm HO314.out))) (R_lt (rm HO317.out))) (below_size (h1 HB.out GE291.out)));have n6_:=Aside0.mk (blk_below (g:=gb291) (o:=.cells #[.int .i64 a0_0,.slice A0_1 l0_1.length c0_1,.slice A0_2 l0_2.length c0_2] 27 (0,0)) (bm BK291.out) hb);have n7_:=Aside0.mk (below_step (h1 HB.out GE291.out) hb);clear HO_4;clear HO_5;clear HO_12;clear HO314;clear HO317;clear BK291;clear HB;have HO_4:=n0_;have HO_5:=n1_;have HO_12:=n2_;have HO314:=n3_;have HO317:=n4_;have HO320:=n5_;have BK291:=n6_;have HB:=n7_;clear n0_ n1_ n2_ n3_ n4_ n5_ n6_ n7_;clear hb ho39;obtain ⟨Ao40,co40,eo40⟩:=R_slice HO320.out;subst eo40)|((with_reducible refine gate_callee (f:=59) rfl ?_);refine goesL_ (some 47) rfl rfl Try.func59 (by kernel_rfl) rfl #[.slice Ao40 y318.length co40,.int .i64 (x5_1.length : Int)] rfl (by (try simp only [List.map_toArray,List.map_cons,List.map_nil]);first|done|rfl|(simp only [List.length_drop,List.length_take];rfl)) ?_;(with_reducible refine (slices_Repeat_int_int.calls k1 _ _ y318 (x5_1.length : Int) t321 _ ?side1 ?side2 A26.out).mono ?_);(case side1=>exact cm (R_reads' HO320.out).2.2);(case side2=>exact (R_reads' HO320.out).2.1);rintro e w41 ⟨v322,rfl,ho0,hb⟩;refine ⟨_,rfl,?_⟩;have n0_:=Aside0.mk (R_elder' (rm HO_4.out) (R_base ho0) hb);have n1_:=Aside0.mk (R_elder' (rm HO_5.out) (R_base ho0) hb);have n2_:=Aside0.mk (R_elder' (rm HO_12.out) (R_base ho0) hb);have n3_:=Aside0.mk (R_elder' (rm HO314.out) (R_base ho0) hb);have n4_:=Aside0.mk (R_elder' (rm HO317.out) (R_base ho0) hb);have n5_:=Aside0.mk (R_elder' (rm HO320.out) (R_base ho0) hb);have n6_:=Aside0.mk (R_lower (R_new' (R_new' (R_new' (R_new' (R_new' (R_new' ho0 (R_lt (rm HO_4.out))) (R_lt (rm HO_5.out))) (R_lt (rm HO_12.out))) (R_lt (rm HO314.out))) (R_lt (rm HO317.out))) (R_lt (rm HO320.out))) (below_size (h1 HB.out GE291.out)));have n7_:=Aside0.mk (blk_below (g:=gb291) (o:=.cells #[.int .i64 a0_0,.slice A0_1 l0_1.length c0_1,.slice A0_2 l0_2.length c0_2] 27 (0,0)) (bm BK291.out) hb);have n8_:=Aside0.mk (below_step (h1 HB.out GE291.out) hb);clear HO_4;clear HO_5;clear HO_12;clear HO314;clear HO317;clear HO320;clear BK291;clear HB;have HO_4:=n0_;have HO_5:=n1_;have HO_12:=n2_;have HO314:=n3_;have HO317:=n4_;have HO320:=n5_;have HO323:=n6_;have BK291:=n7_;have HB:=n8_;clear n0_ n1_ n2_ n3_ n4_ n5_ n6_ n7_ n8_;(try clear hb);(try clear hb2);(try clear hk);(try clear hi);(try clear ho0);obtain ⟨Ao43,co43,eo43⟩:=R_slice HO323.out;subst eo43)|((with_reducible refine gate_builtin (b:=.append) (xs:=#[.tmp 43,.tmp 47]) rfl ?_);at_builtin;refine R_append_rows (Kd.int .i64) (w0:=w) w.heap.size rfl (.tmp 43) (.tmp 47) 22 3 (.int .i64 0) 8 rfl Try.underlying22 info3 rfl (by decide) (by omega) v316 t315 t321 _ _ _ (fun k_=>some k_ ≠ (.slice Ao29 x4_1.length co29 : Value).ownBlock ∧ some k_ ≠ (.slice Ao31 x5_1.length co31 : Value).ownBlock ∧ some k_ ≠ (.slice Ao10 t298.length co10 : Value).ownBlock ∧ some k_ ≠ (.slice Ao36 y312.length co36 : Value).ownBlock ∧ some k_ ≠ (.slice Ao40 y318.length co40 : Value).ownBlock ∧ some k_ ≠ (.slice Ao43 t321.length co43 : Value).ownBlock) (fun _=>False) rfl rfl ?aO ?aR (fun _ _ h=>h) (fun _ h=>h.elim) ?aF ?aB ?aS ?aL ?_;(case aR=>exact cm (R_reads' HO323.out).2.2);(case aB=>exact (h1 HB.out GE291.out));(case aF=>exact (fun k_ hk=>⟨Kd.fresh' (R_lt (rm HO_4.out)) k_ hk,Kd.fresh' (R_lt (rm HO_5.out)) k_ hk,Kd.fresh' (R_lt (rm HO_12.out)) k_ hk,Kd.fresh' (R_lt (rm HO314.out)) k_ hk,Kd.fresh' (R_lt (rm HO320.out)) k_ hk,Kd.fresh' (R_lt (rm HO323.out)) k_ hk⟩));(case aO=>exact (rm (R_mono HO317.out (fun _ hk=>⟨hk.1.1.1.1.1.2,⟨hk.1.1.1.1.2,⟨hk.1.1.1.2,⟨hk.1.1.2,⟨hk.1.2,hk.2⟩⟩⟩⟩⟩))));(case aS=>exact (below_size (h1 HB.out GE291.out)));(case aL=>have:=LMc27.out;omega);intro v325 w42 ho hb hg hat;rw [← Ny324.out] at ho;have n0_:=Aside0.mk (R_after (ok:=(fun k_=>some k_ ≠ (.slice Ao31 x5_1.length co31 : Value).ownBlock ∧ some k_ ≠ (.slice Ao10 t298.length co10 : Value).ownBlock ∧ some k_ ≠ (.slice Ao36 y312.length co36 : Value).ownBlock ∧ some k_ ≠ (.slice Ao40 y318.length co40 : Value).ownBlock ∧ some k_ ≠ (.slice Ao43 t321.length co43 : Value).ownBlock)) (rm (R_mono HO_4.out (fun _ hk=>⟨⟨hk.1.1.1.1.1,⟨hk.1.1.1.1.2,⟨hk.1.1.1.2,⟨hk.1.2,hk.2⟩⟩⟩⟩,hk.1.1.2⟩))) hg hat);have n1_:=Aside0.mk (R_after (ok:=(fun k_=>some k_ ≠ (.slice Ao29 x4_1.length co29 : Value).ownBlock ∧ some k_ ≠ (.slice Ao10 t298.length co10 : Value).ownBlock ∧ some k_ ≠ (.slice Ao36 y312.length co36 : Value).ownBlock ∧ some k_ ≠ (.slice Ao40 y318.length co40 : Value).ownBlock ∧ some k_ ≠ (.slice Ao43 t321.length co43 : Value).ownBlock)) (rm (R_mono HO_5.out (fun _ hk=>⟨⟨hk.1.1.1.1.1,⟨hk.1.1.1.1.2,⟨hk.1.1.1.2,⟨hk.1.2,hk.2⟩⟩⟩⟩,hk.1.1.2⟩))) hg hat);have n2_:=Aside0.mk (R_after (ok:=(fun k_=>some k_ ≠ (.slice Ao29 x4_1.length co29 : Value).ownBlock ∧ some k_ ≠ (.slice Ao31 x5_1.length co31 : Value).ownBlock ∧ some k_ ≠ (.slice Ao36 y312.length co36 : Value).ownBlock ∧ some k_ ≠ (.slice Ao40 y318.length co40 : Value).ownBlock ∧ some k_ ≠ (.slice Ao43 t321.length co43 : Value).ownBlock)) (rm (R_mono HO_12.out (fun _ hk=>⟨⟨hk.1.1.1.1.1,⟨hk.1.1.1.1.2,⟨hk.1.1.1.2,⟨hk.1.2,hk.2⟩⟩⟩⟩,hk.1.1.2⟩))) hg hat);have n3_:=Aside0.mk (blk_grown (g:=gb291) (o:=.cells #[.int .i64 a0_0,.slice A0_1 l0_1.length c0_1,.slice A0_2 l0_2.length c0_2] 27 (0,0)) (bm BK291.out) hg (R_ne HO317.out BK291.out (by decide)));have n4_:=Aside0.mk (R_after (ok:=(fun k_=>some k_ ≠ (.slice Ao29 x4_1.length co29 : Value).ownBlock ∧ some k_ ≠ (.slice Ao31 x5_1.length co31 : Value).ownBlock ∧ some k_ ≠ (.slice Ao10 t298.length co10 : Value).ownBlock ∧ some k_ ≠ (.slice Ao40 y318.length co40 : Value).ownBlock ∧ some k_ ≠ (.slice Ao43 t321.length co43 : Value).ownBlock)) (rm (R_mono HO314.out (fun _ hk=>⟨⟨hk.1.1.1.1.1.2,⟨hk.1.1.1.1.2,⟨hk.1.1.1.2,⟨hk.1.2,hk.2⟩⟩⟩⟩,hk.1.1.2⟩))) hg hat);have n5_:=Aside0.mk (R_after (ok:=(fun k_=>some k_ ≠ (.slice Ao29 x4_1.length co29 : Value).ownBlock ∧ some k_ ≠ (.slice Ao31 x5_1.length co31 : Value).ownBlock ∧ some k_ ≠ (.slice Ao10 t298.length co10 : Value).ownBlock ∧ some k_ ≠ (.slice Ao36 y312.length co36 : Value).ownBlock ∧ some k_ ≠ (.slice Ao43 t321.length co43 : Value).ownBlock)) (rm (R_mono HO320.out (fun _ hk=>⟨⟨hk.1.1.1.1.1.2,⟨hk.1.1.1.1.2,⟨hk.1.1.1.2,⟨hk.1.1.2,hk.2⟩⟩⟩⟩,hk.1.2⟩))) hg hat);have n6_:=Aside0.mk (R_after (ok:=(fun k_=>some k_ ≠ (.slice Ao29 x4_1.length co29 : Value).ownBlock ∧ some k_ ≠ (.slice Ao31 x5_1.length co31 : Value).ownBlock ∧ some k_ ≠ (.slice Ao10 t298.length co10 : Value).ownBlock ∧ some k_ ≠ (.slice Ao36 y312.length co36 : Value).ownBlock ∧ some k_ ≠ (.slice Ao40 y318.length co40 : Value).ownBlock)) (rm (R_mono HO323.out (fun _ hk=>⟨⟨hk.1.1.1.1.1.2,⟨hk.1.1.1.1.2,⟨hk.1.1.1.2,⟨hk.1.1.2,hk.2⟩⟩⟩⟩,hk.1.2⟩))) hg hat);have n7_:=Aside0.mk (hb);have n8_:=Aside0.mk (ho);clear HO_4;clear HO_5;clear HO_12;clear BK291;clear HO314;clear HO320;clear HO323;clear HB;clear HO317;have HO_4:=n0_;have HO_5:=n1_;have HO_12:=n2_;have BK291:=n3_;have HO314:=n4_;have HO320:=n5_;have HO323:=n6_;have HB:=n7_;have HO326:=n8_;clear n0_ n1_ n2_ n3_ n4_ n5_ n6_ n7_ n8_;clear ho hb hg hat)|((with_reducible refine gate_builtin (b:=.append) (xs:=#[.tmp 49,.tmp 50]) rfl ?_);at_builtin;refine R_append_rows (Kd.int .i64) (w0:=w) w.heap.size rfl (.tmp 49) (.tmp 50) 22 3 (.int .i64 0) 8 rfl Try.underlying22 info3 rfl (by decide) (by omega) (.slice Ao29 x4_1.length co29) t309 t311 _ _ _ (fun k_=>some k_ ≠ (.slice Ao31 x5_1.length co31 : Value).ownBlock ∧ some k_ ≠ (.slice Ao10 t298.length co10 : Value).ownBlock ∧ some k_ ≠ (.slice Ao36 y312.length co36 : Value).ownBlock ∧ some k_ ≠ (.slice Ao40 y318.length co40 : Value).ownBlock ∧ some k_ ≠ (.slice Ao43 t321.length co43 : Value).ownBlock ∧ some k_ ≠ (v325 : Value).ownBlock) (fun _=>False) rfl rfl ?aO ?aR (fun _ _ h=>h) (fun _ h=>h.elim) ?aF ?aB ?aS ?aL ?_;(case aR=>rw [show x5_1.length = t311.length from (R_reads' HO_5.out).1];exact cm (R_reads' HO_5.out).2.2);(case aB=>exact (h1 HB.out GE291.out));(case aF=>exact (fun k_ hk=>⟨Kd.fresh' (R_lt (rm HO_5.out)) k_ hk,Kd.fresh' (R_lt (rm HO_12.out)) k_ hk,Kd.fresh' (R_lt (rm HO314.out)) k_ hk,Kd.fresh' (R_lt (rm HO320.out)) k_ hk,Kd.fresh' (R_lt (rm HO323.out)) k_ hk,Kd.fresh' (R_lt (rm HO326.out)) k_ hk⟩));(case aO=>exact (rm (R_mono HO_4.out (fun _ hk=>⟨hk.1.1,⟨hk.1.2.1,⟨hk.1.2.2.1,⟨hk.1.2.2.2.1,⟨hk.1.2.2.2.2,hk.2⟩⟩⟩⟩⟩))));(case aS=>exact (below_size (h1 HB.out GE291.out)));(case aL=>have:=LMc28.out;have hlx_:=(R_reads' HO_5.out).1;omega);intro v328 w44 ho hb hg hat;rw [← Ny327.out] at ho;have n0_:=Aside0.mk (R_after (ok:=(fun k_=>some k_ ≠ (.slice Ao10 t298.length co10 : Value).ownBlock ∧ some k_ ≠ (.slice Ao36 y312.length co36 : Value).ownBlock ∧ some k_ ≠ (.slice Ao40 y318.length co40 : Value).ownBlock ∧ some k_ ≠ (.slice Ao43 t321.length co43 : Value).ownBlock ∧ some k_ ≠ (v325 : Value).ownBlock)) (rm (R_mono HO_5.out (fun _ hk=>⟨⟨hk.1.2.1,⟨hk.1.2.2.1,⟨hk.1.2.2.2.1,⟨hk.1.2.2.2.2,hk.2⟩⟩⟩⟩,hk.1.1⟩))) hg hat);have n1_:=Aside0.mk (R_after (ok:=(fun k_=>some k_ ≠ (.slice Ao31 x5_1.length co31 : Value).ownBlock ∧ some k_ ≠ (.slice Ao36 y312.length co36 : Value).ownBlock ∧ some k_ ≠ (.slice Ao40 y318.length co40 : Value).ownBlock ∧ some k_ ≠ (.slice Ao43 t321.length co43 : Value).ownBlock ∧ some k_ ≠ (v325 : Value).ownBlock)) (rm (R_mono HO_12.out (fun _ hk=>⟨⟨hk.1.2.1,⟨hk.1.2.2.1,⟨hk.1.2.2.2.1,⟨hk.1.2.2.2.2,hk.2⟩⟩⟩⟩,hk.1.1⟩))) hg hat);have n2_:=Aside0.mk (blk_grown (g:=gb291) (o:=.cells #[.int .i64 a0_0,.slice A0_1 l0_1.length c0_1,.slice A0_2 l0_2.length c0_2] 27 (0,0)) (bm BK291.out) hg (R_ne HO_4.out BK291.out (by decide)));have n3_:=Aside0.mk (R_after (ok:=(fun k_=>some k_ ≠ (.slice Ao31 x5_1.length co31 : Value).ownBlock ∧ some k_ ≠ (.slice Ao10 t298.length co10 : Value).ownBlock ∧ some k_ ≠ (.slice Ao40 y318.length co40 : Value).ownBlock ∧ some k_ ≠ (.slice Ao43 t321.length co43 : Value).ownBlock ∧ some k_ ≠ (v325 : Value).ownBlock)) (rm (R_mono HO314.out (fun _ hk=>⟨⟨hk.1.2.1,⟨hk.1.2.2.1,⟨hk.1.2.2.2.1,⟨hk.1.2.2.2.2,hk.2⟩⟩⟩⟩,hk.1.1⟩))) hg hat);have n4_:=Aside0.mk (R_after (ok:=(fun k_=>some k_ ≠ (.slice Ao31 x5_1.length co31 : Value).ownBlock ∧ some k_ ≠ (.slice Ao10 t298.length co10 : Value).ownBlock ∧ some k_ ≠ (.slice Ao36 y312.length co36 : Value).ownBlock ∧ some k_ ≠ (.slice Ao43 t321.length co43 : Value).ownBlock ∧ some k_ ≠ (v325 : Value).ownBlock)) (rm (R_mono HO320.out (fun _ hk=>⟨⟨hk.1.2.1,⟨hk.1.2.2.1,⟨hk.1.2.2.2.1,⟨hk.1.2.2.2.2,hk.2⟩⟩⟩⟩,hk.1.1⟩))) hg hat);have n5_:=Aside0.mk (R_after (ok:=(fun k_=>some k_ ≠ (.slice Ao31 x5_1.length co31 : Value).ownBlock ∧ some k_ ≠ (.slice Ao10 t298.length co10 : Value).ownBlock ∧ some k_ ≠ (.slice Ao36 y312.length co36 : Value).ownBlock ∧ some k_ ≠ (.slice Ao40 y318.length co40 : Value).ownBlock ∧ some k_ ≠ (v325 : Value).ownBlock)) (rm (R_mono HO323.out (fun _ hk=>⟨⟨hk.1.2.1,⟨hk.1.2.2.1,⟨hk.1.2.2.2.1,⟨hk.1.2.2.2.2,hk.2⟩⟩⟩⟩,hk.1.1⟩))) hg hat);have n6_:=Aside0.mk (R_after (ok:=(fun k_=>some k_ ≠ (.slice Ao31 x5_1.length co31 : Value).ownBlock ∧ some k_ ≠ (.slice Ao10 t298.length co10 : Value).ownBlock ∧ some k_ ≠ (.slice Ao36 y312.length co36 : Value).ownBlock ∧ some k_ ≠ (.slice Ao40 y318.length co40 : Value).ownBlock ∧ some k_ ≠ (.slice Ao43 t321.length co43 : Value).ownBlock)) (rm (R_mono HO326.out (fun _ hk=>⟨⟨hk.2.1,⟨hk.2.2.1,⟨hk.2.2.2.1,⟨hk.2.2.2.2.1,hk.2.2.2.2.2⟩⟩⟩⟩,hk.1⟩))) hg hat);have n7_:=Aside0.mk (hb);have n8_:=Aside0.mk (ho);clear HO_5;clear HO_12;clear BK291;clear HO314;clear HO320;clear HO323;clear HO326;clear HB;clear HO_4;have HO_5:=n0_;have HO_12:=n1_;have BK291:=n2_;have HO314:=n3_;have HO320:=n4_;have HO323:=n5_;have HO326:=n6_;have HB:=n7_;have HO329:=n8_;clear n0_ n1_ n2_ n3_ n4_ n5_ n6_ n7_ n8_;clear ho hb hg hat))
  go_ret2
  exact ⟨_,_,by first|rfl|(simp [errW_none,errW_some] <;> rfl)|(simp [*,errW_none,errW_some] <;> rfl),rm (R_mono HO329.out (fun _ hk=>hk.2.2.2.2.2)),rm (R_mono HO326.out (fun _ hk=>hk.2)),h1 HB.out GE291.out⟩


end
end Go.Proofs.Ytciihopkgblpkaa.QFnExactBeadsAt
