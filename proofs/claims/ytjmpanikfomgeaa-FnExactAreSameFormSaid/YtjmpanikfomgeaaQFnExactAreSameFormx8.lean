/- Functions that the law FnExactAreSameForm comes to, as Lean functions, with the proof that the Go code does what they say: written by a program of this session over the kit's print. No condition but those named. -/
import Derived.Test.YtjmpanikfomgeaaQFnExactAreSameFormx0
import Derived.Test.YtjmpanikfomgeaaQFnExactAreSameFormx6
import Derived.Test.YtjmpanikfomgeaaQFnExactAreSameFormx7
namespace Go.Proofs.Ytjmpanikfomgeaa.QFnExactAreSameForm
open Go.RowKit Go.Proofs.YtjmpanikfomgeaaW.PrintWords Go.Proofs.YtjmpanikfomgeaaW.PrintLast Go.Proofs.YtjmpanikfomgeaaW.PrintMore Go.Proofs.Ytjmpanikfomgeaa.Short
attribute [local go_sem] max2_int min2_int max_two min_two max_three min_three max_four min_four   -- for this text's walks alone
set_option linter.unusedVariables false
set_option linter.unusedSimpArgs false

/-! ### slices_pdqsortOrdered_int: function 85 -/
section
open Kd
mutual
def slices_pdqsortOrdered_int.l0 : Nat → List Int → Int → Int → Int → Bool → Option (List Int)
 | 0,_,_,_,_,_=>none
 | k + 1,x0,x1,x2,x3,x8=>if (wrap64 (x2 - x1)) ≤ 12 then ((slices_insertionSortOrdered_int.f k x0 x1 x2).bind fun t251=>(some t251)) else (if x3 = 0 then (none) else (if x8 = true then (none) else (none)))
def slices_pdqsortOrdered_int.f : Nat → List Int → Int → Int → Int → Option (List Int)
 | 0,_,_,_,_=>none
 | k + 1,l0,a1,a2,a3=>slices_pdqsortOrdered_int.l0 k l0 a1 a2 a3 true
end
theorem slices_pdqsortOrdered_int.mono_l : ∀ k,(∀ y0 y1 y2 y3,LeO (slices_pdqsortOrdered_int.f k y0 y1 y2 y3) (slices_pdqsortOrdered_int.f (k + 1) y0 y1 y2 y3)) ∧ (∀ y0 y1 y2 y3 y4,LeO (slices_pdqsortOrdered_int.l0 k y0 y1 y2 y3 y4) (slices_pdqsortOrdered_int.l0 (k + 1) y0 y1 y2 y3 y4))
 | 0=>⟨fun _ _ _ _ r h=>by simp [slices_pdqsortOrdered_int.f] at h,fun _ _ _ _ _ r h=>by simp [slices_pdqsortOrdered_int.l0] at h⟩
 | k + 1=>by
  obtain ⟨ih0,ih1⟩:=slices_pdqsortOrdered_int.mono_l k
  refine ⟨?_,?_⟩
  ·intro y0 y1 y2 y3
   unfold slices_pdqsortOrdered_int.f
   repeat' first
   | (with_reducible exact ih0 _ _ _ _)
   | (with_reducible exact ih1 _ _ _ _ _)
   | (with_reducible exact slices_insertionSortOrdered_int.mono _ _ _ _)
   | (with_reducible exact LeO.refl _)
   | (with_reducible exact LeO.none _)
   | (with_reducible refine LeO.ite ?_ ?_)
   | (with_reducible refine LeO.bind ?_ (fun _=>?_))
   | exact ih0 _ _ _ _
   | exact ih1 _ _ _ _ _
   | exact slices_insertionSortOrdered_int.mono _ _ _ _
   | exact LeO.none _
   | refine LeO.ite ?_ ?_
   | refine LeO.bind ?_ (fun _=>?_)
  ·intro y0 y1 y2 y3 y4
   unfold slices_pdqsortOrdered_int.l0
   repeat' first
   | (with_reducible exact ih0 _ _ _ _)
   | (with_reducible exact ih1 _ _ _ _ _)
   | (with_reducible exact slices_insertionSortOrdered_int.mono _ _ _ _)
   | (with_reducible exact LeO.refl _)
   | (with_reducible exact LeO.none _)
   | (with_reducible refine LeO.ite ?_ ?_)
   | (with_reducible refine LeO.bind ?_ (fun _=>?_))
   | exact ih0 _ _ _ _
   | exact ih1 _ _ _ _ _
   | exact slices_insertionSortOrdered_int.mono _ _ _ _
   | exact LeO.none _
   | refine LeO.ite ?_ ?_
   | refine LeO.bind ?_ (fun _=>?_)
theorem slices_pdqsortOrdered_int.mono : ∀ a0 a1 a2 a3 k,LeO (slices_pdqsortOrdered_int.f k a0 a1 a2 a3) (slices_pdqsortOrdered_int.f (k + 1) a0 a1 a2 a3):=by
 intro a0 a1 a2 a3 k
 obtain ⟨ih0,ih1⟩:=slices_pdqsortOrdered_int.mono_l k
 exact ih0 a0 a1 a2 a3
set_option maxHeartbeats 8000000 in
set_option maxRecDepth 100000 in
theorem slices_pdqsortOrdered_int.calls (k : Nat) : ∀ (P0_ : Nat → Prop) (u9000_ : Value) (l0 : List Int) (a1 : Int) (a2 : Int) (a3 : Int) (r : List Int) (w0 w : World) (hB : Below w0.heap.size w0 w) (ho0 : Kd.R (Kd.int .i64) 3 w w0.heap.size P0_ u9000_ l0) (h : slices_pdqsortOrdered_int.f k l0 a1 a2 a3 = some r),
  Calls Try.prog 85 #[u9000_,.int .i64 a1,.int .i64 a2,.int .i64 a3] w fun e w'=>e = .returned (.tuple #[]) ∧ Kd.R (Kd.int .i64) 3 w' w0.heap.size (fun k_=>(P0_ k_ ∨ w.heap.size ≤ k_)) u9000_ r ∧ Below w0.heap.size w0 w' ∧ Kept w w' (fun k_=>P0_ k_):=by
 induction k using Nat.strongRecOn with
 | _ k ih =>
 intro P0_ u9000_ l0 a1 a2 a3 r w0 w hB ho0 h
 cases k with
 | zero=>exact absurd h (by simp [slices_pdqsortOrdered_int.f])
 | succ k =>
 simp only [slices_pdqsortOrdered_int.f] at h
 have HO0:=Aside0.mk (show Kd.R (Kd.int .i64) 3 w w0.heap.size (fun k_=>(P0_ k_ ∨ w.heap.size ≤ k_)) u9000_ l0 from R_mono ho0 (fun k_ hk=>(.inl hk)))
 have HK:=Aside0.mk (Kept.refl w (fun k_=>P0_ k_))
 have HW0:=Aside0.mk hB.size
 have HB:=Aside0.mk hB
 clear hB
 have H : (slices_pdqsortOrdered_int.l0 k l0 a1 a2 a3 true) = some r:=h
 clear h
 have H':=Aside0.mk H
 clear H
 go_enter Try.func85,Try.ntmps85
 go_wp2
 repeat (go_quiet (fail);try go_wp2)
 go_loopg [1,2,3,8] k (fun kq v1 v2 v3 v8 w'=>∃ (x0_1 : List Int) (x1_1 : Int) (x2_1 : Int) (x3_1 : Int) (x8_1 : Bool),v1 = .int .i64 x1_1 ∧ v2 = .int .i64 x2_1 ∧ v3 = .int .i64 x3_1 ∧ v8 = .bool x8_1 ∧ Aside0 (slices_pdqsortOrdered_int.l0 kq x0_1 x1_1 x2_1 x3_1 x8_1 = some r) ∧ Aside0 (kq ≤ k) ∧ Aside0 (Kd.R (Kd.int .i64) 3 w' w0.heap.size (fun k_=>(P0_ k_ ∨ w.heap.size ≤ k_)) u9000_ x0_1) ∧ Aside0 (Kept w w' (fun k_=>P0_ k_)) ∧ Aside0 (Below w0.heap.size w0 w'))
 case atStart=>exact ⟨(l0),(a1),(a2),(a3),(true),(by first|rfl|(simp;done)|(simp [*];done)),(by first|rfl|(simp;done)|(simp [*];done)),(by first|rfl|(simp;done)|(simp [*];done)),(by first|rfl|(simp;done)|(simp [*];done)),H',⟨Nat.le_refl _⟩,⟨rm HO0.out⟩,⟨by repeat (first|(with_reducible first|exact HK.out|apply Kept.alloc|apply Kept.drewN|apply Kept.drew)|exact HK.out)⟩,⟨hm HB.out⟩⟩
 clear H'
 try clear p2
 obtain ⟨x0_1,x1_1,x2_1,x3_1,x8_1,rfl,rfl,rfl,rfl,HA,HK1,HO_0,HK,HB⟩:=hrel
 cases gk with
 | zero=>exact absurd HA.out (by simp [slices_pdqsortOrdered_int.l0])
 | succ k1 =>
  have H:=HA.out
  clear HA
  simp only [slices_pdqsortOrdered_int.l0] at H
  by_cases c5 : (wrap64 (x2_1 - x1_1)) ≤ 12
  rotate_left
  ·rw [if_neg c5] at H
   have c5b0 : decide ((wrap64 (x2_1 - x1_1)) ≤ 12) = false:=decide_eq_false c5
   clear c5
   by_cases c9 : x3_1 = 0
   ·rw [if_pos c9] at H
    exact absurd H (by simp)
   rw [if_neg c9] at H
   have c9b0 : (x3_1 == 0) = false:=beq_eq_false_iff_ne.mpr c9
   have c9b1 : (x3_1 != 0) = true:=bne_iff_ne.mpr c9
   by_cases c10 : x8_1 = true
   ·subst c10
    have H1 : (none) = some r:=by rw [if_pos rfl] at H;exact H
    clear H
    have H:=H1
    clear H1
    exact absurd H (by simp)
   replace c10:=Bool.eq_false_iff.mpr c10
   subst c10
   have H1 : (none) = some r:=by rw [if_neg (show ¬ (false = true) by decide)] at H;exact H
   clear H
   have H:=H1
   clear H1
   exact absurd H (by simp)
  rw [if_pos c5] at H
  have c5b0 : decide ((wrap64 (x2_1 - x1_1)) ≤ 12) = true:=decide_eq_true c5
  clear c5
  replace H:=Option.bind_eq_some_iff.mp H
  obtain ⟨t251,A60,H⟩:=H
  replace H : (some t251) = some r:=H
  have A6:=Aside0.mk A60
  clear A60
  obtain rfl:=Option.some.inj H
  obtain ⟨Ao7,co7,eo7⟩:=R_slice HO_0.out
  subst eo7
  go_wp2_with (first|(go_at_call 87;(with_reducible refine (slices_insertionSortOrdered_int.calls k1 (fun k_=>some k_ = (.slice Ao7 x0_1.length co7 : Value).ownBlock) (.slice Ao7 x0_1.length co7) x0_1 x1_1 x2_1 t251 w0 _ ?side1 ?side2 A6.out).mono ?_);(case side1=>repeat (first|(with_reducible first|exact HB.out|apply below_alloc|apply pw_below_drewN|apply below_drew1)|exact HB.out));(case side2=>exact R_tight rfl HO_0.out);rintro e w8 ⟨rfl,hy0,hb,hkp⟩;have n0_:=Aside0.mk (R_reok rfl hy0 (fun k_ e_=>HO_0.out.1 k_ e_));have n1_:=Aside0.mk (Kept.then_ (S:=(fun k_=>P0_ k_)) (by repeat (first|(with_reducible first|exact HK.out|apply Kept.alloc|apply Kept.drewN|apply Kept.drew)|exact HK.out)) hkp (fun k_ hs_=>(fun e_=>(HO_0.out.1 k_ e_.symm)) hs_));have n2_:=Aside0.mk (hb);clear HO_0;clear HK;clear HB;have HO_0:=n0_;have HK:=n1_;have HB:=n2_;clear n0_ n1_ n2_;(try clear hb);(try clear hkp);(try clear hy0)))
  repeat (go_quiet (fail);try go_wp2_with (first|(go_at_call 87;(with_reducible refine (slices_insertionSortOrdered_int.calls k1 (fun k_=>some k_ = (.slice Ao7 x0_1.length co7 : Value).ownBlock) (.slice Ao7 x0_1.length co7) x0_1 x1_1 x2_1 t251 w0 _ ?side1 ?side2 A6.out).mono ?_);(case side1=>repeat (first|(with_reducible first|exact HB.out|apply below_alloc|apply pw_below_drewN|apply below_drew1)|exact HB.out));(case side2=>exact R_tight rfl HO_0.out);rintro e w8 ⟨rfl,hy0,hb,hkp⟩;have n0_:=Aside0.mk (R_reok rfl hy0 (fun k_ e_=>HO_0.out.1 k_ e_));have n1_:=Aside0.mk (Kept.then_ (S:=(fun k_=>P0_ k_)) (by repeat (first|(with_reducible first|exact HK.out|apply Kept.alloc|apply Kept.drewN|apply Kept.drew)|exact HK.out)) hkp (fun k_ hs_=>(fun e_=>(HO_0.out.1 k_ e_.symm)) hs_));have n2_:=Aside0.mk (hb);clear HO_0;clear HK;clear HB;have HO_0:=n0_;have HK:=n1_;have HB:=n2_;clear n0_ n1_ n2_;(try clear hb);(try clear hkp);(try clear hy0))))
  first|go_end0|((try simp only [Exit.inBlock,Exit.then]);refine bodyPost_ret (results_none rfl _ _ _) rfl ?_)
  exact ⟨by first|rfl|(simp [errW_none,errW_some] <;> rfl)|(simp [*,errW_none,errW_some] <;> rfl),rm HO_0.out,hm HB.out,by repeat (first|(with_reducible first|exact HK.out|apply Kept.alloc|apply Kept.drewN|apply Kept.drew)|exact HK.out)⟩

/-! ### slices_Sort_int_int: function 83 -/
def slices_Sort_int_int.f (k : Nat) (l0 : List Int) : Option (List Int):=(bits_Len.f k (IntKind.u64.wrap ((l0.length : Int)))).bind fun t252=>((slices_pdqsortOrdered_int.f k l0 0 (l0.length : Int) t252).bind fun t253=>(some t253))
theorem slices_Sort_int_int.mono : ∀ a0 k,LeO (slices_Sort_int_int.f k a0) (slices_Sort_int_int.f (k + 1) a0):=by
 intro a0 k
 unfold slices_Sort_int_int.f
 repeat' first
   | (with_reducible exact bits_Len.mono _ _)
   | (with_reducible exact slices_pdqsortOrdered_int.mono _ _ _ _ _)
   | (with_reducible exact LeO.refl _)
   | (with_reducible exact LeO.none _)
   | (with_reducible refine LeO.ite ?_ ?_)
   | (with_reducible refine LeO.bind ?_ (fun _=>?_))
   | exact bits_Len.mono _ _
   | exact slices_pdqsortOrdered_int.mono _ _ _ _ _
   | exact LeO.none _
   | refine LeO.ite ?_ ?_
   | refine LeO.bind ?_ (fun _=>?_)
set_option maxHeartbeats 8000000 in
set_option maxRecDepth 100000 in
theorem slices_Sort_int_int.calls (k : Nat) (P0_ : Nat → Prop) (u9000_ : Value) (l0 : List Int) (r : List Int) (w0 w : World) (hB : Below w0.heap.size w0 w) (ho0 : Kd.R (Kd.int .i64) 3 w w0.heap.size P0_ u9000_ l0) (h : slices_Sort_int_int.f k l0 = some r) :
  Calls Try.prog 83 #[u9000_] w fun e w'=>e = .returned (.tuple #[]) ∧ Kd.R (Kd.int .i64) 3 w' w0.heap.size (fun k_=>(P0_ k_ ∨ w.heap.size ≤ k_)) u9000_ r ∧ Below w0.heap.size w0 w' ∧ Kept w w' (fun k_=>P0_ k_):=by
 have HO0:=Aside0.mk (show Kd.R (Kd.int .i64) 3 w w0.heap.size (fun k_=>(P0_ k_ ∨ w.heap.size ≤ k_)) u9000_ l0 from R_mono ho0 (fun k_ hk=>(.inl hk)))
 have HK:=Aside0.mk (Kept.refl w (fun k_=>P0_ k_))
 have HW0:=Aside0.mk hB.size
 have HB:=Aside0.mk hB
 clear hB
 have H : ((bits_Len.f k (IntKind.u64.wrap ((l0.length : Int)))).bind fun t252=>((slices_pdqsortOrdered_int.f k l0 0 (l0.length : Int) t252).bind fun t253=>(some t253))) = some r:=h
 clear h
 replace H:=Option.bind_eq_some_iff.mp H
 obtain ⟨t252,A20,H⟩:=H
 replace H : ((slices_pdqsortOrdered_int.f k l0 0 (l0.length : Int) t252).bind fun t253=>(some t253)) = some r:=H
 have A2:=Aside0.mk A20
 clear A20
 replace H:=Option.bind_eq_some_iff.mp H
 obtain ⟨t253,A30,H⟩:=H
 replace H : (some t253) = some r:=H
 have A3:=Aside0.mk A30
 clear A30
 obtain rfl:=Option.some.inj H
 obtain ⟨Ao4,co4,eo4⟩:=R_slice HO0.out
 subst eo4
 go_enter Try.func83,Try.ntmps83
 go_wp2_with (first|((with_reducible refine gate_callee (f:=86) rfl ?_);refine goesL_ (some 9) rfl rfl Try.func86 (by kernel_rfl) rfl #[.int .u64 (IntKind.u64.wrap ((l0.length : Int)))] rfl (by (try simp only [List.map_toArray,List.map_cons,List.map_nil]);first|done|rfl|(simp only [List.length_drop,List.length_take];rfl)) ?_;(with_reducible refine (bits_Len.calls k (IntKind.u64.wrap ((l0.length : Int))) t252 _ A2.out).mono ?_);rintro e w' ⟨rfl,⟨nd,rfl⟩⟩;refine ⟨_,rfl,?_⟩)|((with_reducible refine gate_callee (f:=85) rfl ?_);refine goesL_ (some 10) rfl rfl Try.func85 (by kernel_rfl) rfl #[.slice Ao4 l0.length co4,.int .i64 0,.int .i64 (l0.length : Int),.int .i64 t252] rfl (by (try simp only [List.map_toArray,List.map_cons,List.map_nil]);first|done|rfl|(simp only [List.length_drop,List.length_take];rfl)) ?_;(with_reducible refine (slices_pdqsortOrdered_int.calls k (fun k_=>some k_ = (.slice Ao4 l0.length co4 : Value).ownBlock) (.slice Ao4 l0.length co4) l0 0 (l0.length : Int) t252 t253 w0 _ ?side1 ?side2 A3.out).mono ?_);(case side1=>repeat (first|(with_reducible first|exact HB.out|apply below_alloc|apply pw_below_drewN|apply below_drew1)|exact HB.out));(case side2=>exact R_tight rfl HO0.out);rintro e w5 ⟨rfl,hy0,hb,hkp⟩;refine ⟨_,rfl,?_⟩;have n0_:=Aside0.mk (R_reok rfl hy0 (fun k_ e_=>HO0.out.1 k_ e_));have n1_:=Aside0.mk (Kept.then_ (S:=(fun k_=>P0_ k_)) (by repeat (first|(with_reducible first|exact HK.out|apply Kept.alloc|apply Kept.drewN|apply Kept.drew)|exact HK.out)) hkp (fun k_ hs_=>(fun e_=>(HO0.out.1 k_ e_.symm)) hs_));have n2_:=Aside0.mk (hb);clear HO0;clear HK;clear HB;have HO0:=n0_;have HK:=n1_;have HB:=n2_;clear n0_ n1_ n2_;(try clear hb);(try clear hkp);(try clear hy0)))
 first|go_end0|((try simp only [Exit.inBlock,Exit.then]);refine bodyPost_ret (results_none rfl _ _ _) rfl ?_)
 exact ⟨by first|rfl|(simp [errW_none,errW_some] <;> rfl)|(simp [*,errW_none,errW_some] <;> rfl),rm HO0.out,hm HB.out,by repeat (first|(with_reducible first|exact HK.out|apply Kept.alloc|apply Kept.drewN|apply Kept.drew)|exact HK.out)⟩

/-! ### impl_Crowd_moved: function 75 -/
def impl_Crowd_moved.f (k : Nat) (a0_0 : Int) (l0_1 : List Int) (a1 : Int → Option Int) : Option (Int × List Int):=(mapped_G.f k l0_1 a1).bind fun t256=>((slices_Sort_int_int.f k t256).bind fun t259=>(some (a0_0,t259)))
theorem impl_Crowd_moved.mono : ∀ a0 a1 a2 k,LeO (impl_Crowd_moved.f k a0 a1 a2) (impl_Crowd_moved.f (k + 1) a0 a1 a2):=by
 intro a0 a1 a2 k
 unfold impl_Crowd_moved.f
 repeat' first
   | (with_reducible exact mapped_G.mono _ _ _)
   | (with_reducible exact slices_Sort_int_int.mono _ _)
   | (with_reducible exact LeO.refl _)
   | (with_reducible exact LeO.none _)
   | (with_reducible refine LeO.ite ?_ ?_)
   | (with_reducible refine LeO.bind ?_ (fun _=>?_))
   | exact mapped_G.mono _ _ _
   | exact slices_Sort_int_int.mono _ _
   | exact LeO.none _
   | refine LeO.ite ?_ ?_
   | refine LeO.bind ?_ (fun _=>?_)
set_option maxHeartbeats 8000000 in
set_option maxRecDepth 100000 in
theorem impl_Crowd_moved.calls (k : Nat) (a0_0 : Int) (A0_1 : Option Addr) (c0_1 : Nat) (l0_1 : List Int) (a1 : Int → Option Int) (r1 : Int) (r2 : List Int) (w : World) (fi : FuncId) (fn : Func) (caps : Array Value) (hf : Try.prog.funcs[fi]? = some fn) (hname : (fn.name == "runtime.NumGoroutine") = false) (hbody : fn.body.isSome = true) (hcl : ∀ x y W,Below w.heap.size w W → a1 x = some y → Calls Try.prog fi (#[.int .i64 x] ++ caps) W fun e W'=>e = .returned (.int .i64 y) ∧ Drawn0 W W') (hr0_1 : Kd.C (Kd.int .i64) w A0_1 l0_1.length l0_1) (hc0_1 : l0_1.length ≤ c0_1) (h : impl_Crowd_moved.f k a0_0 l0_1 a1 = some (r1,r2)) :
  Calls Try.prog 75 #[.agg #[.int .i64 a0_0,.slice A0_1 l0_1.length c0_1],.func (.func fi) #[] caps] w fun e w'=>∃ v1_ : Value,e = .returned (.agg #[.int .i64 r1,v1_]) ∧ Kd.R (Kd.int .i64) 3 w' w.heap.size (fun _=>True) v1_ r2 ∧ Below w.heap.size w w':=by
 have hu30:=Try.underlying30
 have HCL:=Aside0.mk hcl
 have HF:=Aside0.mk hf
 have HN:=Aside0.mk hname
 have HBO:=Aside0.mk hbody
 clear hcl hf hname hbody
 have HR0_1:=Aside0.mk hr0_1
 have HC0_1:=Aside0.mk hc0_1
 clear hr0_1 hc0_1
 have HB:=Aside0.mk (Below.refl w.heap.size w)
 have H : ((mapped_G.f k l0_1 a1).bind fun t256=>((slices_Sort_int_int.f k t256).bind fun t259=>(some (a0_0,t259)))) = some (r1,r2):=h
 clear h
 replace H:=Option.bind_eq_some_iff.mp H
 obtain ⟨t256,A30,H⟩:=H
 replace H : ((slices_Sort_int_int.f k t256).bind fun t259=>(some (a0_0,t259))) = some (r1,r2):=H
 have A3:=Aside0.mk A30
 clear A30
 replace H:=Option.bind_eq_some_iff.mp H
 obtain ⟨t259,A40,H⟩:=H
 replace H : (some (a0_0,t259)) = some (r1,r2):=H
 have A4:=Aside0.mk A40
 clear A40
 simp only [Option.some.injEq,Prod.mk.injEq] at H
 obtain ⟨rfl,rfl⟩:=H
 go_enter Try.func75,Try.ntmps75
 go_wp2_with (first|((with_reducible refine gate_dst (N:=2) rfl ?_);refine box_event ?hg (N:=2) ?hd (cs:=#[.int .i64 a0_0,.slice A0_1 l0_1.length c0_1]) (t:=30) ?hr ?_;(case hd=>rfl);(case hg=>rfl);(case hr=>first|(go_simp;done)|(go_simp;rfl));intro gb254 hg w5 hbox hb;have n0_:=Aside0.mk (below_step (hm HB.out) hb);have n1_:=Aside0.mk (hbox);have n2_:=Aside0.mk ((by rw [hg];exact (below_size (hm HB.out)) : w.heap.size ≤ gb254));have n3_:=Aside0.mk ((by rw [hg];exact (below_size (hm HB.out)) : w.heap.size ≤ gb254));clear HB;have HB:=n0_;have BK254:=n1_;have GW254:=n2_;have GE254:=n3_;clear n0_ n1_ n2_ n3_;clear hb hbox hg)|((with_reducible refine gate_dst (N:=4) rfl ?_);refine box_event ?hg (N:=4) ?hd (cs:=#[.int .i64 0,.slice none 0 0]) (t:=30) ?hr ?_;(case hd=>rfl);(case hg=>rfl);(case hr=>first|(go_simp;done)|(go_simp;rfl));intro gb255 hg w6 hbox hb;have n0_:=Aside0.mk (blk_below (g:=gb254) (o:=.cells #[.int .i64 a0_0,.slice A0_1 l0_1.length c0_1] 30 (0,0)) (bm BK254.out) hb);have n1_:=Aside0.mk (below_step (h1 HB.out GE254.out) hb);have n2_:=Aside0.mk (hbox);have n3_:=Aside0.mk ((by rw [hg];exact (below_size (h1 HB.out GE254.out)) : w.heap.size ≤ gb255));have n4_:=Aside0.mk ((by rw [hg];exact (below_size (h1 HB.out GE254.out)) : w.heap.size ≤ gb255));have n5_:=Aside0.mk ((by rw [hg];exact Nat.ne_of_lt (blk_lt (g:=gb254) (bm BK254.out)) : gb254 ≠ gb255));have n6_:=Aside0.mk ((by rw [hg];exact Nat.ne_of_gt (blk_lt (g:=gb254) (bm BK254.out)) : gb255 ≠ gb254));clear BK254;clear HB;have BK254:=n0_;have HB:=n1_;have BK255:=n2_;have GW255:=n3_;have GE255:=n4_;have NB254_255:=n5_;have NB255_254:=n6_;clear n0_ n1_ n2_ n3_ n4_ n5_ n6_;clear hb hbox hg;have hnb7:=NB254_255.out;have hnc7:=NB255_254.out;have hcz8_0 : w6.cell? ⟨gb254,0,none⟩ = some (.int .i64 a0_0):=(blk_cell BK254.out 0).trans rfl;have hcz8_1 : w6.cell? ⟨gb254,1,none⟩ = some (.slice A0_1 l0_1.length c0_1):=(blk_cell BK254.out 1).trans rfl;have hfz8_0:=blk_frozen BK254.out 0;have hfz8_1:=blk_frozen BK254.out 1)|((with_reducible refine gate_callee (f:=82) rfl ?_);refine goesL_ (some 9) rfl rfl Try.func82 (by kernel_rfl) rfl #[.slice A0_1 l0_1.length c0_1,.func (.func fi) #[] caps] rfl (by (try simp only [List.map_toArray,List.map_cons,List.map_nil]);first|done|rfl|(simp only [List.length_drop,List.length_take];rfl)) ?_;have AG_:=Aside0.mk (show Mapped.f a1 k l0_1 = some t256 from A3.out);(with_reducible refine (Mapped.calls a1 fi fn caps HF.out HN.out HBO.out k _ _ l0_1 t256 _ ?sidec ?side1 ?side2 AG_.out).mono ?_);(case sidec=>exact fun x y W hb_ hg_=>HCL.out x y W (below_step (h2 HB.out GE254.out GE255.out) hb_) hg_);(case side1=>exact cm (C_below HR0_1.out HB.out));(case side2=>exact HC0_1.out);rintro e w9 ⟨v257,rfl,ho0,hb⟩;refine ⟨_,rfl,?_⟩;have n0_:=Aside0.mk (R_lower ho0 (below_size (h2 HB.out GE254.out GE255.out)));have n1_:=Aside0.mk (blk_below (g:=gb254) (o:=.cells #[.int .i64 a0_0,.slice A0_1 l0_1.length c0_1] 30 (0,0)) (bm BK254.out) hb);have n2_:=Aside0.mk (blk_below (g:=gb255) (o:=.cells #[.int .i64 0,.slice none 0 0] 30 (0,0)) (bm BK255.out) hb);have n3_:=Aside0.mk (below_step (h2 HB.out GE254.out GE255.out) hb);clear BK254;clear BK255;clear HB;have HO258:=n0_;have BK254:=n1_;have BK255:=n2_;have HB:=n3_;clear n0_ n1_ n2_ n3_;(try clear hb);(try clear hb2);(try clear hk);(try clear hi);(try clear ho0);obtain ⟨Ao10,co10,eo10⟩:=R_slice HO258.out;subst eo10)|((with_reducible refine gate_callee (f:=83) rfl ?_);refine goesL_ (some 11) rfl rfl Try.func83 (by kernel_rfl) rfl #[.slice Ao10 t256.length co10] rfl (by (try simp only [List.map_toArray,List.map_cons,List.map_nil]);first|done|rfl|(simp only [List.length_drop,List.length_take];rfl)) ?_;(with_reducible refine (slices_Sort_int_int.calls k (fun k_=>some k_ = (.slice Ao10 t256.length co10 : Value).ownBlock) (.slice Ao10 t256.length co10) t256 t259 w _ ?side1 ?side2 A4.out).mono ?_);(case side1=>repeat (first|(with_reducible first|exact HB.out|apply below_alloc|apply pw_below_drewN|apply below_drew1|refine below_set ?_ GE254.out|refine below_set ?_ GE255.out)|exact HB.out));(case side2=>exact R_tight rfl HO258.out);rintro e w11 ⟨rfl,hy0,hb,hkp⟩;refine ⟨_,rfl,?_⟩;have n0_:=Aside0.mk (blk_kept (bm BK254.out) hkp (fun hs_=>(fun e_=>(R_ne HO258.out BK254.out (by decide)) e_) hs_));have n1_:=Aside0.mk (blk_kept (bm BK255.out) hkp (fun hs_=>(fun e_=>(R_ne HO258.out BK255.out (by decide)) e_) hs_));have n2_:=Aside0.mk (R_reok rfl hy0 (fun k_ e_=>HO258.out.1 k_ e_));have n3_:=Aside0.mk (hb);clear BK254;clear BK255;clear HO258;clear HB;have BK254:=n0_;have BK255:=n1_;have HO258:=n2_;have HB:=n3_;clear n0_ n1_ n2_ n3_;(try clear hb);(try clear hkp);(try clear hy0);have hcz12_0 : w11.cell? ⟨gb254,0,none⟩ = some (.int .i64 a0_0):=(blk_cell BK254.out 0).trans rfl;have hcz12_1 : w11.cell? ⟨gb254,1,none⟩ = some (.slice A0_1 l0_1.length c0_1):=(blk_cell BK254.out 1).trans rfl;have hfz12_0:=blk_frozen BK254.out 0;have hfz12_1:=blk_frozen BK254.out 1;have hcz13_0 : w11.cell? ⟨gb255,0,none⟩ = some (.int .i64 0):=(blk_cell BK255.out 0).trans rfl;have hcz13_1 : w11.cell? ⟨gb255,1,none⟩ = some (.slice none 0 0):=(blk_cell BK255.out 1).trans rfl;have hfz13_0:=blk_frozen BK255.out 0;have hfz13_1:=blk_frozen BK255.out 1))
 refine bodyPost_ret (results_cell_row rfl _ _ gb255 30 #[.int .i64 a0_0,.slice Ao10 t256.length co10] (0,0) _ rfl (by (with_reducible repeat (first|apply blk_drewN|apply blk_drew|apply blk_alloc));refine blk_put (cs:=#[.int .i64 a0_0,.slice none 0 0]) ?_ 1 _ rfl;(with_reducible repeat (first|apply blk_drewN|apply blk_drew|apply blk_alloc));refine blk_put (cs:=#[.int .i64 0,.slice none 0 0]) ?_ 0 _ rfl;(with_reducible repeat (first|apply blk_drewN|apply blk_drew|apply blk_alloc));exact BK255.out) Try.underlying30 rfl (by kernel_rfl)) rfl ?_
 exact ⟨_,by first|rfl|(simp [errW_none,errW_some] <;> rfl)|(simp [*,errW_none,errW_some] <;> rfl),by (with_reducible repeat (first|apply R_alloc|apply R_drewN|apply R_drew));exact R_mono (R_far (p:=⟨gb255,1,none⟩) (R_far (p:=⟨gb255,0,none⟩) (R_types HO258.out BK255.out (by decide)) (fun _ hk=>hk.2) (.int .i64 a0_0)) (fun _ hk=>hk.2) (.slice Ao10 t256.length co10)) (fun _ hk=>trivial),h2 HB.out GE254.out GE255.out⟩


/-! ### moved_76: moved with the closure 76 -/
set_option maxHeartbeats 8000000 in
theorem closure_76 (x a : Int) (gc : Nat) (W : World) (hc : W.cell? ⟨gc,0,none⟩ = some (.int .i64 a)) : Calls Try.prog 76 #[.int .i64 x,.pointer (some ⟨gc,0,none⟩)] W fun e W'=>e = .returned (.int .i64 (wrap64 (wrap64 (a - 1) - x))) ∧ Drawn0 W W':=by
  have hu3:=Try.underlying3
  have hu30:=Try.underlying30
  go_enter Try.func76,Try.ntmps76
  go_wp2
  go_ret
  exact ⟨by first|rfl|(simp;done)|(simp [*];done),by repeat (first|exact Drawn0.refl _|apply Drawn0.step)⟩
def clo_76 (a : Int) : Int → Option Int:=fun x=>some (wrap64 (wrap64 (a - 1) - x))
def moved_76.f (k : Nat) (a : Int) (l : List Int) : Option (Int × List Int):=impl_Crowd_moved.f k a l (clo_76 a)
theorem moved_76.mono : ∀ a l k,LeO (moved_76.f k a l) (moved_76.f (k + 1) a l):=fun a l k=>impl_Crowd_moved.mono a l _ k
theorem moved_76.calls (k : Nat) (a : Int) (A0 : Option Addr) (c0 : Nat) (l : List Int) (r1 : Int) (r2 : List Int) (w : World) (gc : Nat) (hc : w.cell? ⟨gc,0,none⟩ = some (.int .i64 a)) (hr0 : Kd.C (Kd.int .i64) w A0 l.length l) (hc0 : l.length ≤ c0) (h : moved_76.f k a l = some (r1,r2)) :
    Calls Try.prog 75 #[.agg #[.int .i64 a,.slice A0 l.length c0],.func (.func 76) #[] #[.pointer (some ⟨gc,0,none⟩)]] w fun e w'=>∃ v1_ : Value,e = .returned (.agg #[.int .i64 r1,v1_]) ∧ Kd.R (Kd.int .i64) 3 w' w.heap.size (fun _=>True) v1_ r2 ∧ Below w.heap.size w w' :=
  impl_Crowd_moved.calls k a A0 c0 l (clo_76 a) r1 r2 w 76 Try.f76 #[.pointer (some ⟨gc,0,none⟩)] Try.func76 (by kernel_rfl) (by kernel_rfl) (fun x y W hb hg=>by
    unfold clo_76 at hg
    obtain rfl:=Option.some.inj hg
    exact closure_76 x a gc W ((hb.cell (World.block_lt_of_cell? w _ hc)).trans hc)) hr0 hc0 h

/-! ### moved_77: moved with the closure 77 -/
set_option maxHeartbeats 8000000 in
theorem closure_77 (x a : Int) (s : Int) (gs : Nat) (gc : Nat) (W : World) (hs : W.cell? ⟨gs,0,none⟩ = some (.int .i64 s)) (hc : W.cell? ⟨gc,0,none⟩ = some (.int .i64 a)) (h0 : a ≠ 0) : Calls Try.prog 77 #[.int .i64 x,.pointer (some ⟨gs,0,none⟩),.pointer (some ⟨gc,0,none⟩)] W fun e W'=>e = .returned (.int .i64 ((Int.tmod (wrap64 (x + s)) a))) ∧ Drawn0 W W':=by
  have hu3:=Try.underlying3
  have hu30:=Try.underlying30
  have h1 : ((a : Int) == 0) = false:=beq_eq_false_iff_ne.mpr h0
  have h2 : ((a : Int) != 0) = true:=bne_iff_ne.mpr h0
  go_enter Try.func77,Try.ntmps77
  go_wp2
  go_ret
  exact ⟨by first|rfl|(simp;done)|(simp [*];done),by repeat (first|exact Drawn0.refl _|apply Drawn0.step)⟩
def clo_77 (a : Int) (s : Int) : Int → Option Int:=fun x=>if a = 0 then none else some ((Int.tmod (wrap64 (x + s)) a))
def moved_77.f (k : Nat) (a : Int) (l : List Int) (s : Int) : Option (Int × List Int):=impl_Crowd_moved.f k a l (clo_77 a s)
theorem moved_77.mono : ∀ a l s k,LeO (moved_77.f k a l s) (moved_77.f (k + 1) a l s):=fun a l s k=>impl_Crowd_moved.mono a l _ k
theorem moved_77.calls (k : Nat) (a : Int) (A0 : Option Addr) (c0 : Nat) (l : List Int) (s : Int) (r1 : Int) (r2 : List Int) (w : World) (gs : Nat) (gc : Nat) (hs : w.cell? ⟨gs,0,none⟩ = some (.int .i64 s)) (hc : w.cell? ⟨gc,0,none⟩ = some (.int .i64 a)) (hr0 : Kd.C (Kd.int .i64) w A0 l.length l) (hc0 : l.length ≤ c0) (h : moved_77.f k a l s = some (r1,r2)) :
    Calls Try.prog 75 #[.agg #[.int .i64 a,.slice A0 l.length c0],.func (.func 77) #[] #[.pointer (some ⟨gs,0,none⟩),.pointer (some ⟨gc,0,none⟩)]] w fun e w'=>∃ v1_ : Value,e = .returned (.agg #[.int .i64 r1,v1_]) ∧ Kd.R (Kd.int .i64) 3 w' w.heap.size (fun _=>True) v1_ r2 ∧ Below w.heap.size w w' :=
  impl_Crowd_moved.calls k a A0 c0 l (clo_77 a s) r1 r2 w 77 Try.f77 #[.pointer (some ⟨gs,0,none⟩),.pointer (some ⟨gc,0,none⟩)] Try.func77 (by kernel_rfl) (by kernel_rfl) (fun x y W hb hg=>by
    unfold clo_77 at hg
    by_cases h0 : a = 0
    · rw [if_pos h0] at hg
      exact absurd hg (by simp)
    · rw [if_neg h0] at hg
      obtain rfl:=Option.some.inj hg
      exact closure_77 x a s gs gc W ((hb.cell (World.block_lt_of_cell? w _ hs)).trans hs) ((hb.cell (World.block_lt_of_cell? w _ hc)).trans hc) h0) hr0 hc0 h

/-! ### moved_78: moved with the closure 78 -/
set_option maxHeartbeats 8000000 in
theorem closure_78 (x a : Int) (s : Int) (gs : Nat) (gc : Nat) (W : World) (hs : W.cell? ⟨gs,0,none⟩ = some (.int .i64 s)) (hc : W.cell? ⟨gc,0,none⟩ = some (.int .i64 a)) (h0 : a ≠ 0) : Calls Try.prog 78 #[.int .i64 x,.pointer (some ⟨gs,0,none⟩),.pointer (some ⟨gc,0,none⟩)] W fun e W'=>e = .returned (.int .i64 ((Int.tmod (wrap64 ((wrap64 (s - x)) + a)) a))) ∧ Drawn0 W W':=by
  have hu3:=Try.underlying3
  have hu30:=Try.underlying30
  have h1 : ((a : Int) == 0) = false:=beq_eq_false_iff_ne.mpr h0
  have h2 : ((a : Int) != 0) = true:=bne_iff_ne.mpr h0
  go_enter Try.func78,Try.ntmps78
  go_wp2
  go_ret
  exact ⟨by first|rfl|(simp;done)|(simp [*];done),by repeat (first|exact Drawn0.refl _|apply Drawn0.step)⟩
def clo_78 (a : Int) (s : Int) : Int → Option Int:=fun x=>if a = 0 then none else some ((Int.tmod (wrap64 ((wrap64 (s - x)) + a)) a))
def moved_78.f (k : Nat) (a : Int) (l : List Int) (s : Int) : Option (Int × List Int):=impl_Crowd_moved.f k a l (clo_78 a s)
theorem moved_78.mono : ∀ a l s k,LeO (moved_78.f k a l s) (moved_78.f (k + 1) a l s):=fun a l s k=>impl_Crowd_moved.mono a l _ k
theorem moved_78.calls (k : Nat) (a : Int) (A0 : Option Addr) (c0 : Nat) (l : List Int) (s : Int) (r1 : Int) (r2 : List Int) (w : World) (gs : Nat) (gc : Nat) (hs : w.cell? ⟨gs,0,none⟩ = some (.int .i64 s)) (hc : w.cell? ⟨gc,0,none⟩ = some (.int .i64 a)) (hr0 : Kd.C (Kd.int .i64) w A0 l.length l) (hc0 : l.length ≤ c0) (h : moved_78.f k a l s = some (r1,r2)) :
    Calls Try.prog 75 #[.agg #[.int .i64 a,.slice A0 l.length c0],.func (.func 78) #[] #[.pointer (some ⟨gs,0,none⟩),.pointer (some ⟨gc,0,none⟩)]] w fun e w'=>∃ v1_ : Value,e = .returned (.agg #[.int .i64 r1,v1_]) ∧ Kd.R (Kd.int .i64) 3 w' w.heap.size (fun _=>True) v1_ r2 ∧ Below w.heap.size w w' :=
  impl_Crowd_moved.calls k a A0 c0 l (clo_78 a s) r1 r2 w 78 Try.f78 #[.pointer (some ⟨gs,0,none⟩),.pointer (some ⟨gc,0,none⟩)] Try.func78 (by kernel_rfl) (by kernel_rfl) (fun x y W hb hg=>by
    unfold clo_78 at hg
    by_cases h0 : a = 0
    · rw [if_pos h0] at hg
      exact absurd hg (by simp)
    · rw [if_neg h0] at hg
      obtain rfl:=Option.some.inj hg
      exact closure_78 x a s gs gc W ((hb.cell (World.block_lt_of_cell? w _ hs)).trans hs) ((hb.cell (World.block_lt_of_cell? w _ hc)).trans hc) h0) hr0 hc0 h

/-! ### impl_Crowd_mirrored: function 58 -/
def impl_Crowd_mirrored.f (k : Nat) (a0_0 : Int) (l0_1 : List Int) : Option (Int × List Int):=(moved_76.f k a0_0 l0_1).bind fun bt262=>(some (bt262.1,bt262.2))
theorem impl_Crowd_mirrored.mono : ∀ a0 a1 k,LeO (impl_Crowd_mirrored.f k a0 a1) (impl_Crowd_mirrored.f (k + 1) a0 a1):=by
 intro a0 a1 k
 unfold impl_Crowd_mirrored.f
 repeat' first
   | (with_reducible exact moved_76.mono _ _ _)
   | (with_reducible exact LeO.refl _)
   | (with_reducible exact LeO.none _)
   | (with_reducible refine LeO.ite ?_ ?_)
   | (with_reducible refine LeO.bind ?_ (fun _=>?_))
   | exact moved_76.mono _ _ _
   | exact LeO.none _
   | refine LeO.ite ?_ ?_
   | refine LeO.bind ?_ (fun _=>?_)
set_option maxHeartbeats 8000000 in
set_option maxRecDepth 100000 in
theorem impl_Crowd_mirrored.calls (k : Nat) (a0_0 : Int) (A0_1 : Option Addr) (c0_1 : Nat) (l0_1 : List Int) (r1 : Int) (r2 : List Int) (w : World) (hr0_1 : Kd.C (Kd.int .i64) w A0_1 l0_1.length l0_1) (hc0_1 : l0_1.length ≤ c0_1) (h : impl_Crowd_mirrored.f k a0_0 l0_1 = some (r1,r2)) :
  Calls Try.prog 58 #[.agg #[.int .i64 a0_0,.slice A0_1 l0_1.length c0_1]] w fun e w'=>∃ v1_ : Value,e = .returned (.agg #[.int .i64 r1,v1_]) ∧ Kd.R (Kd.int .i64) 3 w' w.heap.size (fun _=>True) v1_ r2 ∧ Below w.heap.size w w':=by
 have hu30:=Try.underlying30
 have HR0_1:=Aside0.mk hr0_1
 have HC0_1:=Aside0.mk hc0_1
 clear hr0_1 hc0_1
 have HB:=Aside0.mk (Below.refl w.heap.size w)
 have H : ((moved_76.f k a0_0 l0_1).bind fun bt262=>(some (bt262.1,bt262.2))) = some (r1,r2):=h
 clear h
 replace H:=Option.bind_eq_some_iff.mp H
 obtain ⟨⟨t262,t263⟩,A20,H⟩:=H
 replace H : (some (t262,t263)) = some (r1,r2):=H
 have A2:=Aside0.mk A20
 clear A20
 simp only [Option.some.injEq,Prod.mk.injEq] at H
 obtain ⟨rfl,rfl⟩:=H
 go_enter Try.func58,Try.ntmps58
 go_wp2_with (first|((with_reducible refine gate_dst (N:=1) rfl ?_);refine box_event ?hg (N:=1) ?hd (cs:=#[.int .i64 a0_0,.slice A0_1 l0_1.length c0_1]) (t:=30) ?hr ?_;(case hd=>rfl);(case hg=>rfl);(case hr=>first|(go_simp;done)|(go_simp;rfl));intro gb260 hg w3 hbox hb;have n0_:=Aside0.mk (below_step (hm HB.out) hb);have n1_:=Aside0.mk (hbox);have n2_:=Aside0.mk ((by rw [hg];exact (below_size (hm HB.out)) : w.heap.size ≤ gb260));have n3_:=Aside0.mk ((by rw [hg];exact (below_size (hm HB.out)) : w.heap.size ≤ gb260));clear HB;have HB:=n0_;have BK260:=n1_;have GW260:=n2_;have GE260:=n3_;clear n0_ n1_ n2_ n3_;clear hb hbox hg)|((with_reducible refine gate_dst (N:=2) rfl ?_);refine box_event ?hg (N:=2) ?hd (cs:=#[.int .i64 0,.slice none 0 0]) (t:=30) ?hr ?_;(case hd=>rfl);(case hg=>rfl);(case hr=>first|(go_simp;done)|(go_simp;rfl));intro gb261 hg w4 hbox hb;have n0_:=Aside0.mk (blk_below (g:=gb260) (o:=.cells #[.int .i64 a0_0,.slice A0_1 l0_1.length c0_1] 30 (0,0)) (bm BK260.out) hb);have n1_:=Aside0.mk (below_step (h1 HB.out GE260.out) hb);have n2_:=Aside0.mk (hbox);have n3_:=Aside0.mk ((by rw [hg];exact (below_size (h1 HB.out GE260.out)) : w.heap.size ≤ gb261));have n4_:=Aside0.mk ((by rw [hg];exact (below_size (h1 HB.out GE260.out)) : w.heap.size ≤ gb261));have n5_:=Aside0.mk ((by rw [hg];exact Nat.ne_of_lt (blk_lt (g:=gb260) (bm BK260.out)) : gb260 ≠ gb261));have n6_:=Aside0.mk ((by rw [hg];exact Nat.ne_of_gt (blk_lt (g:=gb260) (bm BK260.out)) : gb261 ≠ gb260));clear BK260;clear HB;have BK260:=n0_;have HB:=n1_;have BK261:=n2_;have GW261:=n3_;have GE261:=n4_;have NB260_261:=n5_;have NB261_260:=n6_;clear n0_ n1_ n2_ n3_ n4_ n5_ n6_;clear hb hbox hg;have hnb5:=NB260_261.out;have hnc5:=NB261_260.out;have hcz6_0 : w4.cell? ⟨gb260,0,none⟩ = some (.int .i64 a0_0):=(blk_cell BK260.out 0).trans rfl;have hcz6_1 : w4.cell? ⟨gb260,1,none⟩ = some (.slice A0_1 l0_1.length c0_1):=(blk_cell BK260.out 1).trans rfl;have hfz6_0:=blk_frozen BK260.out 0;have hfz6_1:=blk_frozen BK260.out 1)|((with_reducible refine gate_callee (f:=75) rfl ?_);refine goesL_ (some 5) rfl rfl Try.func75 (by kernel_rfl) rfl #[.agg #[.int .i64 a0_0,.slice A0_1 l0_1.length c0_1],.func (.func 76) #[] #[.pointer (some ⟨gb260,0,none⟩)]] rfl (by (try simp only [List.map_toArray,List.map_cons,List.map_nil]);first|done|rfl|(simp only [List.length_drop,List.length_take];rfl)) ?_;(refine (moved_76.calls k a0_0 _ _ l0_1 t262 t263 _ gb260 ?side9 ?side1 ?side2 A2.out).mono ?_);(case side9=>exact (blk_cell (bm BK260.out) 0).trans rfl);  (case side1=>exact cm (C_below HR0_1.out HB.out));(case side2=>exact HC0_1.out);rintro e w7 ⟨v264,rfl,ho0,hb⟩;refine ⟨_,rfl,?_⟩;have n0_:=Aside0.mk (R_lower ho0 (below_size (h2 HB.out GE260.out GE261.out)));have n1_:=Aside0.mk (blk_below (g:=gb260) (o:=.cells #[.int .i64 a0_0,.slice A0_1 l0_1.length c0_1] 30 (0,0)) (bm BK260.out) hb);have n2_:=Aside0.mk (blk_below (g:=gb261) (o:=.cells #[.int .i64 0,.slice none 0 0] 30 (0,0)) (bm BK261.out) hb);have n3_:=Aside0.mk (below_step (h2 HB.out GE260.out GE261.out) hb);clear BK260;clear BK261;clear HB;have HO265:=n0_;have BK260:=n1_;have BK261:=n2_;have HB:=n3_;clear n0_ n1_ n2_ n3_;(try clear hb);(try clear hb2);(try clear hk);(try clear hi);(try clear ho0);have hcz8_0 : w7.cell? ⟨gb261,0,none⟩ = some (.int .i64 0):=(blk_cell BK261.out 0).trans rfl;have hcz8_1 : w7.cell? ⟨gb261,1,none⟩ = some (.slice none 0 0):=(blk_cell BK261.out 1).trans rfl;have hfz8_0:=blk_frozen BK261.out 0;have hfz8_1:=blk_frozen BK261.out 1;obtain ⟨Ao9,co9,eo9⟩:=R_slice HO265.out;subst eo9))
 refine bodyPost_ret (results_cell_row rfl _ _ gb261 30 #[.int .i64 t262,.slice Ao9 t263.length co9] (0,0) _ rfl (by (with_reducible repeat (first|apply blk_drewN|apply blk_drew|apply blk_alloc));refine blk_put (cs:=#[.int .i64 t262,.slice none 0 0]) ?_ 1 _ rfl;(with_reducible repeat (first|apply blk_drewN|apply blk_drew|apply blk_alloc));refine blk_put (cs:=#[.int .i64 0,.slice none 0 0]) ?_ 0 _ rfl;(with_reducible repeat (first|apply blk_drewN|apply blk_drew|apply blk_alloc));exact BK261.out) Try.underlying30 rfl (by kernel_rfl)) rfl ?_
 exact ⟨_,by first|rfl|(simp [errW_none,errW_some] <;> rfl)|(simp [*,errW_none,errW_some] <;> rfl),by (with_reducible repeat (first|apply R_alloc|apply R_drewN|apply R_drew));exact R_mono (R_far (p:=⟨gb261,1,none⟩) (R_far (p:=⟨gb261,0,none⟩) (R_types HO265.out BK261.out (by decide)) (fun _ hk=>hk.2) (.int .i64 t262)) (fun _ hk=>hk.2) (.slice Ao9 t263.length co9)) (fun _ hk=>trivial),h2 HB.out GE260.out GE261.out⟩

/-! ### impl_Crowd_turned: function 61 -/
def impl_Crowd_turned.f (k : Nat) (a0_0 : Int) (l0_1 : List Int) (a1_0 : Int) : Option (Int × List Int):=(moved_77.f k a0_0 l0_1 a1_0).bind fun bt269=>(some (bt269.1,bt269.2))
theorem impl_Crowd_turned.mono : ∀ a0 a1 a2 k,LeO (impl_Crowd_turned.f k a0 a1 a2) (impl_Crowd_turned.f (k + 1) a0 a1 a2):=by
 intro a0 a1 a2 k
 unfold impl_Crowd_turned.f
 repeat' first
   | (with_reducible exact moved_77.mono _ _ _ _)
   | (with_reducible exact LeO.refl _)
   | (with_reducible exact LeO.none _)
   | (with_reducible refine LeO.ite ?_ ?_)
   | (with_reducible refine LeO.bind ?_ (fun _=>?_))
   | exact moved_77.mono _ _ _ _
   | exact LeO.none _
   | refine LeO.ite ?_ ?_
   | refine LeO.bind ?_ (fun _=>?_)
set_option maxHeartbeats 8000000 in
set_option maxRecDepth 100000 in
theorem impl_Crowd_turned.calls (k : Nat) (a0_0 : Int) (A0_1 : Option Addr) (c0_1 : Nat) (l0_1 : List Int) (a1_0 : Int) (r1 : Int) (r2 : List Int) (w : World) (hr0_1 : Kd.C (Kd.int .i64) w A0_1 l0_1.length l0_1) (hc0_1 : l0_1.length ≤ c0_1) (h : impl_Crowd_turned.f k a0_0 l0_1 a1_0 = some (r1,r2)) :
  Calls Try.prog 61 #[.agg #[.int .i64 a0_0,.slice A0_1 l0_1.length c0_1],.int .i64 a1_0] w fun e w'=>∃ v1_ : Value,e = .returned (.agg #[.int .i64 r1,v1_]) ∧ Kd.R (Kd.int .i64) 3 w' w.heap.size (fun _=>True) v1_ r2 ∧ Below w.heap.size w w':=by
 have hu30:=Try.underlying30
 have hu3:=Try.underlying3
 have HR0_1:=Aside0.mk hr0_1
 have HC0_1:=Aside0.mk hc0_1
 clear hr0_1 hc0_1
 have HB:=Aside0.mk (Below.refl w.heap.size w)
 have H : ((moved_77.f k a0_0 l0_1 a1_0).bind fun bt269=>(some (bt269.1,bt269.2))) = some (r1,r2):=h
 clear h
 replace H:=Option.bind_eq_some_iff.mp H
 obtain ⟨⟨t269,t270⟩,A30,H⟩:=H
 replace H : (some (t269,t270)) = some (r1,r2):=H
 have A3:=Aside0.mk A30
 clear A30
 simp only [Option.some.injEq,Prod.mk.injEq] at H
 obtain ⟨rfl,rfl⟩:=H
 go_enter Try.func61,Try.ntmps61
 go_wp2_with (first|((with_reducible refine gate_dst (N:=2) rfl ?_);refine box_event ?hg (N:=2) ?hd (cs:=#[.int .i64 a0_0,.slice A0_1 l0_1.length c0_1]) (t:=30) ?hr ?_;(case hd=>rfl);(case hg=>rfl);(case hr=>first|(go_simp;done)|(go_simp;rfl));intro gb266 hg w4 hbox hb;have n0_:=Aside0.mk (below_step (hm HB.out) hb);have n1_:=Aside0.mk (hbox);have n2_:=Aside0.mk ((by rw [hg];exact (below_size (hm HB.out)) : w.heap.size ≤ gb266));have n3_:=Aside0.mk ((by rw [hg];exact (below_size (hm HB.out)) : w.heap.size ≤ gb266));clear HB;have HB:=n0_;have BK266:=n1_;have GW266:=n2_;have GE266:=n3_;clear n0_ n1_ n2_ n3_;clear hb hbox hg)|((with_reducible refine gate_dst (N:=3) rfl ?_);refine box_event ?hg (N:=3) ?hd (cs:=#[.int .i64 a1_0]) (t:=3) ?hr ?_;(case hd=>rfl);(case hg=>rfl);(case hr=>first|(go_simp;done)|(go_simp;rfl));intro gb267 hg w5 hbox hb;have n0_:=Aside0.mk (blk_below (g:=gb266) (o:=.cells #[.int .i64 a0_0,.slice A0_1 l0_1.length c0_1] 30 (0,0)) (bm BK266.out) hb);have n1_:=Aside0.mk (below_step (h1 HB.out GE266.out) hb);have n2_:=Aside0.mk (hbox);have n3_:=Aside0.mk ((by rw [hg];exact (below_size (h1 HB.out GE266.out)) : w.heap.size ≤ gb267));have n4_:=Aside0.mk ((by rw [hg];exact (below_size (h1 HB.out GE266.out)) : w.heap.size ≤ gb267));have n5_:=Aside0.mk ((by rw [hg];exact Nat.ne_of_lt (blk_lt (g:=gb266) (bm BK266.out)) : gb266 ≠ gb267));have n6_:=Aside0.mk ((by rw [hg];exact Nat.ne_of_gt (blk_lt (g:=gb266) (bm BK266.out)) : gb267 ≠ gb266));clear BK266;clear HB;have BK266:=n0_;have HB:=n1_;have BK267:=n2_;have GW267:=n3_;have GE267:=n4_;have NB266_267:=n5_;have NB267_266:=n6_;clear n0_ n1_ n2_ n3_ n4_ n5_ n6_;clear hb hbox hg)|((with_reducible refine gate_dst (N:=4) rfl ?_);refine box_event ?hg (N:=4) ?hd (cs:=#[.int .i64 0,.slice none 0 0]) (t:=30) ?hr ?_;(case hd=>rfl);(case hg=>rfl);(case hr=>first|(go_simp;done)|(go_simp;rfl));intro gb268 hg w6 hbox hb;have n0_:=Aside0.mk (blk_below (g:=gb266) (o:=.cells #[.int .i64 a0_0,.slice A0_1 l0_1.length c0_1] 30 (0,0)) (bm BK266.out) hb);have n1_:=Aside0.mk (blk_below (g:=gb267) (o:=.cells #[.int .i64 a1_0] 3 (0,0)) (bm BK267.out) hb);have n2_:=Aside0.mk (below_step (h2 HB.out GE266.out GE267.out) hb);have n3_:=Aside0.mk (hbox);have n4_:=Aside0.mk ((by rw [hg];exact (below_size (h2 HB.out GE266.out GE267.out)) : w.heap.size ≤ gb268));have n5_:=Aside0.mk ((by rw [hg];exact (below_size (h2 HB.out GE266.out GE267.out)) : w.heap.size ≤ gb268));have n6_:=Aside0.mk ((by rw [hg];exact Nat.ne_of_lt (blk_lt (g:=gb266) (bm BK266.out)) : gb266 ≠ gb268));have n7_:=Aside0.mk ((by rw [hg];exact Nat.ne_of_gt (blk_lt (g:=gb266) (bm BK266.out)) : gb268 ≠ gb266));have n8_:=Aside0.mk ((by rw [hg];exact Nat.ne_of_lt (blk_lt (g:=gb267) (bm BK267.out)) : gb267 ≠ gb268));have n9_:=Aside0.mk ((by rw [hg];exact Nat.ne_of_gt (blk_lt (g:=gb267) (bm BK267.out)) : gb268 ≠ gb267));clear BK266;clear BK267;clear HB;have BK266:=n0_;have BK267:=n1_;have HB:=n2_;have BK268:=n3_;have GW268:=n4_;have GE268:=n5_;have NB266_268:=n6_;have NB268_266:=n7_;have NB267_268:=n8_;have NB268_267:=n9_;clear n0_ n1_ n2_ n3_ n4_ n5_ n6_ n7_ n8_ n9_;clear hb hbox hg;have hnb7:=NB266_267.out;have hnc7:=NB267_266.out;have hnb8:=NB266_268.out;have hnc8:=NB268_266.out;have hcz9_0 : w6.cell? ⟨gb266,0,none⟩ = some (.int .i64 a0_0):=(blk_cell BK266.out 0).trans rfl;have hcz9_1 : w6.cell? ⟨gb266,1,none⟩ = some (.slice A0_1 l0_1.length c0_1):=(blk_cell BK266.out 1).trans rfl;have hfz9_0:=blk_frozen BK266.out 0;have hfz9_1:=blk_frozen BK266.out 1;have hnb10:=NB267_268.out;have hnc10:=NB268_267.out;have hcz11_0 : w6.cell? ⟨gb267,0,none⟩ = some (.int .i64 a1_0):=(blk_cell BK267.out 0).trans rfl;have hfz11_0:=blk_frozen BK267.out 0)|((with_reducible refine gate_callee (f:=75) rfl ?_);refine goesL_ (some 7) rfl rfl Try.func75 (by kernel_rfl) rfl #[.agg #[.int .i64 a0_0,.slice A0_1 l0_1.length c0_1],.func (.func 77) #[] #[.pointer (some ⟨gb267,0,none⟩),.pointer (some ⟨gb266,0,none⟩)]] rfl (by (try simp only [List.map_toArray,List.map_cons,List.map_nil]);first|done|rfl|(simp only [List.length_drop,List.length_take];rfl)) ?_;(refine (moved_77.calls k a0_0 _ _ l0_1 a1_0 t269 t270 _ gb267 gb266 ?side8 ?side9 ?side1 ?side2 A3.out).mono ?_);(case side8=>exact (blk_cell (bm BK267.out) 0).trans rfl);(case side9=>exact (blk_cell (bm BK266.out) 0).trans rfl);  (case side1=>exact cm (C_below HR0_1.out HB.out));(case side2=>exact HC0_1.out);rintro e w12 ⟨v271,rfl,ho0,hb⟩;refine ⟨_,rfl,?_⟩;have n0_:=Aside0.mk (R_lower ho0 (below_size (h3 HB.out GE266.out GE267.out GE268.out)));have n1_:=Aside0.mk (blk_below (g:=gb266) (o:=.cells #[.int .i64 a0_0,.slice A0_1 l0_1.length c0_1] 30 (0,0)) (bm BK266.out) hb);have n2_:=Aside0.mk (blk_below (g:=gb267) (o:=.cells #[.int .i64 a1_0] 3 (0,0)) (bm BK267.out) hb);have n3_:=Aside0.mk (blk_below (g:=gb268) (o:=.cells #[.int .i64 0,.slice none 0 0] 30 (0,0)) (bm BK268.out) hb);have n4_:=Aside0.mk (below_step (h3 HB.out GE266.out GE267.out GE268.out) hb);clear BK266;clear BK267;clear BK268;clear HB;have HO272:=n0_;have BK266:=n1_;have BK267:=n2_;have BK268:=n3_;have HB:=n4_;clear n0_ n1_ n2_ n3_ n4_;(try clear hb);(try clear hb2);(try clear hk);(try clear hi);(try clear ho0);have hcz13_0 : w12.cell? ⟨gb268,0,none⟩ = some (.int .i64 0):=(blk_cell BK268.out 0).trans rfl;have hcz13_1 : w12.cell? ⟨gb268,1,none⟩ = some (.slice none 0 0):=(blk_cell BK268.out 1).trans rfl;have hfz13_0:=blk_frozen BK268.out 0;have hfz13_1:=blk_frozen BK268.out 1;obtain ⟨Ao14,co14,eo14⟩:=R_slice HO272.out;subst eo14))
 refine bodyPost_ret (results_cell_row rfl _ _ gb268 30 #[.int .i64 t269,.slice Ao14 t270.length co14] (0,0) _ rfl (by (with_reducible repeat (first|apply blk_drewN|apply blk_drew|apply blk_alloc));refine blk_put (cs:=#[.int .i64 t269,.slice none 0 0]) ?_ 1 _ rfl;(with_reducible repeat (first|apply blk_drewN|apply blk_drew|apply blk_alloc));refine blk_put (cs:=#[.int .i64 0,.slice none 0 0]) ?_ 0 _ rfl;(with_reducible repeat (first|apply blk_drewN|apply blk_drew|apply blk_alloc));exact BK268.out) Try.underlying30 rfl (by kernel_rfl)) rfl ?_
 exact ⟨_,by first|rfl|(simp [errW_none,errW_some] <;> rfl)|(simp [*,errW_none,errW_some] <;> rfl),by (with_reducible repeat (first|apply R_alloc|apply R_drewN|apply R_drew));exact R_mono (R_far (p:=⟨gb268,1,none⟩) (R_far (p:=⟨gb268,0,none⟩) (R_types HO272.out BK268.out (by decide)) (fun _ hk=>hk.2) (.int .i64 t269)) (fun _ hk=>hk.2) (.slice Ao14 t270.length co14)) (fun _ hk=>trivial),h3 HB.out GE266.out GE267.out GE268.out⟩

/-! ### cmp_Compare_int: function 81 -/
def cmp_Compare_int.f (a0 : Int) (a1 : Int) : Option (Int):=(cmp_isNaN_int.f a0).bind fun t273=>((cmp_isNaN_int.f a1).bind fun t274=>(if t273 = true then (if t274 = true then (some 0) else (some (-1))) else (if t274 = true then (some 1) else (if a0 < a1 then (some (-1)) else (if a0 > a1 then (some 1) else (some 0))))))
set_option maxHeartbeats 8000000 in
set_option maxRecDepth 100000 in
theorem cmp_Compare_int.calls (a0 : Int) (a1 : Int) (r : Int) (w : World) (h : cmp_Compare_int.f a0 a1 = some r) :
  Calls Try.prog 81 #[.int .i64 a0,.int .i64 a1] w fun e w'=>e = .returned (.int .i64 r) ∧ Drawn0 w w':=by
 have H : ((cmp_isNaN_int.f a0).bind fun t273=>((cmp_isNaN_int.f a1).bind fun t274=>(if t273 = true then (if t274 = true then (some 0) else (some (-1))) else (if t274 = true then (some 1) else (if a0 < a1 then (some (-1)) else (if a0 > a1 then (some 1) else (some 0))))))) = some r:=h
 clear h
 replace H:=Option.bind_eq_some_iff.mp H
 obtain ⟨t273,A30,H⟩:=H
 replace H : ((cmp_isNaN_int.f a1).bind fun t274=>(if t273 = true then (if t274 = true then (some 0) else (some (-1))) else (if t274 = true then (some 1) else (if a0 < a1 then (some (-1)) else (if a0 > a1 then (some 1) else (some 0)))))) = some r:=H
 have A3:=Aside0.mk A30
 clear A30
 replace H:=Option.bind_eq_some_iff.mp H
 obtain ⟨t274,A40,H⟩:=H
 replace H : (if t273 = true then (if t274 = true then (some 0) else (some (-1))) else (if t274 = true then (some 1) else (if a0 < a1 then (some (-1)) else (if a0 > a1 then (some 1) else (some 0))))) = some r:=H
 have A4:=Aside0.mk A40
 clear A40
 by_cases c5 : t273 = true
 ·subst c5
  have H1 : (if t274 = true then (some 0) else (some (-1))) = some r:=by rw [if_pos rfl] at H;exact H
  clear H
  have H:=H1
  clear H1
  by_cases c6 : t274 = true
  ·subst c6
   have H1 : (some 0) = some r:=by rw [if_pos rfl] at H;exact H
   clear H
   have H:=H1
   clear H1
   obtain rfl:=Option.some.inj H
   go_enter Try.func81,Try.ntmps81
   go_wp2_with (first|((with_reducible refine gate_callee (f:=84) rfl ?_);refine goesL_ (some 8) rfl rfl Try.func84 (by kernel_rfl) rfl #[.int .i64 a0] rfl (by (try simp only [List.map_toArray,List.map_cons,List.map_nil]);first|done|rfl|(simp only [List.length_drop,List.length_take];rfl)) ?_;(with_reducible refine (cmp_isNaN_int.calls a0 true _ A3.out).mono ?_);rintro e w' ⟨rfl,⟨nd,rfl⟩⟩;refine ⟨_,rfl,?_⟩)|((with_reducible refine gate_callee (f:=84) rfl ?_);refine goesL_ (some 10) rfl rfl Try.func84 (by kernel_rfl) rfl #[.int .i64 a1] rfl (by (try simp only [List.map_toArray,List.map_cons,List.map_nil]);first|done|rfl|(simp only [List.length_drop,List.length_take];rfl)) ?_;(with_reducible refine (cmp_isNaN_int.calls a1 true _ A4.out).mono ?_);rintro e w' ⟨rfl,⟨nd,rfl⟩⟩;refine ⟨_,rfl,?_⟩))
   go_ret
   exact ⟨by first|rfl|(simp;done)|(simp [*];done),by repeat (first|exact Drawn0.refl _|apply Drawn0.step)⟩
  replace c6:=Bool.eq_false_iff.mpr c6
  subst c6
  have H1 : (some (-1)) = some r:=by rw [if_neg (show ¬ (false = true) by decide)] at H;exact H
  clear H
  have H:=H1
  clear H1
  obtain rfl:=Option.some.inj H
  go_enter Try.func81,Try.ntmps81
  go_wp2_with (first|((with_reducible refine gate_callee (f:=84) rfl ?_);refine goesL_ (some 8) rfl rfl Try.func84 (by kernel_rfl) rfl #[.int .i64 a0] rfl (by (try simp only [List.map_toArray,List.map_cons,List.map_nil]);first|done|rfl|(simp only [List.length_drop,List.length_take];rfl)) ?_;(with_reducible refine (cmp_isNaN_int.calls a0 true _ A3.out).mono ?_);rintro e w' ⟨rfl,⟨nd,rfl⟩⟩;refine ⟨_,rfl,?_⟩)|((with_reducible refine gate_callee (f:=84) rfl ?_);refine goesL_ (some 10) rfl rfl Try.func84 (by kernel_rfl) rfl #[.int .i64 a1] rfl (by (try simp only [List.map_toArray,List.map_cons,List.map_nil]);first|done|rfl|(simp only [List.length_drop,List.length_take];rfl)) ?_;(with_reducible refine (cmp_isNaN_int.calls a1 false _ A4.out).mono ?_);rintro e w' ⟨rfl,⟨nd,rfl⟩⟩;refine ⟨_,rfl,?_⟩))
  go_ret
  exact ⟨by first|rfl|(simp;done)|(simp [*];done),by repeat (first|exact Drawn0.refl _|apply Drawn0.step)⟩
 replace c5:=Bool.eq_false_iff.mpr c5
 subst c5
 have H1 : (if t274 = true then (some 1) else (if a0 < a1 then (some (-1)) else (if a0 > a1 then (some 1) else (some 0)))) = some r:=by rw [if_neg (show ¬ (false = true) by decide)] at H;exact H
 clear H
 have H:=H1
 clear H1
 by_cases c7 : t274 = true
 ·subst c7
  have H1 : (some 1) = some r:=by rw [if_pos rfl] at H;exact H
  clear H
  have H:=H1
  clear H1
  obtain rfl:=Option.some.inj H
  go_enter Try.func81,Try.ntmps81
  go_wp2_with (first|((with_reducible refine gate_callee (f:=84) rfl ?_);refine goesL_ (some 8) rfl rfl Try.func84 (by kernel_rfl) rfl #[.int .i64 a0] rfl (by (try simp only [List.map_toArray,List.map_cons,List.map_nil]);first|done|rfl|(simp only [List.length_drop,List.length_take];rfl)) ?_;(with_reducible refine (cmp_isNaN_int.calls a0 false _ A3.out).mono ?_);rintro e w' ⟨rfl,⟨nd,rfl⟩⟩;refine ⟨_,rfl,?_⟩)|((with_reducible refine gate_callee (f:=84) rfl ?_);refine goesL_ (some 10) rfl rfl Try.func84 (by kernel_rfl) rfl #[.int .i64 a1] rfl (by (try simp only [List.map_toArray,List.map_cons,List.map_nil]);first|done|rfl|(simp only [List.length_drop,List.length_take];rfl)) ?_;(with_reducible refine (cmp_isNaN_int.calls a1 true _ A4.out).mono ?_);rintro e w' ⟨rfl,⟨nd,rfl⟩⟩;refine ⟨_,rfl,?_⟩))
  go_ret
  exact ⟨by first|rfl|(simp;done)|(simp [*];done),by repeat (first|exact Drawn0.refl _|apply Drawn0.step)⟩
 replace c7:=Bool.eq_false_iff.mpr c7
 subst c7
 have H1 : (if a0 < a1 then (some (-1)) else (if a0 > a1 then (some 1) else (some 0))) = some r:=by rw [if_neg (show ¬ (false = true) by decide)] at H;exact H
 clear H
 have H:=H1
 clear H1
 by_cases c8 : a0 < a1
 ·rw [if_pos c8] at H
  have c8b0 : decide (a0 < a1) = true:=decide_eq_true c8
  clear c8
  obtain rfl:=Option.some.inj H
  go_enter Try.func81,Try.ntmps81
  go_wp2_with (first|((with_reducible refine gate_callee (f:=84) rfl ?_);refine goesL_ (some 8) rfl rfl Try.func84 (by kernel_rfl) rfl #[.int .i64 a0] rfl (by (try simp only [List.map_toArray,List.map_cons,List.map_nil]);first|done|rfl|(simp only [List.length_drop,List.length_take];rfl)) ?_;(with_reducible refine (cmp_isNaN_int.calls a0 false _ A3.out).mono ?_);rintro e w' ⟨rfl,⟨nd,rfl⟩⟩;refine ⟨_,rfl,?_⟩)|((with_reducible refine gate_callee (f:=84) rfl ?_);refine goesL_ (some 10) rfl rfl Try.func84 (by kernel_rfl) rfl #[.int .i64 a1] rfl (by (try simp only [List.map_toArray,List.map_cons,List.map_nil]);first|done|rfl|(simp only [List.length_drop,List.length_take];rfl)) ?_;(with_reducible refine (cmp_isNaN_int.calls a1 false _ A4.out).mono ?_);rintro e w' ⟨rfl,⟨nd,rfl⟩⟩;refine ⟨_,rfl,?_⟩))
  go_ret
  exact ⟨by first|rfl|(simp;done)|(simp [*];done),by repeat (first|exact Drawn0.refl _|apply Drawn0.step)⟩
 rw [if_neg c8] at H
 have c8b0 : decide (a0 < a1) = false:=decide_eq_false c8
 clear c8
 by_cases c9 : a0 > a1
 ·rw [if_pos c9] at H
  have c9b0 : decide (a1 < a0) = true:=decide_eq_true c9
  clear c9
  obtain rfl:=Option.some.inj H
  go_enter Try.func81,Try.ntmps81
  go_wp2_with (first|((with_reducible refine gate_callee (f:=84) rfl ?_);refine goesL_ (some 8) rfl rfl Try.func84 (by kernel_rfl) rfl #[.int .i64 a0] rfl (by (try simp only [List.map_toArray,List.map_cons,List.map_nil]);first|done|rfl|(simp only [List.length_drop,List.length_take];rfl)) ?_;(with_reducible refine (cmp_isNaN_int.calls a0 false _ A3.out).mono ?_);rintro e w' ⟨rfl,⟨nd,rfl⟩⟩;refine ⟨_,rfl,?_⟩)|((with_reducible refine gate_callee (f:=84) rfl ?_);refine goesL_ (some 10) rfl rfl Try.func84 (by kernel_rfl) rfl #[.int .i64 a1] rfl (by (try simp only [List.map_toArray,List.map_cons,List.map_nil]);first|done|rfl|(simp only [List.length_drop,List.length_take];rfl)) ?_;(with_reducible refine (cmp_isNaN_int.calls a1 false _ A4.out).mono ?_);rintro e w' ⟨rfl,⟨nd,rfl⟩⟩;refine ⟨_,rfl,?_⟩))
  go_ret
  exact ⟨by first|rfl|(simp;done)|(simp [*];done),by repeat (first|exact Drawn0.refl _|apply Drawn0.step)⟩
 rw [if_neg c9] at H
 have c9b0 : decide (a1 < a0) = false:=decide_eq_false c9
 clear c9
 obtain rfl:=Option.some.inj H
 go_enter Try.func81,Try.ntmps81
 go_wp2_with (first|((with_reducible refine gate_callee (f:=84) rfl ?_);refine goesL_ (some 8) rfl rfl Try.func84 (by kernel_rfl) rfl #[.int .i64 a0] rfl (by (try simp only [List.map_toArray,List.map_cons,List.map_nil]);first|done|rfl|(simp only [List.length_drop,List.length_take];rfl)) ?_;(with_reducible refine (cmp_isNaN_int.calls a0 false _ A3.out).mono ?_);rintro e w' ⟨rfl,⟨nd,rfl⟩⟩;refine ⟨_,rfl,?_⟩)|((with_reducible refine gate_callee (f:=84) rfl ?_);refine goesL_ (some 10) rfl rfl Try.func84 (by kernel_rfl) rfl #[.int .i64 a1] rfl (by (try simp only [List.map_toArray,List.map_cons,List.map_nil]);first|done|rfl|(simp only [List.length_drop,List.length_take];rfl)) ?_;(with_reducible refine (cmp_isNaN_int.calls a1 false _ A4.out).mono ?_);rintro e w' ⟨rfl,⟨nd,rfl⟩⟩;refine ⟨_,rfl,?_⟩))
 go_ret
 exact ⟨by first|rfl|(simp;done)|(simp [*];done),by repeat (first|exact Drawn0.refl _|apply Drawn0.step)⟩

/-! ### slices_Compare_int_int: function 73 -/
def slices_Compare_int_int.l0 : Nat → List Int → List Int → List Int → Int → Int → Option (Int)
 | 0,_,_,_,_,_=>none
 | k + 1,x0,x1,x9,x10,x11=>if x11 < x10 then (if 0 ≤ x11 then (if x11 < (x9.length : Int) then (if x11 ≥ (x1.length : Int) then (some 1) else (if x11 < (x1.length : Int) then ((cmp_Compare_int.f (rd x9 x11) (rd x1 x11)).bind fun t277=>(if t277 = 0 then (slices_Compare_int_int.l0 k x0 x1 x9 x10 (wrap64 (x11 + 1))) else (some t277))) else (none))) else (none)) else (none)) else (if (x0.length : Int) < (x1.length : Int) then (some (-1)) else (some 0))
def slices_Compare_int_int.f (k : Nat) (l0 : List Int) (l1 : List Int) : Option (Int):=slices_Compare_int_int.l0 k l0 l1 l0 (l0.length : Int) 0
theorem slices_Compare_int_int.mono_l : ∀ k,(∀ y0 y1 y2 y3 y4,LeO (slices_Compare_int_int.l0 k y0 y1 y2 y3 y4) (slices_Compare_int_int.l0 (k + 1) y0 y1 y2 y3 y4))
 | 0=>fun _ _ _ _ _ r h=>by simp [slices_Compare_int_int.l0] at h
 | k + 1=>by
  have ih0:=slices_Compare_int_int.mono_l k
  ·intro y0 y1 y2 y3 y4
   unfold slices_Compare_int_int.l0
   repeat' first
   | (with_reducible exact ih0 _ _ _ _ _)
   | (with_reducible exact LeO.refl _)
   | (with_reducible exact LeO.none _)
   | (with_reducible refine LeO.ite ?_ ?_)
   | (with_reducible refine LeO.bind ?_ (fun _=>?_))
   | exact ih0 _ _ _ _ _
   | exact LeO.none _
   | refine LeO.ite ?_ ?_
   | refine LeO.bind ?_ (fun _=>?_)
theorem slices_Compare_int_int.mono : ∀ a0 a1 k,LeO (slices_Compare_int_int.f k a0 a1) (slices_Compare_int_int.f (k + 1) a0 a1):=by
 intro a0 a1 k
 have ih0:=slices_Compare_int_int.mono_l k
 unfold slices_Compare_int_int.f
 repeat' first
   | (with_reducible exact ih0 _ _ _ _ _)
   | (with_reducible exact LeO.refl _)
   | (with_reducible exact LeO.none _)
   | (with_reducible refine LeO.ite ?_ ?_)
   | (with_reducible refine LeO.bind ?_ (fun _=>?_))
   | exact ih0 _ _ _ _ _
   | exact LeO.none _
   | refine LeO.ite ?_ ?_
   | refine LeO.bind ?_ (fun _=>?_)
set_option maxHeartbeats 8000000 in
set_option maxRecDepth 100000 in
theorem slices_Compare_int_int.calls (k : Nat) (A0 : Option Addr) (c0 : Nat) (l0 : List Int) (A1 : Option Addr) (c1 : Nat) (l1 : List Int) (r : Int) (w : World) (hr0 : Kd.C (Kd.int .i64) w A0 l0.length l0) (hc0 : l0.length ≤ c0) (hr1 : Kd.C (Kd.int .i64) w A1 l1.length l1) (hc1 : l1.length ≤ c1) (h : slices_Compare_int_int.f k l0 l1 = some r) :
  Calls Try.prog 73 #[.slice A0 l0.length c0,.slice A1 l1.length c1] w fun e w'=>e = .returned (.int .i64 r) ∧ Drawn0 w w':=by
 have HR0:=Aside0.mk hr0
 have HC0:=Aside0.mk hc0
 clear hr0 hc0
 have HR1:=Aside0.mk hr1
 have HC1:=Aside0.mk hc1
 clear hr1 hc1
 have H : (slices_Compare_int_int.l0 k l0 l1 l0 (l0.length : Int) 0) = some r:=h
 clear h
 have H':=Aside0.mk H
 clear H
 go_enter Try.func73,Try.ntmps73
 go_wp2
 go_loopg [11] k (fun kq v11 w'=>∃ (x11_1 : Int),v11 = .int .i64 x11_1 ∧ Aside0 (slices_Compare_int_int.l0 kq l0 l1 l0 (l0.length : Int) x11_1 = some r) ∧ Aside0 (kq ≤ k) ∧ Drawn0 w w')
 case atStart=>exact ⟨(0),(by first|rfl|(simp;done)|(simp [*];done)),H',⟨Nat.le_refl _⟩,by repeat (first|exact Drawn0.refl _|apply Drawn0.step)⟩
 clear H'
 try clear c1
 try clear p2
 obtain ⟨x11_1,rfl,HA,HK1,⟨m1,rfl⟩⟩:=hrel
 cases gk with
 | zero=>exact absurd HA.out (by simp [slices_Compare_int_int.l0])
 | succ k1 =>
  have H:=HA.out
  clear HA
  simp only [slices_Compare_int_int.l0] at H
  by_cases c3 : x11_1 < (l0.length : Int)
  rotate_left
  ·rw [if_neg c3] at H
   have c3b0 : decide (x11_1 < (l0.length : Int)) = false:=decide_eq_false c3
   clear c3
   by_cases c10 : (l0.length : Int) < (l1.length : Int)
   ·rw [if_pos c10] at H
    have c10b0 : decide ((l0.length : Int) < (l1.length : Int)) = true:=decide_eq_true c10
    have c10b1 : decide (l0.length < l1.length) = true:=decide_eq_true (Int.ofNat_lt.mp c10)
    clear c10
    obtain rfl:=Option.some.inj H
    go_wp2
    go_ret
    exact ⟨by first|rfl|(simp;done)|(simp [*];done),by repeat (first|exact Drawn0.refl _|apply Drawn0.step)⟩
   rw [if_neg c10] at H
   have c10b0 : decide ((l0.length : Int) < (l1.length : Int)) = false:=decide_eq_false c10
   have c10b1 : decide (l0.length < l1.length) = false:=decide_eq_false (fun h=>c10 (Int.ofNat_lt.mpr h))
   clear c10
   obtain rfl:=Option.some.inj H
   go_wp2
   go_ret
   exact ⟨by first|rfl|(simp;done)|(simp [*];done),by repeat (first|exact Drawn0.refl _|apply Drawn0.step)⟩
  rw [if_pos c3] at H
  have c3b0 : decide (x11_1 < (l0.length : Int)) = true:=decide_eq_true c3
  clear c3
  by_cases c4 : 0 ≤ x11_1
  rotate_left
  ·rw [if_neg c4] at H
   exact absurd H (by simp)
  rw [if_pos c4] at H
  have c4b0 : decide (0 ≤ x11_1) = true:=decide_eq_true c4
  clear c4
  by_cases c5 : x11_1 < (l0.length : Int)
  rotate_left
  ·rw [if_neg c5] at H
   exact absurd H (by simp)
  rw [if_pos c5] at H
  have c5b0 : decide (x11_1 < (l0.length : Int)) = true:=decide_eq_true c5
  clear c5
  by_cases c6 : x11_1 ≥ (l1.length : Int)
  ·rw [if_pos c6] at H
   have c6b0 : decide ((l1.length : Int) ≤ x11_1) = true:=decide_eq_true c6
   clear c6
   obtain rfl:=Option.some.inj H
   have p275 : 0 ≤ (x11_1 : Int):=od
   have q275 : x11_1 < (l0.length : Int):=od
   obtain ⟨ad275,e275,hx275_0⟩:=Kd.at_int HR0.out x11_1 p275 q275
   cases e275
   replace p275:=eq_true p275
   replace q275:=eq_true q275
   go_wp2
   go_ret
   exact ⟨by first|rfl|(simp;done)|(simp [*];done),by repeat (first|exact Drawn0.refl _|apply Drawn0.step)⟩
  rw [if_neg c6] at H
  have c6b0 : decide ((l1.length : Int) ≤ x11_1) = false:=decide_eq_false c6
  clear c6
  by_cases c7 : x11_1 < (l1.length : Int)
  rotate_left
  ·rw [if_neg c7] at H
   exact absurd H (by simp)
  rw [if_pos c7] at H
  have c7b0 : decide (x11_1 < (l1.length : Int)) = true:=decide_eq_true c7
  clear c7
  replace H:=Option.bind_eq_some_iff.mp H
  obtain ⟨t277,A80,H⟩:=H
  replace H : (if t277 = 0 then (slices_Compare_int_int.l0 k1 l0 l1 l0 (l0.length : Int) (wrap64 (x11_1 + 1))) else (some t277)) = some r:=H
  have A8:=Aside0.mk A80
  clear A80
  by_cases c9 : t277 = 0
  rotate_left
  ·rw [if_neg c9] at H
   have c9b0 : (t277 == 0) = false:=beq_eq_false_iff_ne.mpr c9
   have c9b1 : (t277 != 0) = true:=bne_iff_ne.mpr c9
   obtain rfl:=Option.some.inj H
   have p275 : 0 ≤ (x11_1 : Int):=od
   have q275 : x11_1 < (l0.length : Int):=od
   obtain ⟨ad275,e275,hx275_0⟩:=Kd.at_int HR0.out x11_1 p275 q275
   cases e275
   replace p275:=eq_true p275
   replace q275:=eq_true q275
   have p276 : 0 ≤ (x11_1 : Int):=od
   have q276 : x11_1 < (l1.length : Int):=od
   obtain ⟨ad276,e276,hx276_0⟩:=Kd.at_int HR1.out x11_1 p276 q276
   cases e276
   replace p276:=eq_true p276
   replace q276:=eq_true q276
   go_wp2_with (first|((with_reducible refine gate_callee (f:=81) rfl ?_);refine goesL_ (some 26) rfl rfl Try.func81 (by kernel_rfl) rfl #[.int .i64 (rd l0 x11_1),.int .i64 (rd l1 x11_1)] rfl (by (try simp only [List.map_toArray,List.map_cons,List.map_nil]);first|done|rfl|(simp only [List.length_drop,List.length_take];rfl)) ?_;(with_reducible refine (cmp_Compare_int.calls (rd l0 x11_1) (rd l1 x11_1) t277 _ A8.out).mono ?_);rintro e w' ⟨rfl,⟨nd,rfl⟩⟩;refine ⟨_,rfl,?_⟩))
   go_ret
   exact ⟨by first|rfl|(simp;done)|(simp [*];done),by repeat (first|exact Drawn0.refl _|apply Drawn0.step)⟩
  rw [if_pos c9] at H
  have c9b0 : (t277 == 0) = true:=beq_iff_eq.mpr c9
  have c9b1 : (t277 != 0) = false:=bne_eq_false_iff_eq.mpr c9
  clear c9
  have H':=Aside0.mk H
  clear H
  have p275 : 0 ≤ (x11_1 : Int):=od
  have q275 : x11_1 < (l0.length : Int):=od
  obtain ⟨ad275,e275,hx275_0⟩:=Kd.at_int HR0.out x11_1 p275 q275
  cases e275
  replace p275:=eq_true p275
  replace q275:=eq_true q275
  have p276 : 0 ≤ (x11_1 : Int):=od
  have q276 : x11_1 < (l1.length : Int):=od
  obtain ⟨ad276,e276,hx276_0⟩:=Kd.at_int HR1.out x11_1 p276 q276
  cases e276
  replace p276:=eq_true p276
  replace q276:=eq_true q276
  go_wp2_with (first|((with_reducible refine gate_callee (f:=81) rfl ?_);refine goesL_ (some 26) rfl rfl Try.func81 (by kernel_rfl) rfl #[.int .i64 (rd l0 x11_1),.int .i64 (rd l1 x11_1)] rfl (by (try simp only [List.map_toArray,List.map_cons,List.map_nil]);first|done|rfl|(simp only [List.length_drop,List.length_take];rfl)) ?_;(with_reducible refine (cmp_Compare_int.calls (rd l0 x11_1) (rd l1 x11_1) t277 _ A8.out).mono ?_);rintro e w' ⟨rfl,⟨nd,rfl⟩⟩;refine ⟨_,rfl,?_⟩))
  go_roundg k1
  case measure=>have:=HK1.out;omega
  case rel=>exact ⟨(wrap64 (x11_1 + 1)),(by first|rfl|(simp;done)|(simp [*];done)),H',⟨by have:=HK1.out;omega⟩,by repeat (first|exact Drawn0.refl _|apply Drawn0.step)⟩


end
end Go.Proofs.Ytjmpanikfomgeaa.QFnExactAreSameForm
