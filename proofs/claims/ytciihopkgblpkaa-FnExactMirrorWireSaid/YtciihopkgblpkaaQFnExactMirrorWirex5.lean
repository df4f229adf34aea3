/- Functions that the law FnExactMirrorWire comes to, as Lean functions, with the proof that the Go code does what they say: written by a program of this session over the kit's print. No condition but those named. -/
import Derived.Test.YtciihopkgblpkaaQFnExactMirrorWirex0
import Derived.Test.YtciihopkgblpkaaQFnExactMirrorWirex4
namespace Go.Proofs.Ytciihopkgblpkaa.QFnExactMirrorWire
open Go.RowKit Go.Proofs.YtciihopkgblpkaaW.PrintWords Go.Proofs.YtciihopkgblpkaaW.PrintLast Go.Proofs.YtciihopkgblpkaaW.PrintMore
attribute [local go_sem] max2_int min2_int max_two min_two max_three min_three max_four min_four   -- for this text's walks alone
set_option linter.unusedVariables false
set_option linter.unusedSimpArgs false

/-! ### slices_Reverse_int_int: function 51 -/
section
open Kd
def slices_Reverse_int_int.l0 : Nat → List Int → Int → Int → Option (List Int)
 | 0,_,_,_=>none
 | k + 1,x0,x2,x3=>if x2 < x3 then (if 0 ≤ x3 then (if x3 < (x0.length : Int) then (if 0 ≤ x2 then (if x2 < (x0.length : Int) then (slices_Reverse_int_int.l0 k ((x0.set (x2 : Int).toNat (rd x0 x3)).set (x3 : Int).toNat (rd x0 x2)) (wrap64 (x2 + 1)) (wrap64 (x3 - 1))) else (none)) else (none)) else (none)) else (none)) else (some x0)
def slices_Reverse_int_int.f (k : Nat) (l0 : List Int) : Option (List Int):=slices_Reverse_int_int.l0 k l0 0 (wrap64 ((l0.length : Int) - 1))
theorem slices_Reverse_int_int.mono_l : ∀ k,(∀ y0 y1 y2,LeO (slices_Reverse_int_int.l0 k y0 y1 y2) (slices_Reverse_int_int.l0 (k + 1) y0 y1 y2))
 | 0=>fun _ _ _ r h=>by simp [slices_Reverse_int_int.l0] at h
 | k + 1=>by
  have ih0:=slices_Reverse_int_int.mono_l k
  ·intro y0 y1 y2
   unfold slices_Reverse_int_int.l0
   repeat' first
   | (with_reducible exact ih0 _ _ _)
   | (with_reducible exact LeO.refl _)
   | (with_reducible exact LeO.none _)
   | (with_reducible refine LeO.ite ?_ ?_)
   | (with_reducible refine LeO.bind ?_ (fun _=>?_))
   | exact ih0 _ _ _
   | exact LeO.none _
   | refine LeO.ite ?_ ?_
   | refine LeO.bind ?_ (fun _=>?_)
theorem slices_Reverse_int_int.mono : ∀ a0 k,LeO (slices_Reverse_int_int.f k a0) (slices_Reverse_int_int.f (k + 1) a0):=by
 intro a0 k
 have ih0:=slices_Reverse_int_int.mono_l k
 unfold slices_Reverse_int_int.f
 repeat' first
   | (with_reducible exact ih0 _ _ _)
   | (with_reducible exact LeO.refl _)
   | (with_reducible exact LeO.none _)
   | (with_reducible refine LeO.ite ?_ ?_)
   | (with_reducible refine LeO.bind ?_ (fun _=>?_))
   | exact ih0 _ _ _
   | exact LeO.none _
   | refine LeO.ite ?_ ?_
   | refine LeO.bind ?_ (fun _=>?_)
def slices_Reverse_int_int.T3 : Bool × List (List Nat × List Nat):=(true,[([],[]),([],[]),([],[]),([],[]),([],[]),([],[]),([4,5],[4,5]),([6],[6]),([],[]),([],[]),([8,9],[8,9]),([10],[10]),([0,1,0,1,4,5,6,7,11],[0,1]),([12,7,0,1,4,5,6,7,11],[7,12]),([2,3,0,1,2,3,4,5,6,7,8,9,10,11,12,13],[2,3]),([14,11,13,0,1,2,3,4,5,6,7,8,9,10,11,12,13],[11,14])])
def slices_Reverse_int_int.B3 : List Nat:=[0,0,0,0,0,0,48,112,0,0,768,1792,4083,8179,16383,32767]
theorem slices_Reverse_int_int.tab3 : rtab .any (opsOf Try.f51 3) = slices_Reverse_int_int.T3:=by kernel_rfl
theorem slices_Reverse_int_int.bits3 : waitsOk slices_Reverse_int_int.T3.2 slices_Reverse_int_int.B3 = true:=by kernel_rfl
set_option maxHeartbeats 8000000 in
set_option maxRecDepth 100000 in
theorem slices_Reverse_int_int.calls (k : Nat) (P0_ : Nat → Prop) (u9000_ : Value) (l0 : List Int) (r : List Int) (w0 w : World) (hB : Below w0.heap.size w0 w) (ho0 : Kd.R (Kd.int .i64) 3 w w0.heap.size P0_ u9000_ l0) (h : slices_Reverse_int_int.f k l0 = some r) :
  Calls Try.prog 51 #[u9000_] w fun e w'=>e = .returned (.tuple #[]) ∧ Kd.R (Kd.int .i64) 3 w' w0.heap.size (fun k_=>(P0_ k_ ∨ w.heap.size ≤ k_)) u9000_ r ∧ Below w0.heap.size w0 w' ∧ Kept w w' (fun k_=>P0_ k_):=by
 have HO0:=Aside0.mk (show Kd.R (Kd.int .i64) 3 w w0.heap.size (fun k_=>(P0_ k_ ∨ w.heap.size ≤ k_)) u9000_ l0 from R_mono ho0 (fun k_ hk=>(.inl hk)))
 have HK:=Aside0.mk (Kept.refl w (fun k_=>P0_ k_))
 have HW0:=Aside0.mk hB.size
 have HB:=Aside0.mk hB
 clear hB
 have H : (slices_Reverse_int_int.l0 k l0 0 (wrap64 ((l0.length : Int) - 1))) = some r:=h
 clear h
 have H':=Aside0.mk H
 clear H
 obtain ⟨Ao2,co2,eo2⟩:=R_slice HO0.out
 subst eo2
 go_enter Try.func51,Try.ntmps51
 go_wp2
 go_loopg [2,3] k (fun kq v2 v3 w'=>∃ (x0_1 : List Int) (x2_1 : Int) (x3_1 : Int),v2 = .int .i64 x2_1 ∧ v3 = .int .i64 x3_1 ∧ Aside0 (slices_Reverse_int_int.l0 kq x0_1 x2_1 x3_1 = some r) ∧ Aside0 (kq ≤ k) ∧ Aside0 (Kd.R (Kd.int .i64) 3 w' w0.heap.size (fun k_=>(P0_ k_ ∨ w.heap.size ≤ k_)) (.slice Ao2 l0.length co2) x0_1) ∧ Aside0 (Kept w w' (fun k_=>P0_ k_)) ∧ Aside0 (Below w0.heap.size w0 w'))
 case atStart=>exact ⟨(l0),(0),(wrap64 ((l0.length : Int) - 1)),(by first|rfl|(simp;done)|(simp [*];done)),(by first|rfl|(simp;done)|(simp [*];done)),H',⟨Nat.le_refl _⟩,⟨by (with_reducible repeat (first|apply R_alloc|apply R_drewN|apply R_drew));exact HO0.out⟩,⟨by repeat (first|(with_reducible first|exact HK.out|apply Kept.alloc|apply Kept.drewN|apply Kept.drew)|exact HK.out)⟩,⟨by repeat (first|(with_reducible first|exact HB.out|apply below_alloc|apply pw_below_drewN|apply below_drew1)|exact HB.out)⟩⟩
 clear H'
 try clear p2
 obtain ⟨x0_1,x2_1,x3_1,rfl,rfl,HA,HK1,HO_0,HK,HB⟩:=hrel
 have hl0_1:=(R_reads' HO_0.out).1
 rw [hl0_1] at HO_0
 (try simp only [hl0_1])
 cases gk with
 | zero=>exact absurd HA.out (by simp [slices_Reverse_int_int.l0])
 | succ k1 =>
  have H:=HA.out
  clear HA
  simp only [slices_Reverse_int_int.l0] at H
  by_cases c3 : x2_1 < x3_1
  rotate_left
  ·rw [if_neg c3] at H
   have c3b0 : decide (x2_1 < x3_1) = false:=decide_eq_false c3
   clear c3
   obtain rfl:=Option.some.inj H
   go_wp2
   first|go_end0|((try simp only [Exit.inBlock,Exit.then]);refine bodyPost_ret (results_none rfl _ _ _) rfl ?_)
   exact ⟨by first|rfl|(simp [errW_none,errW_some] <;> rfl)|(simp [*,errW_none,errW_some] <;> rfl),(by first|exact (by (with_reducible repeat (first|apply R_alloc|apply R_drewN|apply R_drew));exact HO_0.out)|(simp only [hl0_1];exact (by (with_reducible repeat (first|apply R_alloc|apply R_drewN|apply R_drew));exact HO_0.out))),by repeat (first|(with_reducible first|exact HB.out|apply below_alloc|apply pw_below_drewN|apply below_drew1)|exact HB.out),by repeat (first|(with_reducible first|exact HK.out|apply Kept.alloc|apply Kept.drewN|apply Kept.drew)|exact HK.out)⟩
  rw [if_pos c3] at H
  have c3b0 : decide (x2_1 < x3_1) = true:=decide_eq_true c3
  clear c3
  by_cases c4 : 0 ≤ x3_1
  rotate_left
  ·rw [if_neg c4] at H
   exact absurd H (by simp)
  rw [if_pos c4] at H
  have c4b0 : decide (0 ≤ x3_1) = true:=decide_eq_true c4
  clear c4
  by_cases c5 : x3_1 < (x0_1.length : Int)
  rotate_left
  ·rw [if_neg c5] at H
   exact absurd H (by simp)
  rw [if_pos c5] at H
  have c5b0 : decide (x3_1 < (x0_1.length : Int)) = true:=decide_eq_true c5
  (try simp only [hl0_1] at c5b0)
  clear c5
  by_cases c6 : 0 ≤ x2_1
  rotate_left
  ·rw [if_neg c6] at H
   exact absurd H (by simp)
  rw [if_pos c6] at H
  have c6b0 : decide (0 ≤ x2_1) = true:=decide_eq_true c6
  clear c6
  by_cases c7 : x2_1 < (x0_1.length : Int)
  rotate_left
  ·rw [if_neg c7] at H
   exact absurd H (by simp)
  rw [if_pos c7] at H
  have c7b0 : decide (x2_1 < (x0_1.length : Int)) = true:=decide_eq_true c7
  (try simp only [hl0_1] at c7b0)
  clear c7
  obtain ⟨y170,hy170⟩ : ∃ y_ : List Int,y_ = (x0_1.set (x2_1 : Int).toNat (rd x0_1 x3_1)):=⟨_,rfl⟩
  replace H : (slices_Reverse_int_int.l0 k1 (y170.set (x3_1 : Int).toNat (rd x0_1 x2_1)) (wrap64 (x2_1 + 1)) (wrap64 (x3_1 - 1))) = some r:=by first|(rw [hy170];with_reducible exact H)|(have H2_:=(Option.bind_some _ _).symm.trans H;rw [hy170];with_reducible exact H2_)|(have H2_:=(Option.bind_some _ _).symm.trans H;with_reducible exact H2_)|with_reducible exact H|(rw [hy170];exact H)|exact H
  have Ny170:=Aside0.mk hy170
  clear hy170
  obtain ⟨y171,hy171⟩ : ∃ y_ : List Int,y_ = (y170.set (x3_1 : Int).toNat (rd x0_1 x2_1)):=⟨_,rfl⟩
  replace H : (slices_Reverse_int_int.l0 k1 y171 (wrap64 (x2_1 + 1)) (wrap64 (x3_1 - 1))) = some r:=by first|(rw [hy171];with_reducible exact H)|(have H2_:=(Option.bind_some _ _).symm.trans H;rw [hy171];with_reducible exact H2_)|(have H2_:=(Option.bind_some _ _).symm.trans H;with_reducible exact H2_)|with_reducible exact H|(rw [hy171];exact H)|exact H
  have Ny171:=Aside0.mk hy171
  clear hy171
  have H':=Aside0.mk H
  clear H
  try go_wp2
  have n0_:=Aside0.mk (R_drew HO_0.out)
  have n1_:=Aside0.mk (Kept.drew HK.out)
  have n2_:=Aside0.mk (below_drew1 HB.out)
  clear HO_0
  clear HK
  clear HB
  have HO_0:=n0_
  have HK:=n1_
  have HB:=n2_
  clear n0_ n1_ n2_
  have p168 : 0 ≤ (x3_1 : Int):=of_decide_eq_true (by first|(with_reducible assumption)|assumption)
  have q168 : x3_1 < (x0_1.length : Int):=of_decide_eq_true (by first|(with_reducible assumption)|assumption)
  obtain ⟨ad168,e168,hx168_0⟩:=Kd.at_int (R_reads' HO_0.out).2.2 x3_1 p168 q168
  cases e168
  replace p168:=eq_true p168
  replace q168:=eq_true q168
  have p169 : 0 ≤ (x2_1 : Int):=of_decide_eq_true (by first|(with_reducible assumption)|assumption)
  have q169 : x2_1 < (x0_1.length : Int):=of_decide_eq_true (by first|(with_reducible assumption)|assumption)
  obtain ⟨ad169,e169,hx169_0⟩:=Kd.at_int (R_reads' HO_0.out).2.2 x2_1 p169 q169
  obtain rfl : ad168 = ad169:=(by injection e169)
  replace p169:=eq_true p169
  replace q169:=eq_true q169
  have p8 : 0 ≤ (x2_1 : Int):=of_decide_eq_true (by first|(with_reducible assumption)|assumption)
  have q8 : (x2_1 : Int) < ((x0_1.length : Int) : Int):=of_decide_eq_true (by first|(with_reducible assumption)|assumption)
  obtain ⟨go8,co8,eo8,gb8,gl8,cl8,HG8⟩:=R_form HO_0.out (by omega)
  (first|cases eo8|(injection eo8 with ea_ en_ ec_;(first|subst ea_|(injection ea_ with ea_;subst ea_));subst ec_;clear en_))
  have GB8:=Aside0.mk gb8
  have GG8:=Aside0.mk HG8
  clear gb8 gl8 HG8
  have HMgo8:=Aside0.mk (show (P0_ go8 ∨ w.heap.size ≤ go8) from (HO_0.out.1 _ rfl))
  (first|simp only [add_plain] at hx168_0|skip)
  (first|simp only [add_plain] at hx169_0|skip)
  obtain ⟨hx8_0,hf8_0⟩:=R_celln 0 HO_0.out (x2_1 : Int) p8 q8
  replace p8:=eq_true p8
  replace q8:=eq_true q8
  have HP11:=R_putn HO_0.out (x2_1 : Int) (rd x0_1 x3_1)
  rw [← Ny170.out] at HP11
  have HQ11:=Aside0.mk HP11
  clear HP11
  have p9 : 0 ≤ (x3_1 : Int):=of_decide_eq_true (by first|(with_reducible assumption)|assumption)
  have q9 : (x3_1 : Int) < ((x0_1.length : Int) : Int):=of_decide_eq_true (by first|(with_reducible assumption)|assumption)
  obtain ⟨hx9_0,hf9_0⟩:=R_celln 0 HQ11.out (x3_1 : Int) p9 q9
  replace p9:=eq_true p9
  replace q9:=eq_true q9
  have HP12:=R_putn HQ11.out (x3_1 : Int) (rd x0_1 x2_1)
  rw [← Ny171.out] at HP12
  have HQ12:=Aside0.mk HP12
  clear HP12
  refine start_ (n:=16) (S:=fun w'=>w'.cell? ⟨go8,(x3_1).toNat,none⟩ = some (.int .i64 (rd x0_1 x3_1)) ∧ w'.cell? ⟨go8,(x2_1).toNat,none⟩ = some (.int .i64 (rd x0_1 x2_1))) (ds:=[13,15]) #[false,false,false,false,false,false,false,false,false,false,false,false,false,false,false,false] (by kernel_rfl) rfl rfl ⟨hx168_0,hx169_0⟩ (fun hHeld=>?_);refine with_tabW slices_Reverse_int_int.tab3 slices_Reverse_int_int.bits3 (fun HT_ HW_=>?_)
  generalize wr.drew = w10 at HO_0 HK HB GG8 HQ11 HQ12 hf8_0 hf9_0 hx168_0 hx169_0 hx8_0 hx9_0 hHeld ⊢
  refine pure_ (i:=0) (N:=some 14) (v:=?_) (a':=?_) #[true,false,false,false,false,false,false,false,false,false,false,false,false,false,false,false] rfl rfl (any_of HT_.out (by kernel_rfl)) (fun _ _ _ h=>h) (Or.inl ⟨by rfl,?_⟩) ?_ ?_
  rotate_left
  ·intro w'
   go_simp
   with_reducible rfl
  rotate_left
  ·simp only [Act.put,List.setIfInBounds_toArray,List.set_cons_zero,List.set_cons_succ,i64_w,i32_w]
   rfl
  refine pure_ (i:=1) (N:=some 15) (v:=?_) (a':=?_) #[true,true,false,false,false,false,false,false,false,false,false,false,false,false,false,false] rfl rfl (any_of HT_.out (by kernel_rfl)) (fun _ _ _ h=>h) (Or.inl ⟨by rfl,?_⟩) ?_ ?_
  rotate_left
  ·intro w'
   go_simp
   with_reducible rfl
  rotate_left
  ·simp only [Act.put,List.setIfInBounds_toArray,List.set_cons_zero,List.set_cons_succ,i64_w,i32_w]
   rfl
  refine pure_ (i:=2) (N:=some 16) (v:=?_) (a':=?_) #[true,true,true,false,false,false,false,false,false,false,false,false,false,false,false,false] rfl rfl (any_of HT_.out (by kernel_rfl)) (fun _ _ _ h=>h) (Or.inl ⟨by rfl,?_⟩) ?_ ?_
  rotate_left
  ·intro w'
   go_simp
   with_reducible rfl
  rotate_left
  ·simp only [Act.put,List.setIfInBounds_toArray,List.set_cons_zero,List.set_cons_succ,i64_w,i32_w]
   rfl
  refine pure_ (i:=3) (N:=some 17) (v:=?_) (a':=?_) #[true,true,true,true,false,false,false,false,false,false,false,false,false,false,false,false] rfl rfl (any_of HT_.out (by kernel_rfl)) (fun _ _ _ h=>h) (Or.inl ⟨by rfl,?_⟩) ?_ ?_
  rotate_left
  ·intro w'
   go_simp
   with_reducible rfl
  rotate_left
  ·simp only [Act.put,List.setIfInBounds_toArray,List.set_cons_zero,List.set_cons_succ,i64_w,i32_w]
   rfl
  refine pure_ (i:=4) (N:=some 18) (v:=?_) (a':=?_) #[true,true,true,true,true,false,false,false,false,false,false,false,false,false,false,false] rfl rfl (any_of HT_.out (by kernel_rfl)) (fun _ _ _ h=>h) (Or.inl ⟨by rfl,?_⟩) ?_ ?_
  rotate_left
  ·intro w'
   go_simp
   with_reducible rfl
  rotate_left
  ·simp only [Act.put,List.setIfInBounds_toArray,List.set_cons_zero,List.set_cons_succ,i64_w,i32_w]
   rfl
  refine pure_ (i:=5) (N:=some 19) (v:=?_) (a':=?_) #[true,true,true,true,true,true,false,false,false,false,false,false,false,false,false,false] rfl rfl (any_of HT_.out (by kernel_rfl)) (fun _ _ _ h=>h) (Or.inl ⟨by rfl,?_⟩) ?_ ?_
  rotate_left
  ·intro w'
   go_simp
   with_reducible rfl
  rotate_left
  ·simp only [Act.put,List.setIfInBounds_toArray,List.set_cons_zero,List.set_cons_succ,i64_w,i32_w]
   rfl
  refine pure_ (i:=6) (N:=some 20) (v:=?_) (a':=?_) #[true,true,true,true,true,true,true,false,false,false,false,false,false,false,false,false] rfl rfl (any_of HT_.out (by kernel_rfl)) (fun _ _ _ h=>h) (Or.inl ⟨by rfl,?_⟩) ?_ ?_
  rotate_left
  ·intro w'
   go_simp
   with_reducible rfl
  rotate_left
  ·simp only [Act.put,List.setIfInBounds_toArray,List.set_cons_zero,List.set_cons_succ,i64_w,i32_w]
   rfl
  refine pure_ (i:=8) (N:=some 22) (v:=?_) (a':=?_) #[true,true,true,true,true,true,true,false,true,false,false,false,false,false,false,false] rfl rfl (any_of HT_.out (by kernel_rfl)) (fun _ _ _ h=>h) (Or.inl ⟨by rfl,?_⟩) ?_ ?_
  rotate_left
  ·intro w'
   go_simp
   with_reducible rfl
  rotate_left
  ·simp only [Act.put,List.setIfInBounds_toArray,List.set_cons_zero,List.set_cons_succ,i64_w,i32_w]
   rfl
  refine pure_ (i:=9) (N:=some 23) (v:=?_) (a':=?_) #[true,true,true,true,true,true,true,false,true,true,false,false,false,false,false,false] rfl rfl (any_of HT_.out (by kernel_rfl)) (fun _ _ _ h=>h) (Or.inl ⟨by rfl,?_⟩) ?_ ?_
  rotate_left
  ·intro w'
   go_simp
   with_reducible rfl
  rotate_left
  ·simp only [Act.put,List.setIfInBounds_toArray,List.set_cons_zero,List.set_cons_succ,i64_w,i32_w]
   rfl
  refine pure_ (i:=10) (N:=some 24) (v:=?_) (a':=?_) #[true,true,true,true,true,true,true,false,true,true,true,false,false,false,false,false] rfl rfl (any_of HT_.out (by kernel_rfl)) (fun _ _ _ h=>h) (Or.inl ⟨by rfl,?_⟩) ?_ ?_
  rotate_left
  ·intro w'
   go_simp
   with_reducible rfl
  rotate_left
  ·simp only [Act.put,List.setIfInBounds_toArray,List.set_cons_zero,List.set_cons_succ,i64_w,i32_w]
   rfl
  refine take_ (i:=7) (N:=some 21) (v:=?_) (a':=?_) #[true,true,true,true,true,true,true,true,true,true,true,false,false,false,false,false] rfl rfl (take_ofW HT_.out HW_.out (by kernel_rfl)) (fun _ _ _ h=>h) (Or.inl ⟨by rfl,?_⟩) hHeld ?_ ?_
  rotate_left
  ·rintro w' ⟨s0,s1⟩
   go_simp
   with_reducible rfl
  rotate_left
  ·simp only [Act.put,List.setIfInBounds_toArray,List.set_cons_zero,List.set_cons_succ,i64_w,i32_w]
   rfl
  refine take_ (i:=11) (N:=some 25) (v:=?_) (a':=?_) #[true,true,true,true,true,true,true,true,true,true,true,true,false,false,false,false] rfl rfl (take_ofW HT_.out HW_.out (by kernel_rfl)) (fun _ _ _ h=>h) (Or.inl ⟨by rfl,?_⟩) hHeld ?_ ?_
  rotate_left
  ·rintro w' ⟨s0,s1⟩
   go_simp
   with_reducible rfl
  rotate_left
  ·simp only [Act.put,List.setIfInBounds_toArray,List.set_cons_zero,List.set_cons_succ,i64_w,i32_w]
   rfl
  refine pure_ (i:=12) (N:=some 26) (v:=?_) (a':=?_) #[true,true,true,true,true,true,true,true,true,true,true,true,true,false,false,false] rfl rfl (any_of HT_.out (by kernel_rfl)) (fun _ _ _ h=>h) (Or.inl ⟨by rfl,?_⟩) ?_ ?_
  rotate_left
  ·intro w'
   go_simp
   with_reducible rfl
  rotate_left
  ·simp only [Act.put,List.setIfInBounds_toArray,List.set_cons_zero,List.set_cons_succ,i64_w,i32_w]
   rfl
  refine last_ (i:=13) (N:=none) #[true,true,true,true,true,true,true,true,true,true,true,true,true,true,false,false] rfl rfl (one_of HT_.out (by kernel_rfl)) (by decide) (fun K hK=>?_)
  refine skip_ (w1:=?_) (by rfl) rfl ?_ ?_
  rotate_left
  ·go_simp
   rfl
  refine hK.out _ _ ?_
  clear hK K
  refine pure_ (i:=14) (N:=some 27) (v:=?_) (a':=?_) #[true,true,true,true,true,true,true,true,true,true,true,true,true,true,true,false] rfl rfl (any_of HT_.out (by kernel_rfl)) (fun _ _ _ h=>h) (Or.inl ⟨by rfl,?_⟩) ?_ ?_
  rotate_left
  ·intro w'
   go_simp
   with_reducible rfl
  rotate_left
  ·simp only [Act.put,List.setIfInBounds_toArray,List.set_cons_zero,List.set_cons_succ,i64_w,i32_w]
   rfl
  refine last_ (i:=15) (N:=none) #[true,true,true,true,true,true,true,true,true,true,true,true,true,true,true,true] rfl rfl (one_of HT_.out (by kernel_rfl)) (by decide) (fun K hK=>?_)
  refine skip_ (w1:=?_) (by rfl) rfl ?_ ?_
  rotate_left
  ·go_simp
   rfl
  refine hK.out _ _ ?_
  clear hK K
  refine done_ (done_of HT_.out (by kernel_rfl)) ?_
  try go_wp2
  (try simp only [← hl0_1])
  go_roundg k1
  case measure=>have:=HK1.out;omega
  case rel=>exact ⟨(y171),(wrap64 (x2_1 + 1)),(wrap64 (x3_1 - 1)),(by first|rfl|(simp;done)|(simp [*];done)),(by first|rfl|(simp;done)|(simp [*];done)),H',⟨by have:=HK1.out;omega⟩,⟨by (try simp only [hl0_1]);(with_reducible repeat (first|apply R_alloc|apply R_drewN|apply R_drew));exact HQ12.out⟩,⟨by repeat (first|(with_reducible first|exact HK.out|apply Kept.alloc|apply Kept.drewN|apply Kept.drew|refine Kept.setCell ?_ HMgo8.out _|refine Kept.setCell ?_ HMgo8.out _)|exact HK.out)⟩,⟨by repeat (first|(with_reducible first|exact HB.out|apply below_alloc|apply pw_below_drewN|apply below_drew1|refine below_set ?_ GB8.out|refine below_set ?_ GB8.out)|exact HB.out)⟩⟩

/-! ### impl_MirrorWire: function 27 -/
def impl_MirrorWire.f (k : Nat) (a0_0 : Int) (l0_1 : List Int) (l0_2 : List Int) : Option (Int × List Int × List Int × Bool):=(impl_IsWire.f k a0_0 l0_1 l0_2).bind fun t174=>(if t174 = true then ((mapped_49.f k l0_1 a0_0).bind fun t175=>((mapped_50.f k l0_2).bind fun t178=>((slices_Reverse_int_int.f k t175).bind fun t182=>((slices_Reverse_int_int.f k t178).bind fun t183=>(some (a0_0,t182,t183,true)))))) else (some (0,([] : List Int),([] : List Int),false)))
theorem impl_MirrorWire.mono : ∀ a0 a1 a2 k,LeO (impl_MirrorWire.f k a0 a1 a2) (impl_MirrorWire.f (k + 1) a0 a1 a2):=by
 intro a0 a1 a2 k
 unfold impl_MirrorWire.f
 repeat' first
   | (with_reducible exact impl_IsWire.mono _ _ _ _)
   | (with_reducible exact mapped_49.mono _ _ _)
   | (with_reducible exact mapped_50.mono _ _)
   | (with_reducible exact slices_Reverse_int_int.mono _ _)
   | (with_reducible exact LeO.refl _)
   | (with_reducible exact LeO.none _)
   | (with_reducible refine LeO.ite ?_ ?_)
   | (with_reducible refine LeO.bind ?_ (fun _=>?_))
   | exact impl_IsWire.mono _ _ _ _
   | exact mapped_49.mono _ _ _
   | exact mapped_50.mono _ _
   | exact slices_Reverse_int_int.mono _ _
   | exact LeO.none _
   | refine LeO.ite ?_ ?_
   | refine LeO.bind ?_ (fun _=>?_)
def impl_MirrorWire.T3 : Bool × List (List Nat × List Nat):=(true,[([],[]),([0],[0]),([],[]),([2],[2]),([],[]),([3,4],[3,4]),([],[]),([6],[6]),([7,5],[7]),([1,5,8],[1,5,8]),([],[]),([10,9,8,0,1,2,3,4,5,6,7,8,9,10],[9,10])])
def impl_MirrorWire.B3 : List Nat:=[0,1,0,4,0,28,0,64,252,511,0,2047]
theorem impl_MirrorWire.tab3 : rtab .any (opsOf Try.f27 3) = impl_MirrorWire.T3:=by kernel_rfl
theorem impl_MirrorWire.bits3 : waitsOk impl_MirrorWire.T3.2 impl_MirrorWire.B3 = true:=by kernel_rfl
set_option maxHeartbeats 8000000 in
set_option maxRecDepth 100000 in
theorem impl_MirrorWire.calls (k : Nat) (a0_0 : Int) (A0_1 : Option Addr) (c0_1 : Nat) (l0_1 : List Int) (A0_2 : Option Addr) (c0_2 : Nat) (l0_2 : List Int) (r1 : Int) (r2 : List Int) (r3 : List Int) (r4 : Bool) (w : World) (hr0_1 : Kd.C (Kd.int .i64) w A0_1 l0_1.length l0_1) (hc0_1 : l0_1.length ≤ c0_1) (hr0_2 : Kd.C (Kd.int .i64) w A0_2 l0_2.length l0_2) (hc0_2 : l0_2.length ≤ c0_2) (h : impl_MirrorWire.f k a0_0 l0_1 l0_2 = some (r1,r2,r3,r4)) :
  Calls Try.prog 27 #[.agg #[.int .i64 a0_0,.slice A0_1 l0_1.length c0_1,.slice A0_2 l0_2.length c0_2]] w fun e w'=>∃ v1_ v2_ : Value,e = .returned (.tuple #[.agg #[.int .i64 r1,v1_,v2_],.bool r4]) ∧ Kd.R (Kd.int .i64) 3 w' w.heap.size (fun k_=>some k_ ≠ (v2_ : Value).ownBlock) v1_ r2 ∧ Kd.R (Kd.int .i64) 3 w' w.heap.size (fun k_=>some k_ ≠ (v1_ : Value).ownBlock) v2_ r3 ∧ Below w.heap.size w w':=by
 have hu27:=Try.underlying27
 have HR0_1:=Aside0.mk hr0_1
 have HC0_1:=Aside0.mk hc0_1
 clear hr0_1 hc0_1
 have HR0_2:=Aside0.mk hr0_2
 have HC0_2:=Aside0.mk hc0_2
 clear hr0_2 hc0_2
 have HB:=Aside0.mk (Below.refl w.heap.size w)
 have H : ((impl_IsWire.f k a0_0 l0_1 l0_2).bind fun t174=>(if t174 = true then ((mapped_49.f k l0_1 a0_0).bind fun t175=>((mapped_50.f k l0_2).bind fun t178=>((slices_Reverse_int_int.f k t175).bind fun t182=>((slices_Reverse_int_int.f k t178).bind fun t183=>(some (a0_0,t182,t183,true)))))) else (some (0,([] : List Int),([] : List Int),false)))) = some (r1,r2,r3,r4):=h
 clear h
 replace H:=Option.bind_eq_some_iff.mp H
 obtain ⟨t174,A20,H⟩:=H
 replace H : (if t174 = true then ((mapped_49.f k l0_1 a0_0).bind fun t175=>((mapped_50.f k l0_2).bind fun t178=>((slices_Reverse_int_int.f k t175).bind fun t182=>((slices_Reverse_int_int.f k t178).bind fun t183=>(some (a0_0,t182,t183,true)))))) else (some (0,([] : List Int),([] : List Int),false))) = some (r1,r2,r3,r4):=H
 have A2:=Aside0.mk A20
 clear A20
 by_cases c3 : t174 = true
 rotate_left
 ·replace c3:=Bool.eq_false_iff.mpr c3
  subst c3
  have H1 : (some (0,([] : List Int),([] : List Int),false)) = some (r1,r2,r3,r4):=by rw [if_neg (show ¬ (false = true) by decide)] at H;exact H
  clear H
  have H:=H1
  clear H1
  simp only [Option.some.injEq,Prod.mk.injEq] at H
  obtain ⟨rfl,rfl,rfl,rfl⟩:=H
  go_enter Try.func27,Try.ntmps27
  go_wp2_with (first|((with_reducible refine gate_dst (N:=1) rfl ?_);refine box_event ?hg (N:=1) ?hd (cs:=#[.int .i64 a0_0,.slice A0_1 l0_1.length c0_1,.slice A0_2 l0_2.length c0_2]) (t:=27) ?hr ?_;(case hd=>rfl);(case hg=>rfl);(case hr=>first|(go_simp;done)|(go_simp;rfl));intro gb172 hg w34 hbox hb;have n0_:=Aside0.mk (below_step (by repeat (first|(with_reducible first|exact HB.out|apply below_alloc|apply pw_below_drewN|apply below_drew1)|exact HB.out)) hb);have n1_:=Aside0.mk (hbox);have n2_:=Aside0.mk ((by rw [hg];exact (below_size (by repeat (first|(with_reducible first|exact HB.out|apply below_alloc|apply pw_below_drewN|apply below_drew1)|exact HB.out))) : w.heap.size ≤ gb172));have n3_:=Aside0.mk ((by rw [hg];exact (below_size (by repeat (first|(with_reducible first|exact HB.out|apply below_alloc|apply pw_below_drewN|apply below_drew1)|exact HB.out))) : w.heap.size ≤ gb172));clear HB;have HB:=n0_;have BK172:=n1_;have GW172:=n2_;have GE172:=n3_;clear n0_ n1_ n2_ n3_;clear hb hbox hg)|((with_reducible refine gate_dst (N:=2) rfl ?_);refine box_event ?hg (N:=2) ?hd (cs:=#[.int .i64 0,.slice none 0 0,.slice none 0 0]) (t:=27) ?hr ?_;(case hd=>rfl);(case hg=>rfl);(case hr=>first|(go_simp;done)|(go_simp;rfl));intro gb173 hg w35 hbox hb;have n0_:=Aside0.mk (blk_below (g:=gb172) (o:=.cells #[.int .i64 a0_0,.slice A0_1 l0_1.length c0_1,.slice A0_2 l0_2.length c0_2] 27 (0,0)) (by (with_reducible repeat (first|apply blk_drewN|apply blk_drew|apply blk_alloc));exact BK172.out) hb);have n1_:=Aside0.mk (below_step (by repeat (first|(with_reducible first|exact HB.out|apply below_alloc|apply pw_below_drewN|apply below_drew1|refine below_set ?_ GE172.out)|exact HB.out)) hb);have n2_:=Aside0.mk (hbox);have n3_:=Aside0.mk ((by rw [hg];exact (below_size (by repeat (first|(with_reducible first|exact HB.out|apply below_alloc|apply pw_below_drewN|apply below_drew1|refine below_set ?_ GE172.out)|exact HB.out))) : w.heap.size ≤ gb173));have n4_:=Aside0.mk ((by rw [hg];exact (below_size (by repeat (first|(with_reducible first|exact HB.out|apply below_alloc|apply pw_below_drewN|apply below_drew1|refine below_set ?_ GE172.out)|exact HB.out))) : w.heap.size ≤ gb173));have n5_:=Aside0.mk ((by rw [hg];exact Nat.ne_of_lt (blk_lt (g:=gb172) (by (with_reducible repeat (first|apply blk_drewN|apply blk_drew|apply blk_alloc));exact BK172.out)) : gb172 ≠ gb173));have n6_:=Aside0.mk ((by rw [hg];exact Nat.ne_of_gt (blk_lt (g:=gb172) (by (with_reducible repeat (first|apply blk_drewN|apply blk_drew|apply blk_alloc));exact BK172.out)) : gb173 ≠ gb172));clear BK172;clear HB;have BK172:=n0_;have HB:=n1_;have BK173:=n2_;have GW173:=n3_;have GE173:=n4_;have NB172_173:=n5_;have NB173_172:=n6_;clear n0_ n1_ n2_ n3_ n4_ n5_ n6_;clear hb hbox hg;have hnb36:=NB172_173.out;have hnc36:=NB173_172.out;have hcz37_0 : w35.cell? ⟨gb172,0,none⟩ = some (.int .i64 a0_0):=(blk_cell BK172.out 0).trans rfl;have hcz37_1 : w35.cell? ⟨gb172,1,none⟩ = some (.slice A0_1 l0_1.length c0_1):=(blk_cell BK172.out 1).trans rfl;have hcz37_2 : w35.cell? ⟨gb172,2,none⟩ = some (.slice A0_2 l0_2.length c0_2):=(blk_cell BK172.out 2).trans rfl;have hfz37_0:=blk_frozen BK172.out 0;have hfz37_1:=blk_frozen BK172.out 1;have hfz37_2:=blk_frozen BK172.out 2)|((with_reducible refine gate_callee (f:=14) rfl ?_);refine goesL_ (some 6) rfl rfl Try.func14 (by kernel_rfl) rfl #[.agg #[.int .i64 a0_0,.slice A0_1 l0_1.length c0_1,.slice A0_2 l0_2.length c0_2]] rfl (by (try simp only [List.map_toArray,List.map_cons,List.map_nil]);first|done|rfl|(simp only [List.length_drop,List.length_take];rfl)) ?_;(with_reducible refine (impl_IsWire.calls k a0_0 _ _ l0_1 _ _ l0_2 false _ ?side1 ?side2 ?side3 ?side4 A2.out).mono ?_);(case side1=>repeat (first|exact (C_below HR0_1.out HB.out)|(with_reducible refine C_alloc ?_ _)|(with_reducible refine C_drewN ?_ _)|(with_reducible refine C_drew ?_)));(case side2=>exact HC0_1.out);(case side3=>repeat (first|exact (C_below HR0_2.out HB.out)|(with_reducible refine C_alloc ?_ _)|(with_reducible refine C_drewN ?_ _)|(with_reducible refine C_drew ?_)));(case side4=>exact HC0_2.out);rintro e w38 ⟨rfl,hb⟩;refine ⟨_,rfl,?_⟩;have n0_:=Aside0.mk (blk_below (g:=gb172) (o:=.cells #[.int .i64 a0_0,.slice A0_1 l0_1.length c0_1,.slice A0_2 l0_2.length c0_2] 27 (0,0)) (by (with_reducible repeat (first|apply blk_drewN|apply blk_drew|apply blk_alloc));exact BK172.out) hb);have n1_:=Aside0.mk (blk_below (g:=gb173) (o:=.cells #[.int .i64 0,.slice none 0 0,.slice none 0 0] 27 (0,0)) (by (with_reducible repeat (first|apply blk_drewN|apply blk_drew|apply blk_alloc));exact BK173.out) hb);have n2_:=Aside0.mk (below_step (by repeat (first|(with_reducible first|exact HB.out|apply below_alloc|apply pw_below_drewN|apply below_drew1|refine below_set ?_ GE172.out|refine below_set ?_ GE173.out)|exact HB.out)) hb);clear BK172;clear BK173;clear HB;have BK172:=n0_;have BK173:=n1_;have HB:=n2_;clear n0_ n1_ n2_;(try clear hb);(try clear hb2);(try clear hk);(try clear hi);have hcz39_0 : w38.cell? ⟨gb173,0,none⟩ = some (.int .i64 0):=(blk_cell BK173.out 0).trans rfl;have hcz39_1 : w38.cell? ⟨gb173,1,none⟩ = some (.slice none 0 0):=(blk_cell BK173.out 1).trans rfl;have hcz39_2 : w38.cell? ⟨gb173,2,none⟩ = some (.slice none 0 0):=(blk_cell BK173.out 2).trans rfl;have hfz39_0:=blk_frozen BK173.out 0;have hfz39_1:=blk_frozen BK173.out 1;have hfz39_2:=blk_frozen BK173.out 2))
  refine bodyPost_ret (results_ct rfl _ _ gb173 27 #[.int .i64 0,.slice none 0 0,.slice none 0 0] (0,0) _ rfl (by (with_reducible repeat (first|apply blk_drewN|apply blk_drew|apply blk_alloc));refine blk_put (cs:=#[.int .i64 0,.slice none 0 0,.slice none 0 0]) ?_ 2 _ rfl;(with_reducible repeat (first|apply blk_drewN|apply blk_drew|apply blk_alloc));refine blk_put (cs:=#[.int .i64 0,.slice none 0 0,.slice none 0 0]) ?_ 1 _ rfl;(with_reducible repeat (first|apply blk_drewN|apply blk_drew|apply blk_alloc));refine blk_put (cs:=#[.int .i64 0,.slice none 0 0,.slice none 0 0]) ?_ 0 _ rfl;(with_reducible repeat (first|apply blk_drewN|apply blk_drew|apply blk_alloc));exact BK173.out) Try.underlying27 rfl (by kernel_rfl)) rfl ?_
  exact ⟨_,_,by first|rfl|(simp [errW_none,errW_some] <;> rfl)|(simp [*,errW_none,errW_some] <;> rfl),by first|exact R_nil _ _ _ _ _|exact Kd.N_nil _ _ _ _ _|exact Kd.V_nil _ _ _ _ _|exact Kd.Q_nil _ _ _ _ _|exact Kd.S_nil _ _ _ _ _,by first|exact R_nil _ _ _ _ _|exact Kd.N_nil _ _ _ _ _|exact Kd.V_nil _ _ _ _ _|exact Kd.Q_nil _ _ _ _ _|exact Kd.S_nil _ _ _ _ _,by repeat (first|(with_reducible first|exact HB.out|apply below_alloc|apply pw_below_drewN|apply below_drew1|refine below_set ?_ GE172.out|refine below_set ?_ GE173.out)|exact HB.out)⟩
 subst c3
 have H1 : ((mapped_49.f k l0_1 a0_0).bind fun t175=>((mapped_50.f k l0_2).bind fun t178=>((slices_Reverse_int_int.f k t175).bind fun t182=>((slices_Reverse_int_int.f k t178).bind fun t183=>(some (a0_0,t182,t183,true)))))) = some (r1,r2,r3,r4):=by rw [if_pos rfl] at H;exact H
 clear H
 have H:=H1
 clear H1
 replace H:=Option.bind_eq_some_iff.mp H
 obtain ⟨t175,A40,H⟩:=H
 replace H : ((mapped_50.f k l0_2).bind fun t178=>((slices_Reverse_int_int.f k t175).bind fun t182=>((slices_Reverse_int_int.f k t178).bind fun t183=>(some (a0_0,t182,t183,true))))) = some (r1,r2,r3,r4):=H
 have A4:=Aside0.mk A40
 clear A40
 replace H:=Option.bind_eq_some_iff.mp H
 obtain ⟨t178,A50,H⟩:=H
 replace H : ((slices_Reverse_int_int.f k t175).bind fun t182=>((slices_Reverse_int_int.f k t178).bind fun t183=>(some (a0_0,t182,t183,true)))) = some (r1,r2,r3,r4):=H
 have A5:=Aside0.mk A50
 clear A50
 replace H:=Option.bind_eq_some_iff.mp H
 obtain ⟨t182,A60,H⟩:=H
 replace H : ((slices_Reverse_int_int.f k t178).bind fun t183=>(some (a0_0,t182,t183,true))) = some (r1,r2,r3,r4):=H
 have A6:=Aside0.mk A60
 clear A60
 replace H:=Option.bind_eq_some_iff.mp H
 obtain ⟨t183,A70,H⟩:=H
 replace H : (some (a0_0,t182,t183,true)) = some (r1,r2,r3,r4):=H
 have A7:=Aside0.mk A70
 clear A70
 simp only [Option.some.injEq,Prod.mk.injEq] at H
 obtain ⟨rfl,rfl,rfl,rfl⟩:=H
 go_enter Try.func27,Try.ntmps27
 try go_wp2_with (first|((with_reducible refine gate_dst (N:=1) rfl ?_);refine box_event ?hg (N:=1) ?hd (cs:=#[.int .i64 a0_0,.slice A0_1 l0_1.length c0_1,.slice A0_2 l0_2.length c0_2]) (t:=27) ?hr ?_;(case hd=>rfl);(case hg=>rfl);(case hr=>first|(go_simp;done)|(go_simp;rfl));intro gb172 hg w8 hbox hb;have n0_:=Aside0.mk (below_step (by repeat (first|(with_reducible first|exact HB.out|apply below_alloc|apply pw_below_drewN|apply below_drew1)|exact HB.out)) hb);have n1_:=Aside0.mk (hbox);have n2_:=Aside0.mk ((by rw [hg];exact (below_size (by repeat (first|(with_reducible first|exact HB.out|apply below_alloc|apply pw_below_drewN|apply below_drew1)|exact HB.out))) : w.heap.size ≤ gb172));have n3_:=Aside0.mk ((by rw [hg];exact (below_size (by repeat (first|(with_reducible first|exact HB.out|apply below_alloc|apply pw_below_drewN|apply below_drew1)|exact HB.out))) : w.heap.size ≤ gb172));clear HB;have HB:=n0_;have BK172:=n1_;have GW172:=n2_;have GE172:=n3_;clear n0_ n1_ n2_ n3_;clear hb hbox hg)|((with_reducible refine gate_dst (N:=2) rfl ?_);refine box_event ?hg (N:=2) ?hd (cs:=#[.int .i64 0,.slice none 0 0,.slice none 0 0]) (t:=27) ?hr ?_;(case hd=>rfl);(case hg=>rfl);(case hr=>first|(go_simp;done)|(go_simp;rfl));intro gb173 hg w9 hbox hb;have n0_:=Aside0.mk (blk_below (g:=gb172) (o:=.cells #[.int .i64 a0_0,.slice A0_1 l0_1.length c0_1,.slice A0_2 l0_2.length c0_2] 27 (0,0)) (by (with_reducible repeat (first|apply blk_drewN|apply blk_drew|apply blk_alloc));exact BK172.out) hb);have n1_:=Aside0.mk (below_step (by repeat (first|(with_reducible first|exact HB.out|apply below_alloc|apply pw_below_drewN|apply below_drew1|refine below_set ?_ GE172.out)|exact HB.out)) hb);have n2_:=Aside0.mk (hbox);have n3_:=Aside0.mk ((by rw [hg];exact (below_size (by repeat (first|(with_reducible first|exact HB.out|apply below_alloc|apply pw_below_drewN|apply below_drew1|refine below_set ?_ GE172.out)|exact HB.out))) : w.heap.size ≤ gb173));have n4_:=Aside0.mk ((by rw [hg];exact (below_size (by repeat (first|(with_reducible first|exact HB.out|apply below_alloc|apply pw_below_drewN|apply below_drew1|refine below_set ?_ GE172.out)|exact HB.out))) : w.heap.size ≤ gb173));have n5_:=Aside0.mk ((by rw [hg];exact Nat.ne_of_lt (blk_lt (g:=gb172) (by (with_reducible repeat (first|apply blk_drewN|apply blk_drew|apply blk_alloc));exact BK172.out)) : gb172 ≠ gb173));have n6_:=Aside0.mk ((by rw [hg];exact Nat.ne_of_gt (blk_lt (g:=gb172) (by (with_reducible repeat (first|apply blk_drewN|apply blk_drew|apply blk_alloc));exact BK172.out)) : gb173 ≠ gb172));clear BK172;clear HB;have BK172:=n0_;have HB:=n1_;have BK173:=n2_;have GW173:=n3_;have GE173:=n4_;have NB172_173:=n5_;have NB173_172:=n6_;clear n0_ n1_ n2_ n3_ n4_ n5_ n6_;clear hb hbox hg;have hnb10:=NB172_173.out;have hnc10:=NB173_172.out;have hcz11_0 : w9.cell? ⟨gb172,0,none⟩ = some (.int .i64 a0_0):=(blk_cell BK172.out 0).trans rfl;have hcz11_1 : w9.cell? ⟨gb172,1,none⟩ = some (.slice A0_1 l0_1.length c0_1):=(blk_cell BK172.out 1).trans rfl;have hcz11_2 : w9.cell? ⟨gb172,2,none⟩ = some (.slice A0_2 l0_2.length c0_2):=(blk_cell BK172.out 2).trans rfl;have hfz11_0:=blk_frozen BK172.out 0;have hfz11_1:=blk_frozen BK172.out 1;have hfz11_2:=blk_frozen BK172.out 2)|((with_reducible refine gate_callee (f:=14) rfl ?_);refine goesL_ (some 6) rfl rfl Try.func14 (by kernel_rfl) rfl #[.agg #[.int .i64 a0_0,.slice A0_1 l0_1.length c0_1,.slice A0_2 l0_2.length c0_2]] rfl (by (try simp only [List.map_toArray,List.map_cons,List.map_nil]);first|done|rfl|(simp only [List.length_drop,List.length_take];rfl)) ?_;(with_reducible refine (impl_IsWire.calls k a0_0 _ _ l0_1 _ _ l0_2 true _ ?side1 ?side2 ?side3 ?side4 A2.out).mono ?_);(case side1=>repeat (first|exact (C_below HR0_1.out HB.out)|(with_reducible refine C_alloc ?_ _)|(with_reducible refine C_drewN ?_ _)|(with_reducible refine C_drew ?_)));(case side2=>exact HC0_1.out);(case side3=>repeat (first|exact (C_below HR0_2.out HB.out)|(with_reducible refine C_alloc ?_ _)|(with_reducible refine C_drewN ?_ _)|(with_reducible refine C_drew ?_)));(case side4=>exact HC0_2.out);rintro e w12 ⟨rfl,hb⟩;refine ⟨_,rfl,?_⟩;have n0_:=Aside0.mk (blk_below (g:=gb172) (o:=.cells #[.int .i64 a0_0,.slice A0_1 l0_1.length c0_1,.slice A0_2 l0_2.length c0_2] 27 (0,0)) (by (with_reducible repeat (first|apply blk_drewN|apply blk_drew|apply blk_alloc));exact BK172.out) hb);have n1_:=Aside0.mk (blk_below (g:=gb173) (o:=.cells #[.int .i64 0,.slice none 0 0,.slice none 0 0] 27 (0,0)) (by (with_reducible repeat (first|apply blk_drewN|apply blk_drew|apply blk_alloc));exact BK173.out) hb);have n2_:=Aside0.mk (below_step (by repeat (first|(with_reducible first|exact HB.out|apply below_alloc|apply pw_below_drewN|apply below_drew1|refine below_set ?_ GE172.out|refine below_set ?_ GE173.out)|exact HB.out)) hb);clear BK172;clear BK173;clear HB;have BK172:=n0_;have BK173:=n1_;have HB:=n2_;clear n0_ n1_ n2_;(try clear hb);(try clear hb2);(try clear hk);(try clear hi)))
 have n0_:=Aside0.mk (blk_drew BK172.out)
 have n1_:=Aside0.mk (blk_drew BK173.out)
 have n2_:=Aside0.mk (below_drew1 HB.out)
 clear BK172
 clear BK173
 clear HB
 have BK172:=n0_
 have BK173:=n1_
 have HB:=n2_
 clear n0_ n1_ n2_
 refine start_ (n:=12) (S:=fun w'=>w'.cell? ⟨gb172,0,none⟩ = some (.int .i64 a0_0) ∧ w'.cell? ⟨gb172,1,none⟩ = some (.slice A0_1 l0_1.length c0_1) ∧ w'.cell? ⟨gb172,2,none⟩ = some (.slice A0_2 l0_2.length c0_2)) (ds:=[]) #[false,false,false,false,false,false,false,false,false,false,false,false] (by kernel_rfl) rfl rfl ⟨(blk_cell BK172.out 0).trans rfl,(blk_cell BK172.out 1).trans rfl,(blk_cell BK172.out 2).trans rfl⟩ (fun hHeld=>?_);refine with_tabW impl_MirrorWire.tab3 impl_MirrorWire.bits3 (fun HT_ HW_=>?_)
 generalize w12.drew = w13 at BK172 BK173 HB hHeld ⊢
 refine pure_ (i:=0) (N:=some 9) (v:=?_) (a':=?_) #[true,false,false,false,false,false,false,false,false,false,false,false] rfl rfl (any_of HT_.out (by kernel_rfl)) (fun _ _ _ h=>h) (Or.inl ⟨by rfl,?_⟩) ?_ ?_
 rotate_left
 ·intro w'
  go_simp
  with_reducible rfl
 rotate_left
 ·simp only [Act.put,List.setIfInBounds_toArray,List.set_cons_zero,List.set_cons_succ,i64_w,i32_w]
  rfl
 refine pure_ (i:=2) (N:=some 11) (v:=?_) (a':=?_) #[true,false,true,false,false,false,false,false,false,false,false,false] rfl rfl (any_of HT_.out (by kernel_rfl)) (fun _ _ _ h=>h) (Or.inl ⟨by rfl,?_⟩) ?_ ?_
 rotate_left
 ·intro w'
  go_simp
  with_reducible rfl
 rotate_left
 ·simp only [Act.put,List.setIfInBounds_toArray,List.set_cons_zero,List.set_cons_succ,i64_w,i32_w]
  rfl
 refine pure_ (i:=6) (N:=some 15) (v:=?_) (a':=?_) #[true,false,true,false,false,false,true,false,false,false,false,false] rfl rfl (any_of HT_.out (by kernel_rfl)) (fun _ _ _ h=>h) (Or.inl ⟨by rfl,?_⟩) ?_ ?_
 rotate_left
 ·intro w'
  go_simp
  with_reducible rfl
 rotate_left
 ·simp only [Act.put,List.setIfInBounds_toArray,List.set_cons_zero,List.set_cons_succ,i64_w,i32_w]
  rfl
 refine take_ (i:=1) (N:=some 10) (v:=?_) (a':=?_) #[true,true,true,false,false,false,true,false,false,false,false,false] rfl rfl (take_ofW HT_.out HW_.out (by kernel_rfl)) (fun _ _ _ h=>h) (Or.inl ⟨by rfl,?_⟩) hHeld ?_ ?_
 rotate_left
 ·rintro w' ⟨s0,s1,s2⟩
  go_simp
  with_reducible rfl
 rotate_left
 ·simp only [Act.put,List.setIfInBounds_toArray,List.set_cons_zero,List.set_cons_succ,i64_w,i32_w]
  rfl
 refine take_ (i:=3) (N:=some 12) (v:=?_) (a':=?_) #[true,true,true,true,false,false,true,false,false,false,false,false] rfl rfl (take_ofW HT_.out HW_.out (by kernel_rfl)) (fun _ _ _ h=>h) (Or.inl ⟨by rfl,?_⟩) hHeld ?_ ?_
 rotate_left
 ·rintro w' ⟨s0,s1,s2⟩
  go_simp
  with_reducible rfl
 rotate_left
 ·simp only [Act.put,List.setIfInBounds_toArray,List.set_cons_zero,List.set_cons_succ,i64_w,i32_w]
  rfl
 refine take_ (i:=4) (N:=some 13) (v:=?_) (a':=?_) #[true,true,true,true,true,false,true,false,false,false,false,false] rfl rfl (take_ofW HT_.out HW_.out (by kernel_rfl)) (fun _ _ _ h=>h) (Or.inl ⟨by rfl,?_⟩) hHeld ?_ ?_
 rotate_left
 ·rintro w' ⟨s0,s1,s2⟩
  go_simp
  with_reducible rfl
 rotate_left
 ·simp only [Act.put,List.setIfInBounds_toArray,List.set_cons_zero,List.set_cons_succ,i64_w,i32_w]
  rfl
 refine take_ (i:=7) (N:=some 16) (v:=?_) (a':=?_) #[true,true,true,true,true,false,true,true,false,false,false,false] rfl rfl (take_ofW HT_.out HW_.out (by kernel_rfl)) (fun _ _ _ h=>h) (Or.inl ⟨by rfl,?_⟩) hHeld ?_ ?_
 rotate_left
 ·rintro w' ⟨s0,s1,s2⟩
  go_simp
  with_reducible rfl
 rotate_left
 ·simp only [Act.put,List.setIfInBounds_toArray,List.set_cons_zero,List.set_cons_succ,i64_w,i32_w]
  rfl
 refine join_ (σ:=Value × Value × Nat) 1 #[true,true,true,true,true,true,true,true,true,true,true,false] (fun s_=>[(14,s_.1),(17,s_.2.1),(4,.pointer (some ⟨s_.2.2,0,none⟩)),(18,.agg #[.int .i64 a0_0,s_.1,s_.2.1])]) (fun s_ w'=>(w'.cell? ⟨gb172,0,none⟩ = some (.int .i64 a0_0) ∧ w'.cell? ⟨gb172,1,none⟩ = some (.slice A0_1 l0_1.length c0_1) ∧ w'.cell? ⟨gb172,2,none⟩ = some (.slice A0_2 l0_2.length c0_2)) ∧ (Kd.R (Kd.int .i64) 3 w' w.heap.size (fun k_=>some k_ ≠ (s_.2.1 : Value).ownBlock) s_.1 t175) ∧ (Kd.R (Kd.int .i64) 3 w' w.heap.size (fun k_=>some k_ ≠ (s_.1 : Value).ownBlock) s_.2.1 t178) ∧ (w'.heap[gb172]? = some (.cells #[.int .i64 a0_0,.slice A0_1 l0_1.length c0_1,.slice A0_2 l0_2.length c0_2] 27 (0,0))) ∧ (w'.heap[gb173]? = some (.cells #[.int .i64 0,.slice none 0 0,.slice none 0 0] 27 (0,0))) ∧ (w'.heap[s_.2.2]? = some (.cells #[.int .i64 0,.slice none 0 0,.slice none 0 0] 27 (0,0))) ∧ (w.heap.size ≤ s_.2.2) ∧ (w.heap.size ≤ s_.2.2) ∧ (gb172 ≠ s_.2.2) ∧ (s_.2.2 ≠ gb172) ∧ (gb173 ≠ s_.2.2) ∧ (s_.2.2 ≠ gb173) ∧ (Below w.heap.size w w')) ?_ ?_
 rotate_left
 ·intro hCont
  refine two_ (i:=5) (j:=10) (Ni:=some 14) (Nj:=some 4) #[true,true,true,true,true,true,true,true,false,false,false,false] #[true,true,true,true,true,false,true,true,false,false,true,false] rfl rfl rfl rfl (two_of HT_.out (by kernel_rfl)) (by decide) (by decide) (fun K hK=>?_) (fun K hK=>?_)
  rotate_left
  ·skip
   refine box_step ?hg (N:=4) ?hd (cs:=#[.int .i64 0,.slice none 0 0,.slice none 0 0]) (t:=27) ?hr ?_;(case hd=>rfl);(case hg=>rfl);(case hr=>first|(go_simp;done)|(go_simp;rfl))
   intro gb181 hg w14 hbox hb
   have n0_:=Aside0.mk (blk_below (g:=gb172) (o:=.cells #[.int .i64 a0_0,.slice A0_1 l0_1.length c0_1,.slice A0_2 l0_2.length c0_2] 27 (0,0)) (by (with_reducible repeat (first|apply blk_drewN|apply blk_drew|apply blk_alloc));exact BK172.out) hb)
   have n1_:=Aside0.mk (blk_below (g:=gb173) (o:=.cells #[.int .i64 0,.slice none 0 0,.slice none 0 0] 27 (0,0)) (by (with_reducible repeat (first|apply blk_drewN|apply blk_drew|apply blk_alloc));exact BK173.out) hb)
   have n2_:=Aside0.mk (below_step (by repeat (first|(with_reducible first|exact HB.out|apply below_alloc|apply pw_below_drewN|apply below_drew1|refine below_set ?_ GE172.out|refine below_set ?_ GE173.out)|exact HB.out)) hb)
   have n3_:=Aside0.mk (hbox)
   have n4_:=Aside0.mk ((by rw [hg];exact (below_size (by repeat (first|(with_reducible first|exact HB.out|apply below_alloc|apply pw_below_drewN|apply below_drew1|refine below_set ?_ GE172.out|refine below_set ?_ GE173.out)|exact HB.out))) : w.heap.size ≤ gb181))
   have n5_:=Aside0.mk ((by rw [hg];exact (below_size (by repeat (first|(with_reducible first|exact HB.out|apply below_alloc|apply pw_below_drewN|apply below_drew1|refine below_set ?_ GE172.out|refine below_set ?_ GE173.out)|exact HB.out))) : w.heap.size ≤ gb181))
   have n6_:=Aside0.mk ((by rw [hg];exact Nat.ne_of_lt (blk_lt (g:=gb172) (by (with_reducible repeat (first|apply blk_drewN|apply blk_drew|apply blk_alloc));exact BK172.out)) : gb172 ≠ gb181))
   have n7_:=Aside0.mk ((by rw [hg];exact Nat.ne_of_gt (blk_lt (g:=gb172) (by (with_reducible repeat (first|apply blk_drewN|apply blk_drew|apply blk_alloc));exact BK172.out)) : gb181 ≠ gb172))
   have n8_:=Aside0.mk ((by rw [hg];exact Nat.ne_of_lt (blk_lt (g:=gb173) (by (with_reducible repeat (first|apply blk_drewN|apply blk_drew|apply blk_alloc));exact BK173.out)) : gb173 ≠ gb181))
   have n9_:=Aside0.mk ((by rw [hg];exact Nat.ne_of_gt (blk_lt (g:=gb173) (by (with_reducible repeat (first|apply blk_drewN|apply blk_drew|apply blk_alloc));exact BK173.out)) : gb181 ≠ gb173))
   clear BK172
   clear BK173
   clear HB
   have BK172:=n0_
   have BK173:=n1_
   have HB:=n2_
   have BK181:=n3_
   have GW181:=n4_
   have GE181:=n5_
   have NB172_181:=n6_
   have NB181_172:=n7_
   have NB173_181:=n8_
   have NB181_173:=n9_
   clear n0_ n1_ n2_ n3_ n4_ n5_ n6_ n7_ n8_ n9_
   clear hb hbox hg
   refine hK.out _ _ ⟨(blk_cell BK172.out 0).trans rfl,(blk_cell BK172.out 1).trans rfl,(blk_cell BK172.out 2).trans rfl⟩ (fun hHeld=>?_)
   clear hK K
   refine norm_ (a':=?_) ?_ ?_
   rotate_left
   ·show Act.put _ (some 4) _ = _
    simp only [Act.put,List.setIfInBounds_toArray,List.set_cons_zero,List.set_cons_succ,i64_w,i32_w]
    rfl
   refine one_ (i:=5) (N:=some 14) #[true,true,true,true,true,true,true,true,false,false,true,false] rfl rfl (one_of HT_.out (by kernel_rfl)) (by decide) (fun K hK=>?_)
   refine goes_ Try.func48 (by kernel_rfl) rfl #[.slice A0_1 l0_1.length c0_1,.func (.func 49) #[] #[.pointer (some ⟨gb172,0,none⟩)]] (by rfl) rfl rfl (by (try simp only [List.map_toArray,List.map_cons,List.map_nil]);first|done|rfl|(simp only [List.length_drop,List.length_take];rfl)) ?_
   refine (mapped_49.calls k _ _ l0_1 a0_0 t175 _ gb172 ?side3 ?side1 ?side2 A4.out).mono ?_
   (case side3=>exact (blk_cell (g:=gb172) (by (with_reducible repeat (first|apply blk_drewN|apply blk_drew|apply blk_alloc));exact BK172.out) 0).trans rfl)
   (case side1=>repeat (first|exact (C_below HR0_1.out HB.out)|(with_reducible refine C_alloc ?_ _)|(with_reducible refine C_drewN ?_ _)|(with_reducible refine C_drew ?_)))
   (case side2=>exact HC0_1.out)
   rintro e w15 ⟨v176,rfl,ho0,hb⟩
   refine ⟨_,rfl,?_⟩
   have n0_:=Aside0.mk (R_lower ho0 (below_size (by repeat (first|(with_reducible first|exact HB.out|apply below_alloc|apply pw_below_drewN|apply below_drew1|refine below_set ?_ GE172.out|refine below_set ?_ GE173.out|refine below_set ?_ GE181.out)|exact HB.out))))
   have n1_:=Aside0.mk (blk_below (g:=gb172) (o:=.cells #[.int .i64 a0_0,.slice A0_1 l0_1.length c0_1,.slice A0_2 l0_2.length c0_2] 27 (0,0)) (by (with_reducible repeat (first|apply blk_drewN|apply blk_drew|apply blk_alloc));exact BK172.out) hb)
   have n2_:=Aside0.mk (blk_below (g:=gb173) (o:=.cells #[.int .i64 0,.slice none 0 0,.slice none 0 0] 27 (0,0)) (by (with_reducible repeat (first|apply blk_drewN|apply blk_drew|apply blk_alloc));exact BK173.out) hb)
   have n3_:=Aside0.mk (blk_below (g:=gb181) (o:=.cells #[.int .i64 0,.slice none 0 0,.slice none 0 0] 27 (0,0)) (by (with_reducible repeat (first|apply blk_drewN|apply blk_drew|apply blk_alloc));exact BK181.out) hb)
   have n4_:=Aside0.mk (below_step (by repeat (first|(with_reducible first|exact HB.out|apply below_alloc|apply pw_below_drewN|apply below_drew1|refine below_set ?_ GE172.out|refine below_set ?_ GE173.out|refine below_set ?_ GE181.out)|exact HB.out)) hb)
   clear BK172
   clear BK173
   clear BK181
   clear HB
   have HO177:=n0_
   have BK172:=n1_
   have BK173:=n2_
   have BK181:=n3_
   have HB:=n4_
   clear n0_ n1_ n2_ n3_ n4_
   (try clear hb)
   (try clear hb2)
   (try clear hk)
   (try clear hi)
   (try clear ho0)
   refine hK.out _ _ ⟨(blk_cell BK172.out 0).trans rfl,(blk_cell BK172.out 1).trans rfl,(blk_cell BK172.out 2).trans rfl⟩ (fun hHeld=>?_)
   clear hK K
   refine norm_ (a':=?_) ?_ ?_
   rotate_left
   ·show Act.put _ (some 14) _ = _
    simp only [Act.put,List.setIfInBounds_toArray,List.set_cons_zero,List.set_cons_succ,i64_w,i32_w]
    rfl
   refine one_ (i:=8) (N:=some 17) #[true,true,true,true,true,true,true,true,true,false,true,false] rfl rfl (one_of HT_.out (by kernel_rfl)) (by decide) (fun K hK=>?_)
   refine goes_ Try.func48 (by kernel_rfl) rfl #[.slice A0_2 l0_2.length c0_2,.func (.func 50) #[] #[]] (by rfl) rfl rfl (by (try simp only [List.map_toArray,List.map_cons,List.map_nil]);first|done|rfl|(simp only [List.length_drop,List.length_take];rfl)) ?_
   with_reducible refine (mapped_50.calls k _ _ l0_2 t178 _ ?side1 ?side2 A5.out).mono ?_
   (case side1=>repeat (first|exact (C_below HR0_2.out HB.out)|(with_reducible refine C_alloc ?_ _)|(with_reducible refine C_drewN ?_ _)|(with_reducible refine C_drew ?_)))
   (case side2=>exact HC0_2.out)
   rintro e w16 ⟨v179,rfl,ho0,hb⟩
   refine ⟨_,rfl,?_⟩
   have n0_:=Aside0.mk (R_elder' (by (with_reducible repeat (first|apply R_alloc|apply R_drewN|apply R_drew));exact HO177.out) (R_base ho0) hb)
   have n1_:=Aside0.mk (R_lower (R_new' ho0 (R_lt (by (with_reducible repeat (first|apply R_alloc|apply R_drewN|apply R_drew));exact HO177.out))) (below_size (by repeat (first|(with_reducible first|exact HB.out|apply below_alloc|apply pw_below_drewN|apply below_drew1|refine below_set ?_ GE172.out|refine below_set ?_ GE173.out|refine below_set ?_ GE181.out)|exact HB.out))))
   have n2_:=Aside0.mk (blk_below (g:=gb172) (o:=.cells #[.int .i64 a0_0,.slice A0_1 l0_1.length c0_1,.slice A0_2 l0_2.length c0_2] 27 (0,0)) (by (with_reducible repeat (first|apply blk_drewN|apply blk_drew|apply blk_alloc));exact BK172.out) hb)
   have n3_:=Aside0.mk (blk_below (g:=gb173) (o:=.cells #[.int .i64 0,.slice none 0 0,.slice none 0 0] 27 (0,0)) (by (with_reducible repeat (first|apply blk_drewN|apply blk_drew|apply blk_alloc));exact BK173.out) hb)
   have n4_:=Aside0.mk (blk_below (g:=gb181) (o:=.cells #[.int .i64 0,.slice none 0 0,.slice none 0 0] 27 (0,0)) (by (with_reducible repeat (first|apply blk_drewN|apply blk_drew|apply blk_alloc));exact BK181.out) hb)
   have n5_:=Aside0.mk (below_step (by repeat (first|(with_reducible first|exact HB.out|apply below_alloc|apply pw_below_drewN|apply below_drew1|refine below_set ?_ GE172.out|refine below_set ?_ GE173.out|refine below_set ?_ GE181.out)|exact HB.out)) hb)
   clear HO177
   clear BK172
   clear BK173
   clear BK181
   clear HB
   have HO177:=n0_
   have HO180:=n1_
   have BK172:=n2_
   have BK173:=n3_
   have BK181:=n4_
   have HB:=n5_
   clear n0_ n1_ n2_ n3_ n4_ n5_
   (try clear hb)
   (try clear hb2)
   (try clear hk)
   (try clear hi)
   (try clear ho0)
   obtain ⟨Ao17,co17,eo17⟩:=R_slice HO180.out
   (first|subst eo17|(injection eo17 with f1_ f2_ f3_;have f4_:=f1_.symm;have f5_:=f3_.symm;clear f1_ f2_ f3_;subst f4_;subst f5_))
   obtain ⟨Ao18,co18,eo18⟩:=R_slice HO177.out
   (first|subst eo18|(injection eo18 with f1_ f2_ f3_;have f4_:=f1_.symm;have f5_:=f3_.symm;clear f1_ f2_ f3_;subst f4_;subst f5_))
   refine hK.out _ _ ⟨(blk_cell BK172.out 0).trans rfl,(blk_cell BK172.out 1).trans rfl,(blk_cell BK172.out 2).trans rfl⟩ (fun hHeld=>?_)
   clear hK K
   refine norm_ (a':=?_) ?_ ?_
   rotate_left
   ·show Act.put _ (some 17) _ = _
    simp only [Act.put,List.setIfInBounds_toArray,List.set_cons_zero,List.set_cons_succ,i64_w,i32_w]
    rfl
   refine pure_ (i:=9) (N:=some 18) (v:=?_) (a':=?_) #[true,true,true,true,true,true,true,true,true,true,true,false] rfl rfl (any_of HT_.out (by kernel_rfl)) (fun _ _ _ h=>h) (Or.inl ⟨by rfl,?_⟩) ?_ ?_
   rotate_left
   ·intro w'
    go_simp
    with_reducible rfl
   rotate_left
   ·simp only [Act.put,List.setIfInBounds_toArray,List.set_cons_zero,List.set_cons_succ,i64_w,i32_w]
    rfl
   exact norm_ (by simp only [putAll,Act.put,List.setIfInBounds_toArray,List.set_cons_zero,List.set_cons_succ]) (hCont (.slice Ao18 t175.length co18,.slice Ao17 t178.length co17,gb181) _ ⟨hHeld,(by (with_reducible repeat (first|apply R_alloc|apply R_drewN|apply R_drew));exact R_mono HO177.out (fun _ hk=>hk.2)),(by (with_reducible repeat (first|apply R_alloc|apply R_drewN|apply R_drew));exact R_mono HO180.out (fun _ hk=>hk.2)),(by (with_reducible repeat (first|apply blk_drewN|apply blk_drew|apply blk_alloc));exact BK172.out),(by (with_reducible repeat (first|apply blk_drewN|apply blk_drew|apply blk_alloc));exact BK173.out),(by (with_reducible repeat (first|apply blk_drewN|apply blk_drew|apply blk_alloc));exact BK181.out),GW181.out,GE181.out,NB172_181.out,NB181_172.out,NB173_181.out,NB181_173.out,(by repeat (first|(with_reducible first|exact HB.out|apply below_alloc|apply pw_below_drewN|apply below_drew1|refine below_set ?_ GE172.out|refine below_set ?_ GE173.out|refine below_set ?_ GE181.out)|exact HB.out))⟩)
  skip
  refine goes_ Try.func48 (by kernel_rfl) rfl #[.slice A0_1 l0_1.length c0_1,.func (.func 49) #[] #[.pointer (some ⟨gb172,0,none⟩)]] (by rfl) rfl rfl (by (try simp only [List.map_toArray,List.map_cons,List.map_nil]);first|done|rfl|(simp only [List.length_drop,List.length_take];rfl)) ?_
  refine (mapped_49.calls k _ _ l0_1 a0_0 t175 _ gb172 ?side3 ?side1 ?side2 A4.out).mono ?_
  (case side3=>exact (blk_cell (g:=gb172) (by (with_reducible repeat (first|apply blk_drewN|apply blk_drew|apply blk_alloc));exact BK172.out) 0).trans rfl)
  (case side1=>repeat (first|exact (C_below HR0_1.out HB.out)|(with_reducible refine C_alloc ?_ _)|(with_reducible refine C_drewN ?_ _)|(with_reducible refine C_drew ?_)))
  (case side2=>exact HC0_1.out)
  rintro e w14 ⟨v176,rfl,ho0,hb⟩
  refine ⟨_,rfl,?_⟩
  have n0_:=Aside0.mk (R_lower ho0 (below_size (by repeat (first|(with_reducible first|exact HB.out|apply below_alloc|apply pw_below_drewN|apply below_drew1|refine below_set ?_ GE172.out|refine below_set ?_ GE173.out)|exact HB.out))))
  have n1_:=Aside0.mk (blk_below (g:=gb172) (o:=.cells #[.int .i64 a0_0,.slice A0_1 l0_1.length c0_1,.slice A0_2 l0_2.length c0_2] 27 (0,0)) (by (with_reducible repeat (first|apply blk_drewN|apply blk_drew|apply blk_alloc));exact BK172.out) hb)
  have n2_:=Aside0.mk (blk_below (g:=gb173) (o:=.cells #[.int .i64 0,.slice none 0 0,.slice none 0 0] 27 (0,0)) (by (with_reducible repeat (first|apply blk_drewN|apply blk_drew|apply blk_alloc));exact BK173.out) hb)
  have n3_:=Aside0.mk (below_step (by repeat (first|(with_reducible first|exact HB.out|apply below_alloc|apply pw_below_drewN|apply below_drew1|refine below_set ?_ GE172.out|refine below_set ?_ GE173.out)|exact HB.out)) hb)
  clear BK172
  clear BK173
  clear HB
  have HO177:=n0_
  have BK172:=n1_
  have BK173:=n2_
  have HB:=n3_
  clear n0_ n1_ n2_ n3_
  (try clear hb)
  (try clear hb2)
  (try clear hk)
  (try clear hi)
  (try clear ho0)
  refine hK.out _ _ ⟨(blk_cell BK172.out 0).trans rfl,(blk_cell BK172.out 1).trans rfl,(blk_cell BK172.out 2).trans rfl⟩ (fun hHeld=>?_)
  clear hK K
  refine norm_ (a':=?_) ?_ ?_
  rotate_left
  ·show Act.put _ (some 14) _ = _
   simp only [Act.put,List.setIfInBounds_toArray,List.set_cons_zero,List.set_cons_succ,i64_w,i32_w]
   rfl
  refine two_ (i:=8) (j:=10) (Ni:=some 17) (Nj:=some 4) #[true,true,true,true,true,true,true,true,true,false,false,false] #[true,true,true,true,true,true,true,true,false,false,true,false] rfl rfl rfl rfl (two_of HT_.out (by kernel_rfl)) (by decide) (by decide) (fun K hK=>?_) (fun K hK=>?_)
  ·skip
   refine goes_ Try.func48 (by kernel_rfl) rfl #[.slice A0_2 l0_2.length c0_2,.func (.func 50) #[] #[]] (by rfl) rfl rfl (by (try simp only [List.map_toArray,List.map_cons,List.map_nil]);first|done|rfl|(simp only [List.length_drop,List.length_take];rfl)) ?_
   with_reducible refine (mapped_50.calls k _ _ l0_2 t178 _ ?side1 ?side2 A5.out).mono ?_
   (case side1=>repeat (first|exact (C_below HR0_2.out HB.out)|(with_reducible refine C_alloc ?_ _)|(with_reducible refine C_drewN ?_ _)|(with_reducible refine C_drew ?_)))
   (case side2=>exact HC0_2.out)
   rintro e w15 ⟨v179,rfl,ho0,hb⟩
   refine ⟨_,rfl,?_⟩
   have n0_:=Aside0.mk (R_elder' (by (with_reducible repeat (first|apply R_alloc|apply R_drewN|apply R_drew));exact HO177.out) (R_base ho0) hb)
   have n1_:=Aside0.mk (R_lower (R_new' ho0 (R_lt (by (with_reducible repeat (first|apply R_alloc|apply R_drewN|apply R_drew));exact HO177.out))) (below_size (by repeat (first|(with_reducible first|exact HB.out|apply below_alloc|apply pw_below_drewN|apply below_drew1|refine below_set ?_ GE172.out|refine below_set ?_ GE173.out)|exact HB.out))))
   have n2_:=Aside0.mk (blk_below (g:=gb172) (o:=.cells #[.int .i64 a0_0,.slice A0_1 l0_1.length c0_1,.slice A0_2 l0_2.length c0_2] 27 (0,0)) (by (with_reducible repeat (first|apply blk_drewN|apply blk_drew|apply blk_alloc));exact BK172.out) hb)
   have n3_:=Aside0.mk (blk_below (g:=gb173) (o:=.cells #[.int .i64 0,.slice none 0 0,.slice none 0 0] 27 (0,0)) (by (with_reducible repeat (first|apply blk_drewN|apply blk_drew|apply blk_alloc));exact BK173.out) hb)
   have n4_:=Aside0.mk (below_step (by repeat (first|(with_reducible first|exact HB.out|apply below_alloc|apply pw_below_drewN|apply below_drew1|refine below_set ?_ GE172.out|refine below_set ?_ GE173.out)|exact HB.out)) hb)
   clear HO177
   clear BK172
   clear BK173
   clear HB
   have HO177:=n0_
   have HO180:=n1_
   have BK172:=n2_
   have BK173:=n3_
   have HB:=n4_
   clear n0_ n1_ n2_ n3_ n4_
   (try clear hb)
   (try clear hb2)
   (try clear hk)
   (try clear hi)
   (try clear ho0)
   obtain ⟨Ao16,co16,eo16⟩:=R_slice HO180.out
   (first|subst eo16|(injection eo16 with f1_ f2_ f3_;have f4_:=f1_.symm;have f5_:=f3_.symm;clear f1_ f2_ f3_;subst f4_;subst f5_))
   obtain ⟨Ao17,co17,eo17⟩:=R_slice HO177.out
   (first|subst eo17|(injection eo17 with f1_ f2_ f3_;have f4_:=f1_.symm;have f5_:=f3_.symm;clear f1_ f2_ f3_;subst f4_;subst f5_))
   refine hK.out _ _ ⟨(blk_cell BK172.out 0).trans rfl,(blk_cell BK172.out 1).trans rfl,(blk_cell BK172.out 2).trans rfl⟩ (fun hHeld=>?_)
   clear hK K
   refine norm_ (a':=?_) ?_ ?_
   rotate_left
   ·show Act.put _ (some 17) _ = _
    simp only [Act.put,List.setIfInBounds_toArray,List.set_cons_zero,List.set_cons_succ,i64_w,i32_w]
    rfl
   refine pure_ (i:=9) (N:=some 18) (v:=?_) (a':=?_) #[true,true,true,true,true,true,true,true,true,true,false,false] rfl rfl (any_of HT_.out (by kernel_rfl)) (fun _ _ _ h=>h) (Or.inl ⟨by rfl,?_⟩) ?_ ?_
   rotate_left
   ·intro w'
    go_simp
    with_reducible rfl
   rotate_left
   ·simp only [Act.put,List.setIfInBounds_toArray,List.set_cons_zero,List.set_cons_succ,i64_w,i32_w]
    rfl
   refine one_ (i:=10) (N:=some 4) #[true,true,true,true,true,true,true,true,true,true,true,false] rfl rfl (one_of HT_.out (by kernel_rfl)) (by decide) (fun K hK=>?_)
   refine box_step ?hg (N:=4) ?hd (cs:=#[.int .i64 0,.slice none 0 0,.slice none 0 0]) (t:=27) ?hr ?_;(case hd=>rfl);(case hg=>rfl);(case hr=>first|(go_simp;done)|(go_simp;rfl))
   intro gb181 hg w18 hbox hb
   have n0_:=Aside0.mk (R_below (by (with_reducible repeat (first|apply R_alloc|apply R_drewN|apply R_drew));exact HO177.out) hb)
   have n1_:=Aside0.mk (R_below (by (with_reducible repeat (first|apply R_alloc|apply R_drewN|apply R_drew));exact HO180.out) hb)
   have n2_:=Aside0.mk (blk_below (g:=gb172) (o:=.cells #[.int .i64 a0_0,.slice A0_1 l0_1.length c0_1,.slice A0_2 l0_2.length c0_2] 27 (0,0)) (by (with_reducible repeat (first|apply blk_drewN|apply blk_drew|apply blk_alloc));exact BK172.out) hb)
   have n3_:=Aside0.mk (blk_below (g:=gb173) (o:=.cells #[.int .i64 0,.slice none 0 0,.slice none 0 0] 27 (0,0)) (by (with_reducible repeat (first|apply blk_drewN|apply blk_drew|apply blk_alloc));exact BK173.out) hb)
   have n4_:=Aside0.mk (below_step (by repeat (first|(with_reducible first|exact HB.out|apply below_alloc|apply pw_below_drewN|apply below_drew1|refine below_set ?_ GE172.out|refine below_set ?_ GE173.out)|exact HB.out)) hb)
   have n5_:=Aside0.mk (hbox)
   have n6_:=Aside0.mk ((by rw [hg];exact (below_size (by repeat (first|(with_reducible first|exact HB.out|apply below_alloc|apply pw_below_drewN|apply below_drew1|refine below_set ?_ GE172.out|refine below_set ?_ GE173.out)|exact HB.out))) : w.heap.size ≤ gb181))
   have n7_:=Aside0.mk ((by rw [hg];exact (below_size (by repeat (first|(with_reducible first|exact HB.out|apply below_alloc|apply pw_below_drewN|apply below_drew1|refine below_set ?_ GE172.out|refine below_set ?_ GE173.out)|exact HB.out))) : w.heap.size ≤ gb181))
   have n8_:=Aside0.mk ((by rw [hg];exact Nat.ne_of_lt (blk_lt (g:=gb172) (by (with_reducible repeat (first|apply blk_drewN|apply blk_drew|apply blk_alloc));exact BK172.out)) : gb172 ≠ gb181))
   have n9_:=Aside0.mk ((by rw [hg];exact Nat.ne_of_gt (blk_lt (g:=gb172) (by (with_reducible repeat (first|apply blk_drewN|apply blk_drew|apply blk_alloc));exact BK172.out)) : gb181 ≠ gb172))
   have n10_:=Aside0.mk ((by rw [hg];exact Nat.ne_of_lt (blk_lt (g:=gb173) (by (with_reducible repeat (first|apply blk_drewN|apply blk_drew|apply blk_alloc));exact BK173.out)) : gb173 ≠ gb181))
   have n11_:=Aside0.mk ((by rw [hg];exact Nat.ne_of_gt (blk_lt (g:=gb173) (by (with_reducible repeat (first|apply blk_drewN|apply blk_drew|apply blk_alloc));exact BK173.out)) : gb181 ≠ gb173))
   clear HO177
   clear HO180
   clear BK172
   clear BK173
   clear HB
   have HO177:=n0_
   have HO180:=n1_
   have BK172:=n2_
   have BK173:=n3_
   have HB:=n4_
   have BK181:=n5_
   have GW181:=n6_
   have GE181:=n7_
   have NB172_181:=n8_
   have NB181_172:=n9_
   have NB173_181:=n10_
   have NB181_173:=n11_
   clear n0_ n1_ n2_ n3_ n4_ n5_ n6_ n7_ n8_ n9_ n10_ n11_
   clear hb hbox hg
   refine hK.out _ _ ⟨(blk_cell BK172.out 0).trans rfl,(blk_cell BK172.out 1).trans rfl,(blk_cell BK172.out 2).trans rfl⟩ (fun hHeld=>?_)
   clear hK K
   refine norm_ (a':=?_) ?_ ?_
   rotate_left
   ·show Act.put _ (some 4) _ = _
    simp only [Act.put,List.setIfInBounds_toArray,List.set_cons_zero,List.set_cons_succ,i64_w,i32_w]
    rfl
   exact norm_ (by simp only [putAll,Act.put,List.setIfInBounds_toArray,List.set_cons_zero,List.set_cons_succ]) (hCont (.slice Ao17 t175.length co17,.slice Ao16 t178.length co16,gb181) _ ⟨hHeld,(by (with_reducible repeat (first|apply R_alloc|apply R_drewN|apply R_drew));exact R_mono HO177.out (fun _ hk=>hk.2)),(by (with_reducible repeat (first|apply R_alloc|apply R_drewN|apply R_drew));exact R_mono HO180.out (fun _ hk=>hk.2)),(by (with_reducible repeat (first|apply blk_drewN|apply blk_drew|apply blk_alloc));exact BK172.out),(by (with_reducible repeat (first|apply blk_drewN|apply blk_drew|apply blk_alloc));exact BK173.out),(by (with_reducible repeat (first|apply blk_drewN|apply blk_drew|apply blk_alloc));exact BK181.out),GW181.out,GE181.out,NB172_181.out,NB181_172.out,NB173_181.out,NB181_173.out,(by repeat (first|(with_reducible first|exact HB.out|apply below_alloc|apply pw_below_drewN|apply below_drew1|refine below_set ?_ GE172.out|refine below_set ?_ GE173.out|refine below_set ?_ GE181.out)|exact HB.out))⟩)
  skip
  refine box_step ?hg (N:=4) ?hd (cs:=#[.int .i64 0,.slice none 0 0,.slice none 0 0]) (t:=27) ?hr ?_;(case hd=>rfl);(case hg=>rfl);(case hr=>first|(go_simp;done)|(go_simp;rfl))
  intro gb181 hg w15 hbox hb
  have n0_:=Aside0.mk (R_below (by (with_reducible repeat (first|apply R_alloc|apply R_drewN|apply R_drew));exact HO177.out) hb)
  have n1_:=Aside0.mk (blk_below (g:=gb172) (o:=.cells #[.int .i64 a0_0,.slice A0_1 l0_1.length c0_1,.slice A0_2 l0_2.length c0_2] 27 (0,0)) (by (with_reducible repeat (first|apply blk_drewN|apply blk_drew|apply blk_alloc));exact BK172.out) hb)
  have n2_:=Aside0.mk (blk_below (g:=gb173) (o:=.cells #[.int .i64 0,.slice none 0 0,.slice none 0 0] 27 (0,0)) (by (with_reducible repeat (first|apply blk_drewN|apply blk_drew|apply blk_alloc));exact BK173.out) hb)
  have n3_:=Aside0.mk (below_step (by repeat (first|(with_reducible first|exact HB.out|apply below_alloc|apply pw_below_drewN|apply below_drew1|refine below_set ?_ GE172.out|refine below_set ?_ GE173.out)|exact HB.out)) hb)
  have n4_:=Aside0.mk (hbox)
  have n5_:=Aside0.mk ((by rw [hg];exact (below_size (by repeat (first|(with_reducible first|exact HB.out|apply below_alloc|apply pw_below_drewN|apply below_drew1|refine below_set ?_ GE172.out|refine below_set ?_ GE173.out)|exact HB.out))) : w.heap.size ≤ gb181))
  have n6_:=Aside0.mk ((by rw [hg];exact (below_size (by repeat (first|(with_reducible first|exact HB.out|apply below_alloc|apply pw_below_drewN|apply below_drew1|refine below_set ?_ GE172.out|refine below_set ?_ GE173.out)|exact HB.out))) : w.heap.size ≤ gb181))
  have n7_:=Aside0.mk ((by rw [hg];exact Nat.ne_of_lt (blk_lt (g:=gb172) (by (with_reducible repeat (first|apply blk_drewN|apply blk_drew|apply blk_alloc));exact BK172.out)) : gb172 ≠ gb181))
  have n8_:=Aside0.mk ((by rw [hg];exact Nat.ne_of_gt (blk_lt (g:=gb172) (by (with_reducible repeat (first|apply blk_drewN|apply blk_drew|apply blk_alloc));exact BK172.out)) : gb181 ≠ gb172))
  have n9_:=Aside0.mk ((by rw [hg];exact Nat.ne_of_lt (blk_lt (g:=gb173) (by (with_reducible repeat (first|apply blk_drewN|apply blk_drew|apply blk_alloc));exact BK173.out)) : gb173 ≠ gb181))
  have n10_:=Aside0.mk ((by rw [hg];exact Nat.ne_of_gt (blk_lt (g:=gb173) (by (with_reducible repeat (first|apply blk_drewN|apply blk_drew|apply blk_alloc));exact BK173.out)) : gb181 ≠ gb173))
  clear HO177
  clear BK172
  clear BK173
  clear HB
  have HO177:=n0_
  have BK172:=n1_
  have BK173:=n2_
  have HB:=n3_
  have BK181:=n4_
  have GW181:=n5_
  have GE181:=n6_
  have NB172_181:=n7_
  have NB181_172:=n8_
  have NB173_181:=n9_
  have NB181_173:=n10_
  clear n0_ n1_ n2_ n3_ n4_ n5_ n6_ n7_ n8_ n9_ n10_
  clear hb hbox hg
  refine hK.out _ _ ⟨(blk_cell BK172.out 0).trans rfl,(blk_cell BK172.out 1).trans rfl,(blk_cell BK172.out 2).trans rfl⟩ (fun hHeld=>?_)
  clear hK K
  refine norm_ (a':=?_) ?_ ?_
  rotate_left
  ·show Act.put _ (some 4) _ = _
   simp only [Act.put,List.setIfInBounds_toArray,List.set_cons_zero,List.set_cons_succ,i64_w,i32_w]
   rfl
  refine one_ (i:=8) (N:=some 17) #[true,true,true,true,true,true,true,true,true,false,true,false] rfl rfl (one_of HT_.out (by kernel_rfl)) (by decide) (fun K hK=>?_)
  refine goes_ Try.func48 (by kernel_rfl) rfl #[.slice A0_2 l0_2.length c0_2,.func (.func 50) #[] #[]] (by rfl) rfl rfl (by (try simp only [List.map_toArray,List.map_cons,List.map_nil]);first|done|rfl|(simp only [List.length_drop,List.length_take];rfl)) ?_
  with_reducible refine (mapped_50.calls k _ _ l0_2 t178 _ ?side1 ?side2 A5.out).mono ?_
  (case side1=>repeat (first|exact (C_below HR0_2.out HB.out)|(with_reducible refine C_alloc ?_ _)|(with_reducible refine C_drewN ?_ _)|(with_reducible refine C_drew ?_)))
  (case side2=>exact HC0_2.out)
  rintro e w16 ⟨v179,rfl,ho0,hb⟩
  refine ⟨_,rfl,?_⟩
  have n0_:=Aside0.mk (R_elder' (by (with_reducible repeat (first|apply R_alloc|apply R_drewN|apply R_drew));exact HO177.out) (R_base ho0) hb)
  have n1_:=Aside0.mk (R_lower (R_new' ho0 (R_lt (by (with_reducible repeat (first|apply R_alloc|apply R_drewN|apply R_drew));exact HO177.out))) (below_size (by repeat (first|(with_reducible first|exact HB.out|apply below_alloc|apply pw_below_drewN|apply below_drew1|refine below_set ?_ GE172.out|refine below_set ?_ GE173.out|refine below_set ?_ GE181.out)|exact HB.out))))
  have n2_:=Aside0.mk (blk_below (g:=gb172) (o:=.cells #[.int .i64 a0_0,.slice A0_1 l0_1.length c0_1,.slice A0_2 l0_2.length c0_2] 27 (0,0)) (by (with_reducible repeat (first|apply blk_drewN|apply blk_drew|apply blk_alloc));exact BK172.out) hb)
  have n3_:=Aside0.mk (blk_below (g:=gb173) (o:=.cells #[.int .i64 0,.slice none 0 0,.slice none 0 0] 27 (0,0)) (by (with_reducible repeat (first|apply blk_drewN|apply blk_drew|apply blk_alloc));exact BK173.out) hb)
  have n4_:=Aside0.mk (blk_below (g:=gb181) (o:=.cells #[.int .i64 0,.slice none 0 0,.slice none 0 0] 27 (0,0)) (by (with_reducible repeat (first|apply blk_drewN|apply blk_drew|apply blk_alloc));exact BK181.out) hb)
  have n5_:=Aside0.mk (below_step (by repeat (first|(with_reducible first|exact HB.out|apply below_alloc|apply pw_below_drewN|apply below_drew1|refine below_set ?_ GE172.out|refine below_set ?_ GE173.out|refine below_set ?_ GE181.out)|exact HB.out)) hb)
  clear HO177
  clear BK172
  clear BK173
  clear BK181
  clear HB
  have HO177:=n0_
  have HO180:=n1_
  have BK172:=n2_
  have BK173:=n3_
  have BK181:=n4_
  have HB:=n5_
  clear n0_ n1_ n2_ n3_ n4_ n5_
  (try clear hb)
  (try clear hb2)
  (try clear hk)
  (try clear hi)
  (try clear ho0)
  obtain ⟨Ao17,co17,eo17⟩:=R_slice HO180.out
  (first|subst eo17|(injection eo17 with f1_ f2_ f3_;have f4_:=f1_.symm;have f5_:=f3_.symm;clear f1_ f2_ f3_;subst f4_;subst f5_))
  obtain ⟨Ao18,co18,eo18⟩:=R_slice HO177.out
  (first|subst eo18|(injection eo18 with f1_ f2_ f3_;have f4_:=f1_.symm;have f5_:=f3_.symm;clear f1_ f2_ f3_;subst f4_;subst f5_))
  refine hK.out _ _ ⟨(blk_cell BK172.out 0).trans rfl,(blk_cell BK172.out 1).trans rfl,(blk_cell BK172.out 2).trans rfl⟩ (fun hHeld=>?_)
  clear hK K
  refine norm_ (a':=?_) ?_ ?_
  rotate_left
  ·show Act.put _ (some 17) _ = _
   simp only [Act.put,List.setIfInBounds_toArray,List.set_cons_zero,List.set_cons_succ,i64_w,i32_w]
   rfl
  refine pure_ (i:=9) (N:=some 18) (v:=?_) (a':=?_) #[true,true,true,true,true,true,true,true,true,true,true,false] rfl rfl (any_of HT_.out (by kernel_rfl)) (fun _ _ _ h=>h) (Or.inl ⟨by rfl,?_⟩) ?_ ?_
  rotate_left
  ·intro w'
   go_simp
   with_reducible rfl
  rotate_left
  ·simp only [Act.put,List.setIfInBounds_toArray,List.set_cons_zero,List.set_cons_succ,i64_w,i32_w]
   rfl
  exact norm_ (by simp only [putAll,Act.put,List.setIfInBounds_toArray,List.set_cons_zero,List.set_cons_succ]) (hCont (.slice Ao18 t175.length co18,.slice Ao17 t178.length co17,gb181) _ ⟨hHeld,(by (with_reducible repeat (first|apply R_alloc|apply R_drewN|apply R_drew));exact R_mono HO177.out (fun _ hk=>hk.2)),(by (with_reducible repeat (first|apply R_alloc|apply R_drewN|apply R_drew));exact R_mono HO180.out (fun _ hk=>hk.2)),(by (with_reducible repeat (first|apply blk_drewN|apply blk_drew|apply blk_alloc));exact BK172.out),(by (with_reducible repeat (first|apply blk_drewN|apply blk_drew|apply blk_alloc));exact BK173.out),(by (with_reducible repeat (first|apply blk_drewN|apply blk_drew|apply blk_alloc));exact BK181.out),GW181.out,GE181.out,NB172_181.out,NB181_172.out,NB173_181.out,NB181_173.out,(by repeat (first|(with_reducible first|exact HB.out|apply below_alloc|apply pw_below_drewN|apply below_drew1|refine below_set ?_ GE172.out|refine below_set ?_ GE173.out|refine below_set ?_ GE181.out)|exact HB.out))⟩)
 rintro ⟨v176,v179,gb181⟩ w19 ⟨hS_,h0_,h1_,h2_,h3_,h4_,h5_,h6_,h7_,h8_,h9_,h10_,h11_⟩
 have n0_ : Aside0 (Kd.R (Kd.int .i64) 3 w19 w.heap.size (fun k_=>some k_ ≠ (v179 : Value).ownBlock) v176 t175):=⟨h0_⟩
 have n1_ : Aside0 (Kd.R (Kd.int .i64) 3 w19 w.heap.size (fun k_=>some k_ ≠ (v176 : Value).ownBlock) v179 t178):=⟨h1_⟩
 have n2_ : Aside0 (w19.heap[gb172]? = some (.cells #[.int .i64 a0_0,.slice A0_1 l0_1.length c0_1,.slice A0_2 l0_2.length c0_2] 27 (0,0))):=⟨h2_⟩
 have n3_ : Aside0 (w19.heap[gb173]? = some (.cells #[.int .i64 0,.slice none 0 0,.slice none 0 0] 27 (0,0))):=⟨h3_⟩
 have n4_ : Aside0 (w19.heap[gb181]? = some (.cells #[.int .i64 0,.slice none 0 0,.slice none 0 0] 27 (0,0))):=⟨h4_⟩
 have n5_ : Aside0 (w.heap.size ≤ gb181):=⟨h5_⟩
 have n6_ : Aside0 (w.heap.size ≤ gb181):=⟨h6_⟩
 have n7_ : Aside0 (gb172 ≠ gb181):=⟨h7_⟩
 have n8_ : Aside0 (gb181 ≠ gb172):=⟨h8_⟩
 have n9_ : Aside0 (gb173 ≠ gb181):=⟨h9_⟩
 have n10_ : Aside0 (gb181 ≠ gb173):=⟨h10_⟩
 have n11_ : Aside0 (Below w.heap.size w w19):=⟨h11_⟩
 clear BK172
 clear BK173
 clear HB
 clear h0_ h1_ h2_ h3_ h4_ h5_ h6_ h7_ h8_ h9_ h10_ h11_
 have HO177:=n0_
 have HO180:=n1_
 have BK172:=n2_
 have BK173:=n3_
 have BK181:=n4_
 have GW181:=n5_
 have GE181:=n6_
 have NB172_181:=n7_
 have NB181_172:=n8_
 have NB173_181:=n9_
 have NB181_173:=n10_
 have HB:=n11_
 clear n0_ n1_ n2_ n3_ n4_ n5_ n6_ n7_ n8_ n9_ n10_ n11_
 have hHeld : w19.cell? ⟨gb172,0,none⟩ = some (.int .i64 a0_0) ∧ w19.cell? ⟨gb172,1,none⟩ = some (.slice A0_1 l0_1.length c0_1) ∧ w19.cell? ⟨gb172,2,none⟩ = some (.slice A0_2 l0_2.length c0_2):=hS_
 obtain ⟨Ao20,co20,eo20⟩:=R_slice HO180.out
 (first|subst eo20|(injection eo20 with f1_ f2_ f3_;have f4_:=f1_.symm;have f5_:=f3_.symm;clear f1_ f2_ f3_;subst f4_;subst f5_))
 obtain ⟨Ao21,co21,eo21⟩:=R_slice HO177.out
 (first|subst eo21|(injection eo21 with f1_ f2_ f3_;have f4_:=f1_.symm;have f5_:=f3_.symm;clear f1_ f2_ f3_;subst f4_;subst f5_))
 refine norm_ (a':=?_) ?_ ?_
 rotate_left
 ·simp only [putAll,Act.put,List.setIfInBounds_toArray,List.set_cons_zero,List.set_cons_succ]
  rfl
 refine one_ (i:=11) (N:=none) #[true,true,true,true,true,true,true,true,true,true,true,true] rfl rfl (one_of HT_.out (by kernel_rfl)) (by decide) (fun K hK=>?_)
 have hs22 : w19.cell? ⟨gb181,0,none⟩ = some (.int .i64 0):=(blk_cell BK181.out 0).trans rfl
 have hfs22:=blk_frozen BK181.out 0
 have hns22_0:=NB172_181.out
 have hns22_1:=NB173_181.out
 have hms22_0:=NB181_172.out
 have hms22_1:=NB181_173.out
 have hs23 : w19.cell? ⟨gb181,1,none⟩ = some (.slice none 0 0):=(blk_cell BK181.out 1).trans rfl
 have hfs23:=blk_frozen BK181.out 1
 have hns23_0:=NB172_181.out
 have hns23_1:=NB173_181.out
 have hms23_0:=NB181_172.out
 have hms23_1:=NB181_173.out
 have hs24 : w19.cell? ⟨gb181,2,none⟩ = some (.slice none 0 0):=(blk_cell BK181.out 2).trans rfl
 have hfs24:=blk_frozen BK181.out 2
 have hns24_0:=NB172_181.out
 have hns24_1:=NB173_181.out
 have hms24_0:=NB181_172.out
 have hms24_1:=NB181_173.out
 refine skip_ (w1:=?_) (by rfl) rfl ?_ ?_
 rotate_left
 ·go_simp
  rfl
 refine hK.out _ _ ⟨((cell_far (p:=⟨gb181,_,none⟩) NB172_181.out _).trans (((cell_far (p:=⟨gb181,_,none⟩) NB172_181.out _).trans (((cell_far (p:=⟨gb181,_,none⟩) NB172_181.out _).trans (hHeld.1)))))),((cell_far (p:=⟨gb181,_,none⟩) NB172_181.out _).trans (((cell_far (p:=⟨gb181,_,none⟩) NB172_181.out _).trans (((cell_far (p:=⟨gb181,_,none⟩) NB172_181.out _).trans (hHeld.2.1)))))),((cell_far (p:=⟨gb181,_,none⟩) NB172_181.out _).trans (((cell_far (p:=⟨gb181,_,none⟩) NB172_181.out _).trans (((cell_far (p:=⟨gb181,_,none⟩) NB172_181.out _).trans (hHeld.2.2))))))⟩ (fun hHeld=>?_)
 clear hK K
 refine done_ (done_of HT_.out (by kernel_rfl)) ?_
 have n0_ : Aside0 (Kd.R (Kd.int .i64) 3 (((w19.setCell ⟨gb181,0,none⟩ (.int .i64 a0_0)).setCell ⟨gb181,1,none⟩ (.slice Ao21 t175.length co21)).setCell ⟨gb181,2,none⟩ (.slice Ao20 t178.length co20)) w.heap.size (fun k_=>some k_ ≠ (.slice Ao20 t178.length co20 : Value).ownBlock) (.slice Ao21 t175.length co21) t175):=⟨by (with_reducible repeat (first|apply R_alloc|apply R_drewN|apply R_drew));exact R_mono (R_far (p:=⟨gb181,2,none⟩) (R_far (p:=⟨gb181,1,none⟩) (R_far (p:=⟨gb181,0,none⟩) (R_types HO177.out BK181.out (by decide)) (fun _ hk=>hk.2) (.int .i64 a0_0)) (fun _ hk=>hk.2) (.slice Ao21 t175.length co21)) (fun _ hk=>hk.2) (.slice Ao20 t178.length co20)) (fun _ hk=>hk.1)⟩
 have n1_ : Aside0 (Kd.R (Kd.int .i64) 3 (((w19.setCell ⟨gb181,0,none⟩ (.int .i64 a0_0)).setCell ⟨gb181,1,none⟩ (.slice Ao21 t175.length co21)).setCell ⟨gb181,2,none⟩ (.slice Ao20 t178.length co20)) w.heap.size (fun k_=>some k_ ≠ (.slice Ao21 t175.length co21 : Value).ownBlock) (.slice Ao20 t178.length co20) t178):=⟨by (with_reducible repeat (first|apply R_alloc|apply R_drewN|apply R_drew));exact R_mono (R_far (p:=⟨gb181,2,none⟩) (R_far (p:=⟨gb181,1,none⟩) (R_far (p:=⟨gb181,0,none⟩) (R_types HO180.out BK181.out (by decide)) (fun _ hk=>hk.2) (.int .i64 a0_0)) (fun _ hk=>hk.2) (.slice Ao21 t175.length co21)) (fun _ hk=>hk.2) (.slice Ao20 t178.length co20)) (fun _ hk=>hk.1)⟩
 have n2_ : Aside0 ((((w19.setCell ⟨gb181,0,none⟩ (.int .i64 a0_0)).setCell ⟨gb181,1,none⟩ (.slice Ao21 t175.length co21)).setCell ⟨gb181,2,none⟩ (.slice Ao20 t178.length co20)).heap[gb172]? = some (.cells #[.int .i64 a0_0,.slice A0_1 l0_1.length c0_1,.slice A0_2 l0_2.length c0_2] 27 (0,0))):=⟨by (with_reducible repeat (first|apply blk_drewN|apply blk_drew|apply blk_alloc));refine blk_far ?_ NB172_181.out _;(with_reducible repeat (first|apply blk_drewN|apply blk_drew|apply blk_alloc));refine blk_far ?_ NB172_181.out _;(with_reducible repeat (first|apply blk_drewN|apply blk_drew|apply blk_alloc));refine blk_far ?_ NB172_181.out _;(with_reducible repeat (first|apply blk_drewN|apply blk_drew|apply blk_alloc));exact BK172.out⟩
 have n3_ : Aside0 ((((w19.setCell ⟨gb181,0,none⟩ (.int .i64 a0_0)).setCell ⟨gb181,1,none⟩ (.slice Ao21 t175.length co21)).setCell ⟨gb181,2,none⟩ (.slice Ao20 t178.length co20)).heap[gb173]? = some (.cells #[.int .i64 0,.slice none 0 0,.slice none 0 0] 27 (0,0))):=⟨by (with_reducible repeat (first|apply blk_drewN|apply blk_drew|apply blk_alloc));refine blk_far ?_ NB173_181.out _;(with_reducible repeat (first|apply blk_drewN|apply blk_drew|apply blk_alloc));refine blk_far ?_ NB173_181.out _;(with_reducible repeat (first|apply blk_drewN|apply blk_drew|apply blk_alloc));refine blk_far ?_ NB173_181.out _;(with_reducible repeat (first|apply blk_drewN|apply blk_drew|apply blk_alloc));exact BK173.out⟩
 have n4_ : Aside0 ((((w19.setCell ⟨gb181,0,none⟩ (.int .i64 a0_0)).setCell ⟨gb181,1,none⟩ (.slice Ao21 t175.length co21)).setCell ⟨gb181,2,none⟩ (.slice Ao20 t178.length co20)).heap[gb181]? = some (.cells #[.int .i64 a0_0,.slice Ao21 t175.length co21,.slice Ao20 t178.length co20] 27 (0,0))):=⟨by (with_reducible repeat (first|apply blk_drewN|apply blk_drew|apply blk_alloc));refine blk_put (cs:=#[.int .i64 a0_0,.slice Ao21 t175.length co21,.slice none 0 0]) ?_ 2 _ rfl;(with_reducible repeat (first|apply blk_drewN|apply blk_drew|apply blk_alloc));refine blk_put (cs:=#[.int .i64 a0_0,.slice none 0 0,.slice none 0 0]) ?_ 1 _ rfl;(with_reducible repeat (first|apply blk_drewN|apply blk_drew|apply blk_alloc));refine blk_put (cs:=#[.int .i64 0,.slice none 0 0,.slice none 0 0]) ?_ 0 _ rfl;(with_reducible repeat (first|apply blk_drewN|apply blk_drew|apply blk_alloc));exact BK181.out⟩
 have n5_ : Aside0 (Below w.heap.size w (((w19.setCell ⟨gb181,0,none⟩ (.int .i64 a0_0)).setCell ⟨gb181,1,none⟩ (.slice Ao21 t175.length co21)).setCell ⟨gb181,2,none⟩ (.slice Ao20 t178.length co20))):=⟨by repeat (first|(with_reducible first|exact HB.out|apply below_alloc|apply pw_below_drewN|apply below_drew1|refine below_set ?_ GE172.out|refine below_set ?_ GE173.out|refine below_set ?_ GE181.out)|exact HB.out)⟩
 (try clear HO177)
 (try clear HO180)
 (try clear BK172)
 (try clear BK173)
 (try clear BK181)
 (try clear HB)
 generalize (((w19.setCell ⟨gb181,0,none⟩ (.int .i64 a0_0)).setCell ⟨gb181,1,none⟩ (.slice Ao21 t175.length co21)).setCell ⟨gb181,2,none⟩ (.slice Ao20 t178.length co20)) = w25 at n0_ n1_ n2_ n3_ n4_ n5_ ⊢
 have HO177:=n0_
 have HO180:=n1_
 have BK172:=n2_
 have BK173:=n3_
 have BK181:=n4_
 have HB:=n5_
 clear n0_ n1_ n2_ n3_ n4_ n5_
 have hnb26:=NB181_172.out
 have hnc26:=NB172_181.out
 have hnb27:=NB181_173.out
 have hnc27:=NB173_181.out
 have hcz28_0 : w25.cell? ⟨gb181,0,none⟩ = some (.int .i64 a0_0):=(blk_cell BK181.out 0).trans rfl
 have hcz28_1 : w25.cell? ⟨gb181,1,none⟩ = some (.slice Ao21 t175.length co21):=(blk_cell BK181.out 1).trans rfl
 have hcz28_2 : w25.cell? ⟨gb181,2,none⟩ = some (.slice Ao20 t178.length co20):=(blk_cell BK181.out 2).trans rfl
 have hfz28_0:=blk_frozen BK181.out 0
 have hfz28_1:=blk_frozen BK181.out 1
 have hfz28_2:=blk_frozen BK181.out 2
 try go_wp2_with (first|((with_reducible refine gate_callee (f:=51) rfl ?_);refine goesL_ (some 21) rfl rfl Try.func51 (by kernel_rfl) rfl #[.slice Ao21 t175.length co21] rfl (by (try simp only [List.map_toArray,List.map_cons,List.map_nil]);first|done|rfl|(simp only [List.length_drop,List.length_take];rfl)) ?_;(with_reducible refine (slices_Reverse_int_int.calls k (fun k_=>some k_ = (.slice Ao21 t175.length co21 : Value).ownBlock) (.slice Ao21 t175.length co21) t175 t182 w _ ?side1 ?side2 A6.out).mono ?_);(case side1=>repeat (first|(with_reducible first|exact HB.out|apply below_alloc|apply pw_below_drewN|apply below_drew1|refine below_set ?_ GE172.out|refine below_set ?_ GE173.out|refine below_set ?_ GE181.out)|exact HB.out));(case side2=>exact R_tight rfl HO177.out);rintro e w29 ⟨rfl,hy0,hb,hkp⟩;refine ⟨_,rfl,?_⟩;have n0_:=Aside0.mk (blk_kept (by (with_reducible repeat (first|apply blk_drewN|apply blk_drew|apply blk_alloc));exact BK172.out) hkp (fun hs_=>(fun e_=>(R_ne HO177.out BK172.out (by decide)) e_) hs_));have n1_:=Aside0.mk (blk_kept (by (with_reducible repeat (first|apply blk_drewN|apply blk_drew|apply blk_alloc));exact BK173.out) hkp (fun hs_=>(fun e_=>(R_ne HO177.out BK173.out (by decide)) e_) hs_));have n2_:=Aside0.mk (R_reok rfl hy0 (fun k_ e_=>HO177.out.1 k_ e_));have n3_:=Aside0.mk (R_mono (ok':=fun k_=>some k_ ≠ (.slice Ao21 t175.length co21 : Value).ownBlock) (R_keptB (HO180.out) hkp (fun k_ hk_ hs_=>(hk_) hs_)) (fun k_ hk_=>hk_.1));have n4_:=Aside0.mk (blk_kept (by (with_reducible repeat (first|apply blk_drewN|apply blk_drew|apply blk_alloc));exact BK181.out) hkp (fun hs_=>(fun e_=>(R_ne HO177.out BK181.out (by decide)) e_) hs_));have n5_:=Aside0.mk (hb);clear BK172;clear BK173;clear HO177;clear HO180;clear BK181;clear HB;have BK172:=n0_;have BK173:=n1_;have HO177:=n2_;have HO180:=n3_;have BK181:=n4_;have HB:=n5_;clear n0_ n1_ n2_ n3_ n4_ n5_;(try clear hb);(try clear hkp);(try clear hy0);have hcz30_0 : w29.cell? ⟨gb181,0,none⟩ = some (.int .i64 a0_0):=(blk_cell BK181.out 0).trans rfl;have hcz30_1 : w29.cell? ⟨gb181,1,none⟩ = some (.slice Ao21 t175.length co21):=(blk_cell BK181.out 1).trans rfl;have hcz30_2 : w29.cell? ⟨gb181,2,none⟩ = some (.slice Ao20 t178.length co20):=(blk_cell BK181.out 2).trans rfl;have hfz30_0:=blk_frozen BK181.out 0;have hfz30_1:=blk_frozen BK181.out 1;have hfz30_2:=blk_frozen BK181.out 2)|((with_reducible refine gate_callee (f:=51) rfl ?_);refine goesL_ (some 24) rfl rfl Try.func51 (by kernel_rfl) rfl #[.slice Ao20 t178.length co20] rfl (by (try simp only [List.map_toArray,List.map_cons,List.map_nil]);first|done|rfl|(simp only [List.length_drop,List.length_take];rfl)) ?_;(with_reducible refine (slices_Reverse_int_int.calls k (fun k_=>some k_ = (.slice Ao20 t178.length co20 : Value).ownBlock) (.slice Ao20 t178.length co20) t178 t183 w _ ?side1 ?side2 A7.out).mono ?_);(case side1=>repeat (first|(with_reducible first|exact HB.out|apply below_alloc|apply pw_below_drewN|apply below_drew1|refine below_set ?_ GE172.out|refine below_set ?_ GE173.out|refine below_set ?_ GE181.out)|exact HB.out));(case side2=>exact R_tight rfl HO180.out);rintro e w31 ⟨rfl,hy0,hb,hkp⟩;refine ⟨_,rfl,?_⟩;have n0_:=Aside0.mk (blk_kept (by (with_reducible repeat (first|apply blk_drewN|apply blk_drew|apply blk_alloc));exact BK172.out) hkp (fun hs_=>(fun e_=>(R_ne HO180.out BK172.out (by decide)) e_) hs_));have n1_:=Aside0.mk (blk_kept (by (with_reducible repeat (first|apply blk_drewN|apply blk_drew|apply blk_alloc));exact BK173.out) hkp (fun hs_=>(fun e_=>(R_ne HO180.out BK173.out (by decide)) e_) hs_));have n2_:=Aside0.mk (R_mono (ok':=fun k_=>some k_ ≠ (.slice Ao20 t178.length co20 : Value).ownBlock) (R_keptB (HO177.out) hkp (fun k_ hk_ hs_=>(hk_) hs_)) (fun k_ hk_=>hk_.1));have n3_:=Aside0.mk (R_reok rfl hy0 (fun k_ e_=>HO180.out.1 k_ e_));have n4_:=Aside0.mk (blk_kept (by (with_reducible repeat (first|apply blk_drewN|apply blk_drew|apply blk_alloc));exact BK181.out) hkp (fun hs_=>(fun e_=>(R_ne HO180.out BK181.out (by decide)) e_) hs_));have n5_:=Aside0.mk (hb);clear BK172;clear BK173;clear HO177;clear HO180;clear BK181;clear HB;have BK172:=n0_;have BK173:=n1_;have HO177:=n2_;have HO180:=n3_;have BK181:=n4_;have HB:=n5_;clear n0_ n1_ n2_ n3_ n4_ n5_;(try clear hb);(try clear hkp);(try clear hy0);have hcz32_0 : w31.cell? ⟨gb181,0,none⟩ = some (.int .i64 a0_0):=(blk_cell BK181.out 0).trans rfl;have hcz32_1 : w31.cell? ⟨gb181,1,none⟩ = some (.slice Ao21 t175.length co21):=(blk_cell BK181.out 1).trans rfl;have hcz32_2 : w31.cell? ⟨gb181,2,none⟩ = some (.slice Ao20 t178.length co20):=(blk_cell BK181.out 2).trans rfl;have hfz32_0:=blk_frozen BK181.out 0;have hfz32_1:=blk_frozen BK181.out 1;have hfz32_2:=blk_frozen BK181.out 2;have hcz33_0 : w31.cell? ⟨gb173,0,none⟩ = some (.int .i64 0):=(blk_cell BK173.out 0).trans rfl;have hcz33_1 : w31.cell? ⟨gb173,1,none⟩ = some (.slice none 0 0):=(blk_cell BK173.out 1).trans rfl;have hcz33_2 : w31.cell? ⟨gb173,2,none⟩ = some (.slice none 0 0):=(blk_cell BK173.out 2).trans rfl;have hfz33_0:=blk_frozen BK173.out 0;have hfz33_1:=blk_frozen BK173.out 1;have hfz33_2:=blk_frozen BK173.out 2))
 refine bodyPost_ret (results_ct rfl _ _ gb173 27 #[.int .i64 a0_0,.slice Ao21 t175.length co21,.slice Ao20 t178.length co20] (0,0) _ rfl (by (with_reducible repeat (first|apply blk_drewN|apply blk_drew|apply blk_alloc));refine blk_put (cs:=#[.int .i64 a0_0,.slice Ao21 t175.length co21,.slice none 0 0]) ?_ 2 _ rfl;(with_reducible repeat (first|apply blk_drewN|apply blk_drew|apply blk_alloc));refine blk_put (cs:=#[.int .i64 a0_0,.slice none 0 0,.slice none 0 0]) ?_ 1 _ rfl;(with_reducible repeat (first|apply blk_drewN|apply blk_drew|apply blk_alloc));refine blk_put (cs:=#[.int .i64 0,.slice none 0 0,.slice none 0 0]) ?_ 0 _ rfl;(with_reducible repeat (first|apply blk_drewN|apply blk_drew|apply blk_alloc));exact BK173.out) Try.underlying27 rfl (by kernel_rfl)) rfl ?_
 exact ⟨_,_,by first|rfl|(simp [errW_none,errW_some] <;> rfl)|(simp [*,errW_none,errW_some] <;> rfl),by (with_reducible repeat (first|apply R_alloc|apply R_drewN|apply R_drew));exact R_mono (R_far (p:=⟨gb173,2,none⟩) (R_far (p:=⟨gb173,1,none⟩) (R_far (p:=⟨gb173,0,none⟩) (R_types HO177.out BK173.out (by decide)) (fun _ hk=>hk.2) (.int .i64 a0_0)) (fun _ hk=>hk.2) (.slice Ao21 t175.length co21)) (fun _ hk=>hk.2) (.slice Ao20 t178.length co20)) (fun _ hk=>hk.1),by (with_reducible repeat (first|apply R_alloc|apply R_drewN|apply R_drew));exact R_mono (R_far (p:=⟨gb173,2,none⟩) (R_far (p:=⟨gb173,1,none⟩) (R_far (p:=⟨gb173,0,none⟩) (R_types HO180.out BK173.out (by decide)) (fun _ hk=>hk.2) (.int .i64 a0_0)) (fun _ hk=>hk.2) (.slice Ao21 t175.length co21)) (fun _ hk=>hk.2) (.slice Ao20 t178.length co20)) (fun _ hk=>hk.1),by repeat (first|(with_reducible first|exact HB.out|apply below_alloc|apply pw_below_drewN|apply below_drew1|refine below_set ?_ GE172.out|refine below_set ?_ GE173.out|refine below_set ?_ GE181.out)|exact HB.out)⟩


end
end Go.Proofs.Ytciihopkgblpkaa.QFnExactMirrorWire
