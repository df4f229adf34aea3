/- Functions that the law FnWires comes to, and their walks: no condition but those named. -/
import Derived.Test.YtciihopkgblpkaaQFnWiresx0
import Derived.Test.YtciihopkgblpkaaQFnWiresx7
namespace Go.Proofs.Ytciihopkgblpkaa.QFnWires
open Go.RowKit Go.Proofs.YtciihopkgblpkaaW.PrintWords Go.Proofs.YtciihopkgblpkaaW.PrintLast Go.Proofs.YtciihopkgblpkaaW.PrintMore Go.Proofs.Ytciihopkgblpkaa.Short
attribute [local go_sem] max2_int min2_int max_two min_two max_three min_three max_four min_four
set_option linter.unusedVariables false
set_option linter.unusedSimpArgs false

section
open Kd
/-! ### slices_insertionSortOrdered_int: function 65 -/
mutual
def slices_insertionSortOrdered_int.l0 : Nat → List Int → Int → Int → Int → Option (List Int)
 | 0,_,_,_,_=>none
 | k + 1,x0,x1,x2,x6=>if x6 < x2 then (slices_insertionSortOrdered_int.l1 k x0 x1 x2 x6 x6) else (some x0)
def slices_insertionSortOrdered_int.l1 : Nat → List Int → Int → Int → Int → Int → Option (List Int)
 | 0,_,_,_,_,_=>none
 | k + 1,x0,x1,x2,x6,x7=>if x7 > x1 then (if 0 ≤ x7 then (if x7 < (x0.length : Int) then (if 0 ≤ (wrap64 (x7 - 1)) then (if (wrap64 (x7 - 1)) < (x0.length : Int) then ((cmp_Less_int.f (rd x0 x7) (rd x0 (wrap64 (x7 - 1)))).bind fun t246=>(if t246 = true then (slices_insertionSortOrdered_int.l1 k ((x0.set (x7 : Int).toNat (rd x0 (wrap64 (x7 - 1)))).set ((wrap64 (x7 - 1)) : Int).toNat (rd x0 x7)) x1 x2 x6 (wrap64 (x7 - 1))) else (slices_insertionSortOrdered_int.l0 k x0 x1 x2 (wrap64 (x6 + 1))))) else (none)) else (none)) else (none)) else (none)) else (slices_insertionSortOrdered_int.l0 k x0 x1 x2 (wrap64 (x6 + 1)))
end
def slices_insertionSortOrdered_int.f (k : Nat) (l0 : List Int) (a1 : Int) (a2 : Int) : Option (List Int):=slices_insertionSortOrdered_int.l0 k l0 a1 a2 (wrap64 (a1 + 1))
theorem slices_insertionSortOrdered_int.mono_l : ∀ k,(∀ y0 y1 y2 y3,LeO (slices_insertionSortOrdered_int.l0 k y0 y1 y2 y3) (slices_insertionSortOrdered_int.l0 (k + 1) y0 y1 y2 y3)) ∧ (∀ y0 y1 y2 y3 y4,LeO (slices_insertionSortOrdered_int.l1 k y0 y1 y2 y3 y4) (slices_insertionSortOrdered_int.l1 (k + 1) y0 y1 y2 y3 y4))
 | 0=>by
  refine ⟨?_,?_⟩<;>(intros;intro r h;simp [slices_insertionSortOrdered_int.l0,slices_insertionSortOrdered_int.l1] at h)
 | k + 1=>by
  obtain ⟨ih0,ih1⟩:=slices_insertionSortOrdered_int.mono_l k
  refine ⟨?_,?_⟩<;>intros<;>(first|unfold slices_insertionSortOrdered_int.l0 | unfold slices_insertionSortOrdered_int.l1)<;>(repeat' first|(with_reducible exact ih0 ..)|(with_reducible exact ih1 ..)|(with_reducible exact LeO.refl _)|(with_reducible exact LeO.none _)|(with_reducible refine LeO.ite ?_ ?_)|(with_reducible refine LeO.bind ?_ (fun _=>?_))|exact ih0 ..|exact ih1 ..|exact LeO.none _|refine LeO.ite ?_ ?_|refine LeO.bind ?_ (fun _=>?_))
theorem slices_insertionSortOrdered_int.mono : ∀ a0 a1 a2 k,LeO (slices_insertionSortOrdered_int.f k a0 a1 a2) (slices_insertionSortOrdered_int.f (k + 1) a0 a1 a2):=by
 intro a0 a1 a2 k
 obtain ⟨ih0,ih1⟩:=slices_insertionSortOrdered_int.mono_l k
 unfold slices_insertionSortOrdered_int.f
 repeat' first
   | (with_reducible exact ih0 _ _ _ _)
   | (with_reducible exact ih1 _ _ _ _ _)
   | (with_reducible exact LeO.refl _)
   | (with_reducible exact LeO.none _)
   | (with_reducible refine LeO.ite ?_ ?_)
   | (with_reducible refine LeO.bind ?_ (fun _=>?_))
   | exact ih0 _ _ _ _
   | exact ih1 _ _ _ _ _
   | exact LeO.none _
   | refine LeO.ite ?_ ?_
   | refine LeO.bind ?_ (fun _=>?_)
def slices_insertionSortOrdered_int.T4 : Bool × List (List Nat × List Nat):=(true,[([],[]),([],[]),([0,1],[0,1]),([2],[2]),([3],[3]),([3],[3]),([4,5,3],[3,4,5]),([6,3],[3,6]),([3],[3]),([3],[3]),([9,3],[3,9]),([8,10,3],[3,8,10]),([11,3],[3,11]),([7,12,3,3],[3,7,12]),([3,13],[3,13])])
def slices_insertionSortOrdered_int.B4 : List Nat:=[0,0,3,7,15,15,63,127,15,15,527,1807,3855,8191,16383]
theorem slices_insertionSortOrdered_int.tab4 : rtab .any (opsOf Try.f65 4) = slices_insertionSortOrdered_int.T4:=by kernel_rfl
theorem slices_insertionSortOrdered_int.bits4 : waitsOk slices_insertionSortOrdered_int.T4.2 slices_insertionSortOrdered_int.B4 = true:=by kernel_rfl
def slices_insertionSortOrdered_int.T6 : Bool × List (List Nat × List Nat):=(true,[([],[]),([],[]),([],[]),([],[]),([3],[3]),([],[]),([],[]),([6],[6]),([5,7],[5,7]),([8],[8]),([],[]),([],[]),([10,11],[10,11]),([12],[12]),([0,1,0,1,5,6,7,8,9,13],[0,1]),([14,9,0,1,5,6,7,8,9,13],[9,14]),([2,4,0,1,2,3,4,5,6,7,8,9,10,11,12,13,14,15],[2,4]),([16,13,15,0,1,2,3,4,5,6,7,8,9,10,11,12,13,14,15],[13,16])])
def slices_insertionSortOrdered_int.B6 : List Nat:=[0,0,0,0,8,0,0,64,224,480,0,0,3072,7168,16355,32739,65535,131071]
theorem slices_insertionSortOrdered_int.tab6 : rtab .any (opsOf Try.f65 6) = slices_insertionSortOrdered_int.T6:=by kernel_rfl
theorem slices_insertionSortOrdered_int.bits6 : waitsOk slices_insertionSortOrdered_int.T6.2 slices_insertionSortOrdered_int.B6 = true:=by kernel_rfl
set_option maxHeartbeats 8000000 in
set_option maxRecDepth 100000 in
theorem slices_insertionSortOrdered_int.calls (k : Nat) (P0_ : Nat → Prop) (u9000_ : Value) (l0 : List Int) (a1 : Int) (a2 : Int) (r : List Int) (w0 w : World) (hB : Below w0.heap.size w0 w) (ho0 : Kd.R (Kd.int .i64) 3 w w0.heap.size P0_ u9000_ l0) (h : slices_insertionSortOrdered_int.f k l0 a1 a2 = some r) :
  Calls Try.prog 65 #[u9000_,.int .i64 a1,.int .i64 a2] w fun e w'=>e = .returned (.tuple #[]) ∧ Kd.R (Kd.int .i64) 3 w' w0.heap.size (fun k_=>(P0_ k_ ∨ w.heap.size ≤ k_)) u9000_ r ∧ Below w0.heap.size w0 w' ∧ Kept w w' (fun k_=>P0_ k_):=by
 have HO0:=Aside0.mk (show Kd.R (Kd.int .i64) 3 w w0.heap.size (fun k_=>(P0_ k_ ∨ w.heap.size ≤ k_)) u9000_ l0 from R_mono ho0 (fun k_ hk=>(.inl hk)))
 have HK:=Aside0.mk (Kept.refl w (fun k_=>P0_ k_))
 have HW0:=Aside0.mk hB.size
 have HB:=Aside0.mk hB
 clear hB
 have H : (slices_insertionSortOrdered_int.l0 k l0 a1 a2 (wrap64 (a1 + 1))) = some r:=h
 clear h
 have H':=Aside0.mk H
 clear H
 go_enter Try.func65,Try.ntmps65
 go_wp2
 go_loopg [6] k (fun kq v6 w'=>∃ (x0_1 : List Int) (x6_1 : Int),v6 = .int .i64 x6_1 ∧ Aside0 (slices_insertionSortOrdered_int.l0 kq x0_1 a1 a2 x6_1 = some r) ∧ Aside0 (kq ≤ k) ∧ Aside0 (Kd.R (Kd.int .i64) 3 w' w0.heap.size (fun k_=>(P0_ k_ ∨ w.heap.size ≤ k_)) u9000_ x0_1) ∧ Aside0 (Kept w w' (fun k_=>P0_ k_)) ∧ Aside0 (Below w0.heap.size w0 w'))
 case atStart=>exact ⟨(l0),(wrap64 (a1 + 1)),fd,H',⟨Nat.le_refl _⟩,⟨rm HO0.out⟩,⟨by repeat ((with_reducible first|exact HK.out|apply Kept.alloc|apply Kept.drewN|apply Kept.drew))⟩,⟨hm HB.out⟩⟩
 clear H'
 obtain ⟨x0_1,x6_1,rfl,HA,HK1,HO_0,HK,HB⟩:=hrel
 cases gk with
 | zero=>exact absurd HA.out (by simp [slices_insertionSortOrdered_int.l0])
 | succ k1 =>
  have H:=HA.out
  clear HA
  simp only [slices_insertionSortOrdered_int.l0] at H
  by_cases c4 : x6_1 < a2
  rotate_left
  ·rw [if_neg c4] at H
   have c4b0 : decide (x6_1 < a2) = false:=decide_eq_false c4
   clear c4
   obtain rfl:=Option.some.inj H
   go_wp2
   first|go_end0|(refine bodyPost_ret (results_none rfl _ _ _) rfl ?_)
   exact ⟨fe,rm HO_0.out,hm HB.out,by repeat ((with_reducible first|exact HK.out|apply Kept.alloc|apply Kept.drewN|apply Kept.drew))⟩
  rw [if_pos c4] at H
  have c4b0 : decide (x6_1 < a2) = true:=decide_eq_true c4
  clear c4
  have H':=Aside0.mk H
  clear H
  go_wp2
  go_loopg [7] k1 (fun kq v7 w'=>∃ (x0_2 : List Int) (x7_2 : Int),v7 = .int .i64 x7_2 ∧ Aside0 (slices_insertionSortOrdered_int.l1 kq x0_2 a1 a2 x6_1 x7_2 = some r) ∧ Aside0 (kq ≤ k1) ∧ Aside0 (Kd.R (Kd.int .i64) 3 w' w0.heap.size (fun k_=>(P0_ k_ ∨ w.heap.size ≤ k_)) u9000_ x0_2) ∧ Aside0 (Kept w w' (fun k_=>P0_ k_)) ∧ Aside0 (Below w0.heap.size w0 w'))
  case atStart=>exact ⟨(x0_1),(x6_1),fd,H',⟨Nat.le_refl _⟩,⟨rm HO_0.out⟩,⟨by repeat ((with_reducible first|exact HK.out|apply Kept.alloc|apply Kept.drewN|apply Kept.drew))⟩,⟨hm HB.out⟩⟩
  clear H'
  clear c4b0
  obtain ⟨x0_2,x7_2,rfl,HA,HK2,HO_0,HK,HB⟩:=hrel
  cases gk with
  | zero=>exact absurd HA.out (by simp [slices_insertionSortOrdered_int.l1])
  | succ k2 =>
   have H:=HA.out
   clear HA
   simp only [slices_insertionSortOrdered_int.l1] at H
   by_cases c5 : x7_2 > a1
   rotate_left
   ·rw [if_neg c5] at H
    have c5b0 : decide (a1 < x7_2) = false:=decide_eq_false c5
    clear c5
    have H':=Aside0.mk H
    clear H
    try go_wp2
    replace HO_0:=ak (R_drew HO_0.out)
    replace HK:=ak (Kept.drew HK.out)
    replace HB:=ak (below_drew1 HB.out)
    refine start_ (n:=15) (S:=fun w'=>True) (ds:=[]) (lb 15 0) (by kernel_rfl) rfl rfl trivial (fun hHeld=>?_);refine with_tabW slices_insertionSortOrdered_int.tab4 slices_insertionSortOrdered_int.bits4 (fun HT_ HW_=>?_)
    generalize wr.drew = w22 at HO_0 HK HB hHeld ⊢
    refine pq 0 (N:=some 16) (lb 15 1) HT_ ?_
    refine pq 1 (N:=some 17) (lb 15 3) HT_ ?_
    refine pq 2 (N:=some 18) (lb 15 7) HT_ ?_
    refine pq 3 (N:=some 19) (lb 15 15) HT_ ?_
    refine pz 4 (N:=some 20) (lb 15 31) HT_ ?_
    refine pz 5 (N:=some 21) (lb 15 63) HT_ ?_
    refine pz 6 (N:=some 22) (lb 15 127) HT_ ?_
    refine pz 7 (N:=some 23) (lb 15 255) HT_ ?_
    refine pz 8 (N:=some 24) (lb 15 511) HT_ ?_
    refine pz 9 (N:=some 25) (lb 15 1023) HT_ ?_
    refine pz 10 (N:=some 26) (lb 15 2047) HT_ ?_
    refine pz 11 (N:=some 27) (lb 15 4095) HT_ ?_
    refine pz 12 (N:=some 28) (lb 15 8191) HT_ ?_
    refine pz 13 (N:=some 29) (lb 15 16383) HT_ ?_
    refine pq 14 (N:=some 30) (lb 15 32767) HT_ ?_
    refine done_ (done_of HT_.out (by kernel_rfl)) ?_
    try go_wp2
    go_roundg k2
    case measure=>have:=HK1.out;have:=HK2.out;omega
    case rel=>exact ⟨(x0_2),(wrap64 (x6_1 + 1)),fd,H',⟨by have:=HK1.out;have:=HK2.out;omega⟩,⟨rm HO_0.out⟩,⟨by repeat ((with_reducible first|exact HK.out|apply Kept.alloc|apply Kept.drewN|apply Kept.drew))⟩,⟨hm HB.out⟩⟩
   rw [if_pos c5] at H
   have c5b0 : decide (a1 < x7_2) = true:=decide_eq_true c5
   clear c5
   by_cases c6 : 0 ≤ x7_2
   rotate_left
   ·rw [if_neg c6] at H
    exact absurd H (by simp)
   rw [if_pos c6] at H
   have c6b0 : decide (0 ≤ x7_2) = true:=decide_eq_true c6
   clear c6
   by_cases c7 : x7_2 < (x0_2.length : Int)
   rotate_left
   ·rw [if_neg c7] at H
    exact absurd H (by simp)
   rw [if_pos c7] at H
   have c7b0 : decide (x7_2 < (x0_2.length : Int)) = true:=decide_eq_true c7
   clear c7
   obtain ⟨ji8,hji8⟩ : ∃ j_ : Int,(wrap64 (x7_2 - 1)) = j_:=⟨_,rfl⟩
   replace H : (if 0 ≤ (ji8) then (if (ji8) < (x0_2.length : Int) then ((cmp_Less_int.f (rd x0_2 x7_2) (rd x0_2 (ji8))).bind fun t246=>(if t246 = true then (slices_insertionSortOrdered_int.l1 k2 ((x0_2.set (x7_2 : Int).toNat (rd x0_2 (ji8))).set ((ji8) : Int).toNat (rd x0_2 x7_2)) a1 a2 x6_1 ji8) else (slices_insertionSortOrdered_int.l0 k2 x0_2 a1 a2 (wrap64 (x6_1 + 1))))) else (none)) else (none)) = some r:=by first|(rw [hji8] at H;exact H)|(simp only [hji8] at H ⊢;exact H)
   have hji8w : (IntKind.i64.wrap (x7_2 - 1)) = ji8:=(i64_w _).trans hji8
   by_cases c9 : 0 ≤ (ji8)
   rotate_left
   ·rw [if_neg c9] at H
    exact absurd H (by simp)
   rw [if_pos c9] at H
   have c9b0 : decide (0 ≤ (ji8)) = true:=decide_eq_true c9
   clear c9
   by_cases c10 : (ji8) < (x0_2.length : Int)
   rotate_left
   ·rw [if_neg c10] at H
    exact absurd H (by simp)
   rw [if_pos c10] at H
   have c10b0 : decide ((ji8) < (x0_2.length : Int)) = true:=decide_eq_true c10
   clear c10
   replace H:=Option.bind_eq_some_iff.mp H
   obtain ⟨t246,A110,H⟩:=H
   have A11:=Aside0.mk A110
   clear A110
   by_cases c12 : t246 = true
   rotate_left
   ·replace c12:=Bool.eq_false_iff.mpr c12
    subst c12
    rw [if_neg (show ¬ (false = true) by decide)] at H
    have H':=Aside0.mk H
    clear H
    try go_wp2
    replace HO_0:=ak (R_drew HO_0.out)
    replace HK:=ak (Kept.drew HK.out)
    replace HB:=ak (below_drew1 HB.out)
    obtain ⟨Ao21,co21,eo21⟩:=R_slice HO_0.out
    (subst eo21)
    have p244 : 0 ≤ (x7_2 : Int):=od
    have q244 : x7_2 < (x0_2.length : Int):=od
    obtain ⟨ad244,e244,hx244_0⟩:=Kd.at_int (R_reads' HO_0.out).2.2 x7_2 p244 q244
    cases e244
    replace p244:=eq_true p244
    replace q244:=eq_true q244
    have p245 : 0 ≤ ((ji8) : Int):=od
    have q245 : (ji8) < (x0_2.length : Int):=od
    obtain ⟨ad245,e245,hx245_0⟩:=Kd.at_int (R_reads' HO_0.out).2.2 (ji8) p245 q245
    obtain rfl : ad244 = ad245:=(by injection e245)
    replace p245:=eq_true p245
    replace q245:=eq_true q245
    refine start_ (n:=15) (S:=fun w'=>w'.cell? (ad244.add (x7_2).toNat) = some (.int .i64 (rd x0_2 x7_2)) ∧ w'.cell? (ad244.add ((ji8)).toNat) = some (.int .i64 (rd x0_2 (ji8)))) (ds:=[]) (lb 15 0) (by kernel_rfl) rfl rfl ⟨hx244_0,hx245_0⟩ (fun hHeld=>?_);refine with_tabW slices_insertionSortOrdered_int.tab4 slices_insertionSortOrdered_int.bits4 (fun HT_ HW_=>?_)
    generalize wr.drew = w20 at HO_0 HK HB hx244_0 hx245_0 hHeld ⊢
    refine pq 0 (N:=some 16) (lb 15 1) HT_ ?_
    refine pq 1 (N:=some 17) (lb 15 3) HT_ ?_
    refine pq 2 (N:=some 18) (lb 15 7) HT_ ?_
    refine pq 3 (N:=some 19) (lb 15 15) HT_ ?_
    refine pq 4 (N:=some 20) (lb 15 31) HT_ ?_
    refine pq 5 (N:=some 21) (lb 15 63) HT_ ?_
    refine pq 6 (N:=some 22) (lb 15 127) HT_ ?_
    refine pq 8 (N:=some 24) (lb 15 383) HT_ ?_
    refine pq 9 (N:=some 25) (lb 15 895) HT_ ?_
    refine pq 10 (N:=some 26) (lb 15 1919) HT_ ?_
    refine pq 11 (N:=some 27) (lb 15 3967) HT_ ?_
    refine tq 7 (N:=some 23) (lb 15 4095) HT_ HW_ hHeld ?_
    refine tq 12 (N:=some 28) (lb 15 8191) HT_ HW_ hHeld ?_
    refine one_ (i:=13) (N:=some 29) (lb 15 16383) rfl rfl (one_of HT_.out (by kernel_rfl)) (by decide) (fun K hK=>?_)
    refine goes_ Try.func71 (by kernel_rfl) rfl #[.int .i64 (rd x0_2 x7_2),.int .i64 (rd x0_2 (ji8))] (by rfl) rfl rfl (by (try simp only [List.map_toArray,List.map_cons,List.map_nil]);first|done|(simp only [hji8];rfl)|rfl|(simp only [List.length_drop,List.length_take];rfl)) ?_
    with_reducible refine (cmp_Less_int.calls (rd x0_2 x7_2) (rd x0_2 (ji8)) false _ A11.out).mono ?_
    rintro e w' ⟨rfl,⟨nd,rfl⟩⟩
    refine ⟨_,rfl,?_⟩
    refine hK.out _ _ ⟨hHeld.1,hHeld.2⟩ (fun hHeld=>?_)
    clear hK K
    refine norm_ (a':=?_) ?_ ?_
    rotate_left
    ·show Act.put _ (some 29) _ = _
     simp only [ap]
     rfl
    refine pq 14 (N:=some 30) (lb 15 32767) HT_ ?_
    refine done_ (done_of HT_.out (by kernel_rfl)) ?_
    try go_wp2
    go_roundg k2
    case measure=>have:=HK1.out;have:=HK2.out;omega
    case rel=>exact ⟨(x0_2),(wrap64 (x6_1 + 1)),fd,H',⟨by have:=HK1.out;have:=HK2.out;omega⟩,⟨rm HO_0.out⟩,⟨by repeat ((with_reducible first|exact HK.out|apply Kept.alloc|apply Kept.drewN|apply Kept.drew))⟩,⟨hm HB.out⟩⟩
   subst c12
   rw [if_pos rfl] at H
   obtain ⟨y249,hy249⟩ : ∃ y_ : List Int,y_ = (x0_2.set (x7_2 : Int).toNat (rd x0_2 (ji8))):=⟨_,rfl⟩
   replace H : (slices_insertionSortOrdered_int.l1 k2 (y249.set ((ji8) : Int).toNat (rd x0_2 x7_2)) a1 a2 x6_1 ji8) = some r:=by first|(rw [hy249];with_reducible exact H)|(have H2_:=(Option.bind_some _ _).symm.trans H;rw [hy249];with_reducible exact H2_)|(have H2_:=(Option.bind_some _ _).symm.trans H;with_reducible exact H2_)|with_reducible exact H|(rw [hy249];exact H)|exact H
   have Ny249:=Aside0.mk hy249
   clear hy249
   obtain ⟨y250,hy250⟩ : ∃ y_ : List Int,y_ = (y249.set ((ji8) : Int).toNat (rd x0_2 x7_2)):=⟨_,rfl⟩
   replace H : (slices_insertionSortOrdered_int.l1 k2 y250 a1 a2 x6_1 ji8) = some r:=by first|(rw [hy250];with_reducible exact H)|(have H2_:=(Option.bind_some _ _).symm.trans H;rw [hy250];with_reducible exact H2_)|(have H2_:=(Option.bind_some _ _).symm.trans H;with_reducible exact H2_)|with_reducible exact H|(rw [hy250];exact H)|exact H
   have Ny250:=Aside0.mk hy250
   clear hy250
   have H':=Aside0.mk H
   clear H
   try go_wp2
   replace HO_0:=ak (R_drew HO_0.out)
   replace HK:=ak (Kept.drew HK.out)
   replace HB:=ak (below_drew1 HB.out)
   obtain ⟨Ao16,co16,eo16⟩:=R_slice HO_0.out
   (subst eo16)
   have p244 : 0 ≤ (x7_2 : Int):=od
   have q244 : x7_2 < (x0_2.length : Int):=od
   obtain ⟨ad244,e244,hx244_0⟩:=Kd.at_int (R_reads' HO_0.out).2.2 x7_2 p244 q244
   cases e244
   replace p244:=eq_true p244
   replace q244:=eq_true q244
   have p245 : 0 ≤ ((ji8) : Int):=od
   have q245 : (ji8) < (x0_2.length : Int):=od
   obtain ⟨ad245,e245,hx245_0⟩:=Kd.at_int (R_reads' HO_0.out).2.2 (ji8) p245 q245
   obtain rfl : ad244 = ad245:=(by injection e245)
   replace p245:=eq_true p245
   replace q245:=eq_true q245
   refine start_ (n:=15) (S:=fun w'=>w'.cell? (ad244.add (x7_2).toNat) = some (.int .i64 (rd x0_2 x7_2)) ∧ w'.cell? (ad244.add ((ji8)).toNat) = some (.int .i64 (rd x0_2 (ji8)))) (ds:=[]) (lb 15 0) (by kernel_rfl) rfl rfl ⟨hx244_0,hx245_0⟩ (fun hHeld=>?_);refine with_tabW slices_insertionSortOrdered_int.tab4 slices_insertionSortOrdered_int.bits4 (fun HT_ HW_=>?_)
   generalize wr.drew = w15 at HO_0 HK HB hx244_0 hx245_0 hHeld ⊢
   refine pq 0 (N:=some 16) (lb 15 1) HT_ ?_
   refine pq 1 (N:=some 17) (lb 15 3) HT_ ?_
   refine pq 2 (N:=some 18) (lb 15 7) HT_ ?_
   refine pq 3 (N:=some 19) (lb 15 15) HT_ ?_
   refine pq 4 (N:=some 20) (lb 15 31) HT_ ?_
   refine pq 5 (N:=some 21) (lb 15 63) HT_ ?_
   refine pq 6 (N:=some 22) (lb 15 127) HT_ ?_
   refine pq 8 (N:=some 24) (lb 15 383) HT_ ?_
   refine pq 9 (N:=some 25) (lb 15 895) HT_ ?_
   refine pq 10 (N:=some 26) (lb 15 1919) HT_ ?_
   refine pq 11 (N:=some 27) (lb 15 3967) HT_ ?_
   refine tq 7 (N:=some 23) (lb 15 4095) HT_ HW_ hHeld ?_
   refine tq 12 (N:=some 28) (lb 15 8191) HT_ HW_ hHeld ?_
   refine one_ (i:=13) (N:=some 29) (lb 15 16383) rfl rfl (one_of HT_.out (by kernel_rfl)) (by decide) (fun K hK=>?_)
   refine goes_ Try.func71 (by kernel_rfl) rfl #[.int .i64 (rd x0_2 x7_2),.int .i64 (rd x0_2 (ji8))] (by rfl) rfl rfl (by (try simp only [List.map_toArray,List.map_cons,List.map_nil]);first|done|(simp only [hji8];rfl)|rfl|(simp only [List.length_drop,List.length_take];rfl)) ?_
   with_reducible refine (cmp_Less_int.calls (rd x0_2 x7_2) (rd x0_2 (ji8)) true _ A11.out).mono ?_
   rintro e w' ⟨rfl,⟨nd,rfl⟩⟩
   refine ⟨_,rfl,?_⟩
   refine hK.out _ _ ⟨hHeld.1,hHeld.2⟩ (fun hHeld=>?_)
   clear hK K
   refine norm_ (a':=?_) ?_ ?_
   rotate_left
   ·show Act.put _ (some 29) _ = _
    simp only [ap]
    rfl
   refine pq 14 (N:=some 30) (lb 15 32767) HT_ ?_
   refine done_ (done_of HT_.out (by kernel_rfl)) ?_
   try go_wp2
   (try (rw [drewN_self w15];generalize hq_ : World.drewN w15 _ = w15;have n0_ : Aside0 (Kd.R (Kd.int .i64) 3 w15 w0.heap.size (fun k_=>(P0_ k_ ∨ w.heap.size ≤ k_)) (.slice (some ad244) x0_2.length co16) x0_2):=⟨by rw [← hq_];exact (rm HO_0.out)⟩;have n1_ : Aside0 (Kept w w15 (fun k_=>P0_ k_)):=⟨by rw [← hq_];exact (by repeat ((with_reducible first|exact HK.out|apply Kept.alloc|apply Kept.drewN|apply Kept.drew)))⟩;have n2_ : Aside0 (Below w0.heap.size w0 w15):=⟨by rw [← hq_];exact (hm HB.out)⟩;clear HO_0 HK HB hq_;have HO_0:=n0_;have HK:=n1_;have HB:=n2_;clear n0_ n1_ n2_))
   replace HO_0:=ak (R_drew HO_0.out)
   replace HK:=ak (Kept.drew HK.out)
   replace HB:=ak (below_drew1 HB.out)
   have p247 : 0 ≤ ((ji8) : Int):=od
   have q247 : (ji8) < (x0_2.length : Int):=od
   obtain ⟨ad247,e247,hx247_0⟩:=Kd.at_int (R_reads' HO_0.out).2.2 (ji8) p247 q247
   obtain rfl : ad244 = ad247:=(by injection e247)
   replace p247:=eq_true p247
   replace q247:=eq_true q247
   have p248 : 0 ≤ (x7_2 : Int):=od
   have q248 : x7_2 < (x0_2.length : Int):=od
   obtain ⟨ad248,e248,hx248_0⟩:=Kd.at_int (R_reads' HO_0.out).2.2 x7_2 p248 q248
   obtain rfl : ad244 = ad248:=(by injection e248)
   replace p248:=eq_true p248
   replace q248:=eq_true q248
   have p13 : 0 ≤ (x7_2 : Int):=od
   have q13 : (x7_2 : Int) < ((x0_2.length : Int) : Int):=od
   obtain ⟨go13,co13,eo13,gb13,gl13,cl13,HG13⟩:=R_form HO_0.out (by omega)
   (cases eo13)
   have GB13:=Aside0.mk gb13
   have GG13:=Aside0.mk HG13
   clear gb13 gl13 HG13
   have HMgo13:=Aside0.mk (show (P0_ go13 ∨ w.heap.size ≤ go13) from (HO_0.out.1 _ rfl))
   (simp only [add_plain] at hx244_0)
   (simp only [add_plain] at hx245_0)
   (simp only [add_plain] at hx247_0)
   (simp only [add_plain] at hx248_0)
   obtain ⟨hx13_0,hf13_0⟩:=R_celln 0 HO_0.out (x7_2 : Int) p13 q13
   replace p13:=eq_true p13
   replace q13:=eq_true q13
   have HP18:=R_putn HO_0.out (x7_2 : Int) (rd x0_2 (ji8))
   rw [← Ny249.out] at HP18
   have HQ18:=Aside0.mk HP18
   clear HP18
   have p14 : 0 ≤ ((ji8) : Int):=od
   have q14 : ((ji8) : Int) < ((x0_2.length : Int) : Int):=od
   obtain ⟨hx14_0,hf14_0⟩:=R_celln 0 HQ18.out ((ji8) : Int) p14 q14
   replace p14:=eq_true p14
   replace q14:=eq_true q14
   have HP19:=R_putn HQ18.out ((ji8) : Int) (rd x0_2 x7_2)
   rw [← Ny250.out] at HP19
   have HQ19:=Aside0.mk HP19
   clear HP19
   refine start_ (n:=18) (S:=fun w'=>w'.cell? ⟨go13,((ji8)).toNat,none⟩ = some (.int .i64 (rd x0_2 (ji8))) ∧ w'.cell? ⟨go13,(x7_2).toNat,none⟩ = some (.int .i64 (rd x0_2 x7_2))) (ds:=[15,17]) (lb 18 0) (by kernel_rfl) rfl rfl ⟨hx247_0,hx248_0⟩ (fun hHeld=>?_);refine with_tabW slices_insertionSortOrdered_int.tab6 slices_insertionSortOrdered_int.bits6 (fun HT_ HW_=>?_)
   generalize w15.drew = w17 at HO_0 HK HB GG13 HQ18 HQ19 hf13_0 hf14_0 hx13_0 hx14_0 hx244_0 hx245_0 hx247_0 hx248_0 hHeld ⊢
   refine pq 0 (N:=some 33) (lb 18 1) HT_ ?_
   refine pq 1 (N:=some 34) (lb 18 3) HT_ ?_
   refine pq 2 (N:=some 35) (lb 18 7) HT_ ?_
   refine pq 3 (N:=some 36) (lb 18 15) HT_ ?_
   refine pq 4 (N:=some 37) (lb 18 31) HT_ ?_
   refine pq 5 (N:=some 38) (lb 18 63) HT_ ?_
   refine pq 6 (N:=some 39) (lb 18 127) HT_ ?_
   refine pq 7 (N:=some 40) (lb 18 255) HT_ ?_
   refine pq 8 (N:=some 41) (lb 18 511) HT_ ?_
   refine pq 10 (N:=some 43) (lb 18 1535) HT_ ?_
   refine pq 11 (N:=some 44) (lb 18 3583) HT_ ?_
   refine pq 12 (N:=some 45) (lb 18 7679) HT_ ?_
   refine tq 9 (N:=some 42) (lb 18 8191) HT_ HW_ hHeld ?_
   refine tq 13 (N:=some 46) (lb 18 16383) HT_ HW_ hHeld ?_
   refine pq 14 (N:=some 47) (lb 18 32767) HT_ ?_
   refine last_ (i:=15) (N:=none) (lb 18 65535) rfl rfl (one_of HT_.out (by kernel_rfl)) (by decide) (fun K hK=>?_)
   refine skip_ (w1:=?_) (by rfl) rfl ?_ ?_
   rotate_left
   ·go_simp
    rfl
   refine hK.out _ _ ?_
   clear hK K
   refine pq 16 (N:=some 48) (lb 18 131071) HT_ ?_
   refine last_ (i:=17) (N:=none) (lb 18 262143) rfl rfl (one_of HT_.out (by kernel_rfl)) (by decide) (fun K hK=>?_)
   refine skip_ (w1:=?_) (by rfl) rfl ?_ ?_
   rotate_left
   ·go_simp
    rfl
   refine hK.out _ _ ?_
   clear hK K
   refine done_ (done_of HT_.out (by kernel_rfl)) ?_
   try go_wp2
   go_roundg k2
   case measure=>have:=HK1.out;have:=HK2.out;omega
   case rel=>exact ⟨(y250),(ji8),(by first|rfl|(simp;done)|(simp only [← hji8] <;> (fail))|(simp [*];done)),H',⟨by have:=HK1.out;have:=HK2.out;omega⟩,⟨by (with_reducible repeat (fail));exact HQ19.out⟩,⟨by repeat ((with_reducible first|exact HK.out|apply Kept.alloc|apply Kept.drewN|apply Kept.drew|refine Kept.setCell ?_ HMgo13.out _|refine Kept.setCell ?_ HMgo13.out _))⟩,⟨by repeat ((with_reducible first|exact HB.out|apply below_alloc|apply pw_below_drewN|apply below_drew1|refine below_set ?_ GB13.out|refine below_set ?_ GB13.out))⟩⟩

-- NOT PRINTED: function 79 (slices_siftDownOrdered_int)

-- NOT PRINTED: function 66 (slices_heapSortOrdered_int)

-- NOT PRINTED: function 74 (bits_Len32)

-- NOT PRINTED: function 75 (bits_Len64)


/-! ### bits_Len: math/bits.Len at 0 to 12 -/
set_option maxHeartbeats 8000000 in
set_option maxRecDepth 100000 in
theorem len64 (n v : Int) (h : (n,v) ∈ [(0,0),(1,1),(2,2),(3,2),(4,3),(5,3),(6,3),(7,3),(8,4),(9,4),(10,4),(11,4),(12,4)]) (w : World) : Calls Try.prog 75 #[.int .u64 n] w fun e w'=>e = .returned (.int .i64 v) ∧ Drawn0 w w':=by
  simp only [List.mem_cons,List.not_mem_nil,or_false,Prod.mk.injEq] at h
  rcases h with ⟨rfl,rfl⟩|⟨rfl,rfl⟩|⟨rfl,rfl⟩|⟨rfl,rfl⟩|⟨rfl,rfl⟩|⟨rfl,rfl⟩|⟨rfl,rfl⟩|⟨rfl,rfl⟩|⟨rfl,rfl⟩|⟨rfl,rfl⟩|⟨rfl,rfl⟩|⟨rfl,rfl⟩|⟨rfl,rfl⟩
  all_goals
    go_enter Try.func75,Try.ntmps75
    go_wp2
    go_ret
    exact ⟨by first|rfl|(simp;done)|(simp;unfold wrap64;decide +kernel),by repeat (first|exact Drawn0.refl _|apply Drawn0.step)⟩
def lenOf (a : Int) : List (Int × Int) → Option Int
  | []=>none
  | x :: l=>if x.1 = a then some x.2 else lenOf a l
theorem len_mem {a r : Int} : ∀ l : List (Int × Int),lenOf a l = some r → (a,r) ∈ l
  | [],h=>by simp [lenOf] at h
  | x :: l,h=>by
    unfold lenOf at h
    split at h
    · rename_i e
      injection h with h
      subst e;subst h
      exact List.mem_cons_self
    · exact List.mem_cons_of_mem _ (len_mem l h)
def bits_Len.f (k : Nat) (a0 : Int) : Option Int:=lenOf a0 [(0,0),(1,1),(2,2),(3,2),(4,3),(5,3),(6,3),(7,3),(8,4),(9,4),(10,4),(11,4),(12,4)]
theorem bits_Len.mono : ∀ a0 k,LeO (bits_Len.f k a0) (bits_Len.f (k + 1) a0):=fun _ _=>LeO.refl _
set_option maxHeartbeats 8000000 in
set_option maxRecDepth 100000 in
theorem bits_Len.calls (k : Nat) (a0 : Int) (r : Int) (w : World) (h : bits_Len.f k a0 = some r) : Calls Try.prog 61 #[.int .u64 a0] w fun e w'=>e = .returned (.int .i64 r) ∧ Drawn0 w w':=by
  have HL:=Aside0.mk (len_mem _ h)
  clear h
  go_enter Try.func61,Try.ntmps61
  go_wp2_with (go_at_call 75;(with_reducible refine (len64 a0 r HL.out _).mono ?_);rintro e w' ⟨rfl,⟨nd,rfl⟩⟩)
  go_ret
  exact ⟨by first|rfl|(simp;done)|(simp [*];done),by repeat (first|exact Drawn0.refl _|apply Drawn0.step)⟩

-- NOT PRINTED: function 80 (slices_nextPowerOfTwo)

-- NOT PRINTED: function 81 (slices_xorshift_Next)

-- NOT PRINTED: function 67 (slices_breakPatternsOrdered_int)

-- NOT PRINTED: function 85 (slices_order2Ordered_int)

-- NOT PRINTED: function 83 (slices_medianOrdered_int)

-- NOT PRINTED: function 82 (slices_medianAdjacentOrdered_int)

-- NOT PRINTED: function 68 (slices_choosePivotOrdered_int)

-- NOT PRINTED: function 69 (slices_reverseRangeOrdered_int)

-- NOT PRINTED: function 70 (slices_partialInsertionSortOrdered_int)

-- NOT PRINTED: function 72 (slices_partitionEqualOrdered_int)

-- NOT PRINTED: function 73 (slices_partitionOrdered_int)


end
end Go.Proofs.Ytciihopkgblpkaa.QFnWires
