/- Functions that the law FnSensors comes to, as Lean functions, with the proof that the Go code does what they say: written by a program of this session over the kit's print. No condition but those named. -/
import Derived.Test.YtknfhoghimnieaaQFnSensorsx0
namespace Go.Proofs.Ytknfhoghimnieaa.QFnSensors
open Go.RowKit Go.Proofs.YtknfhoghimnieaaW.PrintWords Go.Proofs.YtknfhoghimnieaaW.PrintLast Go.Proofs.YtknfhoghimnieaaW.PrintMore Go.Proofs.Ytknfhoghimnieaa.Short
attribute [local go_sem] max2_int min2_int max_two min_two max_three min_three max_four min_four   -- for this text's walks alone
set_option linter.unusedVariables false
set_option linter.unusedSimpArgs false

/-- A state of type 80 at block g of W; what its slices lead to came in by w0. -/
def IsS80 (w0 W : World) (g : Nat) (f0 : List Int) (f1 : Int) (f2 : Int) : Prop := ∃ A0 c0, W.heap[g]? = some (.cells #[.slice A0 f0.length c0, .int .i64 f1, .int .u64 f2] 80 (0, 0)) ∧ w0.heap.size ≤ g ∧ Kd.C (Kd.int .u8) w0 A0 f0.length f0
theorem IsS80.grown {w0 W : World} {g : Nat} {f0 : List Int} {f1 : Int} {f2 : Int} {W1 : World} {row : Option Nat} (h : IsS80 w0 W g f0 f1 f2) (hw : W.grownBy W1 row) (hne : some g ≠ row) : IsS80 w0 W1 g f0 f1 f2 := by
 obtain ⟨A0, c0, hb, hg, hr0⟩ := h
 exact ⟨A0, c0, blk_grown hb hw hne, hg, hr0⟩
theorem IsS80.own_neN {w0 W : World} {g : Nat} {f0 : List Int} {f1 : Int} {f2 : Int} {α : Type} {d : Kd α} {e : Nat} {base : Nat} {ok : Nat → Prop} {v : Value} {xs : List α} (h : IsS80 w0 W g f0 f1 f2) (ho : Kd.N d e W base ok v xs) (ht : e ≠ 80) : some g ≠ v.ownBlock := by
 obtain ⟨A0, c0, hb, hg, hr0⟩ := h
 exact Kd.N_ne ho hb ht
theorem IsS80.fresh {w0 W : World} {g : Nat} {f0 : List Int} {f1 : Int} {f2 : Int} (h : IsS80 w0 W g f0 f1 f2) : ∀ k, W.heap.size ≤ k → k ≠ g := by
 obtain ⟨A0, c0, hb, hg, hr0⟩ := h
 exact Kd.freshB hb
theorem IsS80.kept {w0 W : World} {g : Nat} {f0 : List Int} {f1 : Int} {f2 : Int} {W1 : World} {S : Nat → Prop} (h : IsS80 w0 W g f0 f1 f2) (hk : Kept W W1 S) (hne : ¬ S g) : IsS80 w0 W1 g f0 f1 f2 := by
 obtain ⟨A0, c0, hb, hg, hr0⟩ := h
 exact ⟨A0, c0, blk_kept hb hk hne, hg, hr0⟩
theorem IsS80.below {w0 W : World} {g : Nat} {f0 : List Int} {f1 : Int} {f2 : Int} {W1 : World} (h : IsS80 w0 W g f0 f1 f2) (hw : Below W.heap.size W W1) : IsS80 w0 W1 g f0 f1 f2 := h.grown (grown_of_below hw none) (by simp)
theorem IsS80.alloc {w0 W : World} {g : Nat} {f0 : List Int} {f1 : Int} {f2 : Int} (h : IsS80 w0 W g f0 f1 f2) (o : Obj) : IsS80 w0 (W.alloc o) g f0 f1 f2 := h.below (below_alloc (Below.refl _ _) o)
theorem IsS80.drewN {w0 W : World} {g : Nat} {f0 : List Int} {f1 : Int} {f2 : Int} (h : IsS80 w0 W g f0 f1 f2) (m : Nat) : IsS80 w0 (W.drewN m) g f0 f1 f2 := h
theorem IsS80.drew {w0 W : World} {g : Nat} {f0 : List Int} {f1 : Int} {f2 : Int} (h : IsS80 w0 W g f0 f1 f2) : IsS80 w0 W.drew g f0 f1 f2 := h
theorem IsS80.at_ {w0 W : World} {g : Nat} {f0 : List Int} {f1 : Int} {f2 : Int} {w' : World} {m : Nat} (hq : W.drewN m = w') (h : IsS80 w0 W g f0 f1 f2) : IsS80 w0 w' g f0 f1 f2 := by subst hq; exact IsS80.drewN h m
theorem IsS80.apart {w0 W : World} {g : Nat} {f0 : List Int} {f1 : Int} {f2 : Int} {α : Type} {d : Kd α} {e : Nat} {base : Nat} {ok : Nat → Prop} {v : Value} {xs : List α} (h : IsS80 w0 W g f0 f1 f2) (ho : d.R e W base ok v xs) (ht : ∀ q, q ∈ e :: d.E → q ≠ 80) : d.R e W base (fun k => ok k ∧ k ≠ g) v xs := by
 obtain ⟨A0, c0, hb, hg, hr0⟩ := h
 exact Kd.R_types ho hb ht
theorem IsS80.own_ne {w0 W : World} {g : Nat} {f0 : List Int} {f1 : Int} {f2 : Int} {α : Type} {d : Kd α} {e : Nat} {base : Nat} {ok : Nat → Prop} {v : Value} {xs : List α} (h : IsS80 w0 W g f0 f1 f2) (ho : d.R e W base ok v xs) (ht : e ≠ 80) : some g ≠ v.ownBlock := by
 obtain ⟨A0, c0, hb, hg, hr0⟩ := h
 exact Kd.R_ne ho hb ht
theorem IsS80.apartQ {w0 W : World} {g : Nat} {f0 : List Int} {f1 : Int} {f2 : Int} {α : Type} {d : Kd α} {e : Nat} {base : Nat} {ok : Nat → Prop} {v : Value} {xs : List α} (h : IsS80 w0 W g f0 f1 f2) (ho : d.Q e W base ok v xs) (ht : ∀ q, q ∈ e :: d.E → q ≠ 80) : d.Q e W base (fun k => ok k ∧ k ≠ g) v xs := by
 obtain ⟨A0, c0, hb, hg, hr0⟩ := h
 exact Kd.Q_types ho hb ht
theorem IsS80.own_neQ {w0 W : World} {g : Nat} {f0 : List Int} {f1 : Int} {f2 : Int} {α : Type} {d : Kd α} {e : Nat} {base : Nat} {ok : Nat → Prop} {v : Value} {xs : List α} (h : IsS80 w0 W g f0 f1 f2) (ho : d.Q e W base ok v xs) (ht : e ≠ 80) : some g ≠ v.ownBlock := by
 obtain ⟨A0, c0, hb, hg, hr0⟩ := h
 exact Kd.Q_ne ho hb ht
theorem IsS80.apartS {w0 W : World} {g : Nat} {f0 : List Int} {f1 : Int} {f2 : Int} {α : Type} {d : Kd α} {e : Nat} {base : Nat} {ok : Nat → Prop} {v : Value} {xs : List α} (h : IsS80 w0 W g f0 f1 f2) (ho : d.S e W base ok v xs) (ht : ∀ q, q ∈ e :: d.E → q ≠ 80) : d.S e W base (fun k => ok k ∧ k ≠ g) v xs := by
 obtain ⟨A0, c0, hb, hg, hr0⟩ := h
 exact Kd.S_types ho hb ht
theorem IsS80.own_neS {w0 W : World} {g : Nat} {f0 : List Int} {f1 : Int} {f2 : Int} {α : Type} {d : Kd α} {e : Nat} {base : Nat} {ok : Nat → Prop} {v : Value} {xs : List α} (h : IsS80 w0 W g f0 f1 f2) (ho : d.S e W base ok v xs) (ht : e ≠ 80) : some g ≠ v.ownBlock := by
 obtain ⟨A0, c0, hb, hg, hr0⟩ := h
 exact Kd.S_ne ho hb ht
theorem IsS80.lt {w0 W : World} {g : Nat} {f0 : List Int} {f1 : Int} {f2 : Int} (h : IsS80 w0 W g f0 f1 f2) : g < W.heap.size := by
 obtain ⟨A0, c0, hb, hg, hr0⟩ := h
 exact blk_lt hb
theorem IsS80.ge {w0 W : World} {g : Nat} {f0 : List Int} {f1 : Int} {f2 : Int} (h : IsS80 w0 W g f0 f1 f2) : w0.heap.size ≤ g := by
 obtain ⟨A0, c0, hb, hg, hr0⟩ := h
 exact hg
theorem IsS80.ne_blk {w0 W : World} {g : Nat} {f0 : List Int} {f1 : Int} {f2 : Int} {a : Nat} {cs : Array Value} {t : TypeId} {fr : Nat × Nat} (h : IsS80 w0 W g f0 f1 f2) (hb2 : W.heap[a]? = some (.cells cs t fr)) (ht : t ≠ 80) : g ≠ a := by
 obtain ⟨A0, c0, hb, hg, hr0⟩ := h
 rintro rfl
 rw [hb] at hb2
 injection hb2 with hb2
 injection hb2 with _ ht2
 exact ht ht2.symm
theorem IsS80.far {w0 W : World} {g : Nat} {f0 : List Int} {f1 : Int} {f2 : Int} {p : Addr} (h : IsS80 w0 W g f0 f1 f2) (hne : g ≠ p.block) (u : Value) : IsS80 w0 (W.setCell p u) g f0 f1 f2 := by
 obtain ⟨A0, c0, hb, hg, hr0⟩ := h
 exact ⟨A0, c0, blk_far hb hne u, hg, hr0⟩
theorem cellS80_0 {W : World} {g : Nat} {A0 : Option Addr} {c0 : Nat} {f0 : List Int} {f1 : Int} {f2 : Int} (h : W.heap[g]? = some (.cells #[.slice A0 f0.length c0, .int .i64 f1, .int .u64 f2] 80 (0, 0))) : W.cell? ⟨g, 0, none⟩ = some (.slice A0 f0.length c0) := (blk_cell h 0).trans rfl
theorem cellS80_1 {W : World} {g : Nat} {A0 : Option Addr} {c0 : Nat} {f0 : List Int} {f1 : Int} {f2 : Int} (h : W.heap[g]? = some (.cells #[.slice A0 f0.length c0, .int .i64 f1, .int .u64 f2] 80 (0, 0))) : W.cell? ⟨g, 1, none⟩ = some (.int .i64 f1) := (blk_cell h 1).trans rfl
theorem IsS80.set_1 {w0 W : World} {g : Nat} {f0 : List Int} {f1 : Int} {f2 : Int} (h : IsS80 w0 W g f0 f1 f2) (x : Int) : IsS80 w0 (W.setCell ⟨g, 1, none⟩ (.int .i64 x)) g f0 x f2 := by
 obtain ⟨A0, c0, hb, hg, hr0⟩ := h
 exact ⟨A0, c0, by simpa using blk_set hb 1 (.int .i64 x), hg, hr0⟩
theorem cellS80_2 {W : World} {g : Nat} {A0 : Option Addr} {c0 : Nat} {f0 : List Int} {f1 : Int} {f2 : Int} (h : W.heap[g]? = some (.cells #[.slice A0 f0.length c0, .int .i64 f1, .int .u64 f2] 80 (0, 0))) : W.cell? ⟨g, 2, none⟩ = some (.int .u64 f2) := (blk_cell h 2).trans rfl
theorem IsS80.set_2 {w0 W : World} {g : Nat} {f0 : List Int} {f1 : Int} {f2 : Int} (h : IsS80 w0 W g f0 f1 f2) (x : Int) : IsS80 w0 (W.setCell ⟨g, 2, none⟩ (.int .u64 x)) g f0 f1 x := by
 obtain ⟨A0, c0, hb, hg, hr0⟩ := h
 exact ⟨A0, c0, by simpa using blk_set hb 2 (.int .u64 x), hg, hr0⟩
theorem IsS80.now {w0 W : World} {g : Nat} {f0 : List Int} {f1 : Int} {f2 : Int} {f0' : List Int} {f1' : Int} {f2' : Int} {W' : World} (h : IsS80 w0 W g f0 f1 f2) (k : IsS80 w0 W' g f0' f1' f2' := by (try simp only [Int.add_zero]);repeat (first|(with_reducible first|exact Aside0.out (by assumption)|apply IsS80.alloc|apply IsS80.drewN|apply IsS80.drew|apply IsS80.set_1|apply IsS80.set_2|refine IsS80.far ?_ (Aside0.out (by assumption)) _)|exact Aside0.out (by assumption))) : IsS80 w0 W' g f0' f1' f2' := k
theorem IsS80.new (w0 W : World) (A0 : Option Addr) (c0 : Nat) (f0 : List Int) (f1 : Int) (f2 : Int) (hB : Below w0.heap.size w0 W) (hr0 : Kd.C (Kd.int .u8) w0 A0 f0.length f0) : IsS80 w0 (W.alloc (.cells #[.slice A0 f0.length c0, .int .i64 f1, .int .u64 f2] 80)) W.heap.size f0 f1 f2 := ⟨A0, c0, by simpa using heap_alloc_new W _, hB.size, hr0⟩

section
open Kd
/-! ### spec_l1Cur_next: function 76 -/
def spec_l1Cur_next.f (s0_0 : List Int) (s0_1 : Int) (s0_2 : Int) : Option (Int × Int × Int):=if s0_1 < (s0_0.length : Int) then (if 0 ≤ s0_1 then (if (wrap64 (s0_1 + 1)) ≤ (s0_0.length : Int) then (some (wrap64 (rd s0_0 s0_1),wrap64 (s0_1 + 1),IntKind.u64.wrap ((IntKind.u64.wrap ((IntKind.u64.wrap (s0_2 * 6364136223846793005)) + (IntKind.u64.wrap (wrap64 (rd s0_0 s0_1))))) + 462197))) else (some (wrap64 (Go.bits .and .u64 ((IntKind.u64.wrap ((IntKind.u64.wrap ((IntKind.u64.wrap (s0_2 * 6364136223846793005)) + (IntKind.u64.wrap (wrap64 (rd s0_0 s0_1))))) + 462197)) / 1099511627776) 255),wrap64 (s0_1 + 1),IntKind.u64.wrap ((IntKind.u64.wrap ((IntKind.u64.wrap (s0_2 * 6364136223846793005)) + (IntKind.u64.wrap (wrap64 (rd s0_0 s0_1))))) + 462197)))) else (none)) else (if (wrap64 (s0_1 + 1)) ≤ (s0_0.length : Int) then (some (0,wrap64 (s0_1 + 1),IntKind.u64.wrap ((IntKind.u64.wrap ((IntKind.u64.wrap (s0_2 * 6364136223846793005)) + 0)) + 462197))) else (some (wrap64 (Go.bits .and .u64 ((IntKind.u64.wrap ((IntKind.u64.wrap ((IntKind.u64.wrap (s0_2 * 6364136223846793005)) + 0)) + 462197)) / 1099511627776) 255),wrap64 (s0_1 + 1),IntKind.u64.wrap ((IntKind.u64.wrap ((IntKind.u64.wrap (s0_2 * 6364136223846793005)) + 0)) + 462197))))
set_option maxHeartbeats 8000000 in
set_option maxRecDepth 100000 in
theorem spec_l1Cur_next.calls (g : Nat) (s0_0 : List Int) (s0_1 : Int) (s0_2 : Int) (r1 : Int) (r2 : Int) (r3 : Int) (w0 w : World) (hI : IsS80 w0 w g s0_0 s0_1 s0_2) (hB : Below w0.heap.size w0 w) (h : spec_l1Cur_next.f s0_0 s0_1 s0_2 = some (r1,r2,r3)) :
  Calls Try.prog 76 #[.pointer (some ⟨g,0,none⟩)] w fun e w'=>e = .returned (.int .i64 r1) ∧ IsS80 w0 w' g s0_0 r2 r3 ∧ Below w0.heap.size w0 w' ∧ KeepBut w w' g none:=by
 have HI0:=Aside0.mk hI
 have HK:=Aside0.mk (KeepBut.refl w g none)
 have HL:=Aside0.mk hB.size
 clear hI
 have HW0:=Aside0.mk hB.size
 have HB:=Aside0.mk hB
 clear hB
 have H : (if s0_1 < (s0_0.length : Int) then (if 0 ≤ s0_1 then (if (wrap64 (s0_1 + 1)) ≤ (s0_0.length : Int) then (some (wrap64 (rd s0_0 s0_1),wrap64 (s0_1 + 1),IntKind.u64.wrap ((IntKind.u64.wrap ((IntKind.u64.wrap (s0_2 * 6364136223846793005)) + (IntKind.u64.wrap (wrap64 (rd s0_0 s0_1))))) + 462197))) else (some (wrap64 (Go.bits .and .u64 ((IntKind.u64.wrap ((IntKind.u64.wrap ((IntKind.u64.wrap (s0_2 * 6364136223846793005)) + (IntKind.u64.wrap (wrap64 (rd s0_0 s0_1))))) + 462197)) / 1099511627776) 255),wrap64 (s0_1 + 1),IntKind.u64.wrap ((IntKind.u64.wrap ((IntKind.u64.wrap (s0_2 * 6364136223846793005)) + (IntKind.u64.wrap (wrap64 (rd s0_0 s0_1))))) + 462197)))) else (none)) else (if (wrap64 (s0_1 + 1)) ≤ (s0_0.length : Int) then (some (0,wrap64 (s0_1 + 1),IntKind.u64.wrap ((IntKind.u64.wrap ((IntKind.u64.wrap (s0_2 * 6364136223846793005)) + 0)) + 462197))) else (some (wrap64 (Go.bits .and .u64 ((IntKind.u64.wrap ((IntKind.u64.wrap ((IntKind.u64.wrap (s0_2 * 6364136223846793005)) + 0)) + 462197)) / 1099511627776) 255),wrap64 (s0_1 + 1),IntKind.u64.wrap ((IntKind.u64.wrap ((IntKind.u64.wrap (s0_2 * 6364136223846793005)) + 0)) + 462197))))) = some (r1,r2,r3):=h
 clear h
 by_cases c2 : s0_1 < (s0_0.length : Int)
 rotate_left
 ·rw [if_neg c2] at H
  have c2b0 : decide (s0_1 < (s0_0.length : Int)) = false:=decide_eq_false c2
  clear c2
  by_cases c7 : (wrap64 (s0_1 + 1)) ≤ (s0_0.length : Int)
  ·rw [if_pos c7] at H
   have c7b0 : decide ((wrap64 (s0_1 + 1)) ≤ (s0_0.length : Int)) = true:=decide_eq_true c7
   clear c7
   simp only [Option.some.injEq,Prod.mk.injEq] at H
   obtain ⟨rfl,rfl,rfl⟩:=H
   obtain ⟨ASz8_0,cSz8_0,HGz8,hgz8,HSz8_0⟩:=HI0.out
   have hcz8_0:=cellS80_0 HGz8
   have hcz8_1:=cellS80_1 HGz8
   have hcz8_2:=cellS80_2 HGz8
   have hfz8_1:=blk_frozen HGz8 1
   have hfz8_2:=blk_frozen HGz8 2
   clear HGz8 hgz8
   go_enter Try.func76,Try.ntmps76
   go_wp2
   repeat (go_quiet (fail);try go_wp2)
   go_ret
   exact ⟨fe,(IsS80.now HI0.out),h1 HB.out (IsS80.ge HI0.out),(kn HK.out)⟩
  rw [if_neg c7] at H
  have c7b0 : decide ((wrap64 (s0_1 + 1)) ≤ (s0_0.length : Int)) = false:=decide_eq_false c7
  clear c7
  simp only [Option.some.injEq,Prod.mk.injEq] at H
  obtain ⟨rfl,rfl,rfl⟩:=H
  obtain ⟨ASz9_0,cSz9_0,HGz9,hgz9,HSz9_0⟩:=HI0.out
  have hcz9_0:=cellS80_0 HGz9
  have hcz9_1:=cellS80_1 HGz9
  have hcz9_2:=cellS80_2 HGz9
  have hfz9_1:=blk_frozen HGz9 1
  have hfz9_2:=blk_frozen HGz9 2
  clear HGz9 hgz9
  go_enter Try.func76,Try.ntmps76
  go_wp2
  repeat (go_quiet (fail);try go_wp2)
  go_ret
  exact ⟨fe,(IsS80.now HI0.out),h1 HB.out (IsS80.ge HI0.out),(kn HK.out)⟩
 rw [if_pos c2] at H
 have c2b0 : decide (s0_1 < (s0_0.length : Int)) = true:=decide_eq_true c2
 clear c2
 by_cases c3 : 0 ≤ s0_1
 rotate_left
 ·rw [if_neg c3] at H
  exact absurd H (by simp)
 rw [if_pos c3] at H
 have c3b0 : decide (0 ≤ s0_1) = true:=decide_eq_true c3
 clear c3
 by_cases c4 : (wrap64 (s0_1 + 1)) ≤ (s0_0.length : Int)
 ·rw [if_pos c4] at H
  have c4b0 : decide ((wrap64 (s0_1 + 1)) ≤ (s0_0.length : Int)) = true:=decide_eq_true c4
  clear c4
  simp only [Option.some.injEq,Prod.mk.injEq] at H
  obtain ⟨rfl,rfl,rfl⟩:=H
  obtain ⟨ASz5_0,cSz5_0,HGz5,hgz5,HSz5_0⟩:=HI0.out
  have hcz5_0:=cellS80_0 HGz5
  have hcz5_1:=cellS80_1 HGz5
  have hcz5_2:=cellS80_2 HGz5
  have hfz5_1:=blk_frozen HGz5 1
  have hfz5_2:=blk_frozen HGz5 2
  clear HGz5 hgz5
  have p293 : 0 ≤ (s0_1 : Int):=od
  have q293 : s0_1 < (s0_0.length : Int):=od
  obtain ⟨ad293,e293,hx293_0⟩:=Kd.at_int HSz5_0 s0_1 p293 q293
  cases e293
  replace hx293_0:=pw_cell_below HB.out hx293_0
  replace p293:=eq_true p293
  replace q293:=eq_true q293
  go_enter Try.func76,Try.ntmps76
  go_wp2
  repeat (go_quiet (fail);try go_wp2)
  go_ret
  exact ⟨fe,(IsS80.now HI0.out),h1 HB.out (IsS80.ge HI0.out),(kn HK.out)⟩
 rw [if_neg c4] at H
 have c4b0 : decide ((wrap64 (s0_1 + 1)) ≤ (s0_0.length : Int)) = false:=decide_eq_false c4
 clear c4
 simp only [Option.some.injEq,Prod.mk.injEq] at H
 obtain ⟨rfl,rfl,rfl⟩:=H
 obtain ⟨ASz6_0,cSz6_0,HGz6,hgz6,HSz6_0⟩:=HI0.out
 have hcz6_0:=cellS80_0 HGz6
 have hcz6_1:=cellS80_1 HGz6
 have hcz6_2:=cellS80_2 HGz6
 have hfz6_1:=blk_frozen HGz6 1
 have hfz6_2:=blk_frozen HGz6 2
 clear HGz6 hgz6
 have p293 : 0 ≤ (s0_1 : Int):=od
 have q293 : s0_1 < (s0_0.length : Int):=od
 obtain ⟨ad293,e293,hx293_0⟩:=Kd.at_int HSz6_0 s0_1 p293 q293
 cases e293
 replace hx293_0:=pw_cell_below HB.out hx293_0
 replace p293:=eq_true p293
 replace q293:=eq_true q293
 go_enter Try.func76,Try.ntmps76
 go_wp2
 repeat (go_quiet (fail);try go_wp2)
 go_ret
 exact ⟨fe,(IsS80.now HI0.out),h1 HB.out (IsS80.ge HI0.out),(kn HK.out)⟩

/-! ### spec_l1Cur_pick: function 73 -/
def spec_l1Cur_pick.f (s0_0 : List Int) (s0_1 : Int) (s0_2 : Int) (a1 : Int) : Option (Int × Int × Int):=if a1 ≤ 1 then (some (0,s0_1,s0_2)) else ((spec_l1Cur_next.f s0_0 s0_1 s0_2).bind fun bt294=>(if a1 > 200 then ((spec_l1Cur_next.f s0_0 bt294.2.1 bt294.2.2).bind fun bt297=>(if a1 = 0 then (none) else (some (Int.tmod (wrap64 ((wrap64 (bt294.1 * 256)) + bt297.1)) a1,bt297.2.1,bt297.2.2)))) else (if a1 = 0 then (none) else (some (Int.tmod bt294.1 a1,bt294.2.1,bt294.2.2)))))
set_option maxHeartbeats 8000000 in
set_option maxRecDepth 100000 in
theorem spec_l1Cur_pick.calls (g : Nat) (s0_0 : List Int) (s0_1 : Int) (s0_2 : Int) (a1 : Int) (r1 : Int) (r2 : Int) (r3 : Int) (w0 w : World) (hI : IsS80 w0 w g s0_0 s0_1 s0_2) (hB : Below w0.heap.size w0 w) (h : spec_l1Cur_pick.f s0_0 s0_1 s0_2 a1 = some (r1,r2,r3)) :
  Calls Try.prog 73 #[.pointer (some ⟨g,0,none⟩),.int .i64 a1] w fun e w'=>e = .returned (.int .i64 r1) ∧ IsS80 w0 w' g s0_0 r2 r3 ∧ Below w0.heap.size w0 w' ∧ KeepBut w w' g none:=by
 have HI0:=Aside0.mk hI
 have HK:=Aside0.mk (KeepBut.refl w g none)
 have HL:=Aside0.mk hB.size
 clear hI
 have HW0:=Aside0.mk hB.size
 have HB:=Aside0.mk hB
 clear hB
 have H : (if a1 ≤ 1 then (some (0,s0_1,s0_2)) else ((spec_l1Cur_next.f s0_0 s0_1 s0_2).bind fun bt294=>(if a1 > 200 then ((spec_l1Cur_next.f s0_0 bt294.2.1 bt294.2.2).bind fun bt297=>(if a1 = 0 then (none) else (some (Int.tmod (wrap64 ((wrap64 (bt294.1 * 256)) + bt297.1)) a1,bt297.2.1,bt297.2.2)))) else (if a1 = 0 then (none) else (some (Int.tmod bt294.1 a1,bt294.2.1,bt294.2.2)))))) = some (r1,r2,r3):=h
 clear h
 by_cases c3 : a1 ≤ 1
 ·rw [if_pos c3] at H
  have c3b0 : decide (a1 ≤ 1) = true:=decide_eq_true c3
  clear c3
  simp only [Option.some.injEq,Prod.mk.injEq] at H
  obtain ⟨rfl,rfl,rfl⟩:=H
  go_enter Try.func73,Try.ntmps73
  go_wp2
  go_ret
  exact ⟨fe,(IsS80.now HI0.out),h1 HB.out (IsS80.ge HI0.out),(kn HK.out)⟩
 rw [if_neg c3] at H
 have c3b0 : decide (a1 ≤ 1) = false:=decide_eq_false c3
 clear c3
 replace H:=Option.bind_eq_some_iff.mp H
 obtain ⟨⟨t294,t295,t296⟩,A40,H⟩:=H
 (try dsimp only at H)
 have A4:=Aside0.mk A40
 clear A40
 by_cases c5 : a1 > 200
 rotate_left
 ·rw [if_neg c5] at H
  have c5b0 : decide (200 < a1) = false:=decide_eq_false c5
  clear c5
  by_cases c10 : a1 = 0
  ·rw [if_pos c10] at H
   exact absurd H (by simp)
  rw [if_neg c10] at H
  have c10b0 : (a1 == 0) = false:=beq_eq_false_iff_ne.mpr c10
  have c10b1 : (a1 != 0) = true:=bne_iff_ne.mpr c10
  simp only [Option.some.injEq,Prod.mk.injEq] at H
  obtain ⟨rfl,rfl,rfl⟩:=H
  go_enter Try.func73,Try.ntmps73
  go_wp2_with (first|((with_reducible refine gate_callee (f:=76) rfl ?_);refine goesL_ (some 9) rfl rfl Try.func76 (by kernel_rfl) rfl #[.pointer (some ⟨g,0,none⟩)] rfl gl ?_;(with_reducible refine (spec_l1Cur_next.calls g s0_0 s0_1 s0_2 t294 t295 t296 w0 _ ?side1 ?side2 A4.out).mono ?_);(case side1=>exact IsS80.now HI0.out);(case side2=>exact h1 HB.out (IsS80.ge HI0.out));rintro e w11 ⟨rfl,hi,hb,hk⟩;refine ⟨_,rfl,?_⟩;replace HK:=ak (KeepBut.trans (kn HK.out) hk (.inl rfl));replace HB:=ak hb;replace HI0:=ak hi;(try clear hb);(try clear hk);(try clear hi)))
  go_ret
  exact ⟨fe,(IsS80.now HI0.out),h1 HB.out (IsS80.ge HI0.out),(kn HK.out)⟩
 rw [if_pos c5] at H
 have c5b0 : decide (200 < a1) = true:=decide_eq_true c5
 clear c5
 replace H:=Option.bind_eq_some_iff.mp H
 obtain ⟨⟨t297,t298,t299⟩,A60,H⟩:=H
 (try dsimp only at H)
 have A6:=Aside0.mk A60
 clear A60
 by_cases c7 : a1 = 0
 ·rw [if_pos c7] at H
  exact absurd H (by simp)
 rw [if_neg c7] at H
 have c7b0 : (a1 == 0) = false:=beq_eq_false_iff_ne.mpr c7
 have c7b1 : (a1 != 0) = true:=bne_iff_ne.mpr c7
 simp only [Option.some.injEq,Prod.mk.injEq] at H
 obtain ⟨rfl,rfl,rfl⟩:=H
 go_enter Try.func73,Try.ntmps73
 go_wp2_with (first|((with_reducible refine gate_callee (f:=76) rfl ?_);refine goesL_ (some 9) rfl rfl Try.func76 (by kernel_rfl) rfl #[.pointer (some ⟨g,0,none⟩)] rfl gl ?_;(with_reducible refine (spec_l1Cur_next.calls g s0_0 s0_1 s0_2 t294 t295 t296 w0 _ ?side1 ?side2 A4.out).mono ?_);(case side1=>exact IsS80.now HI0.out);(case side2=>exact h1 HB.out (IsS80.ge HI0.out));rintro e w8 ⟨rfl,hi,hb,hk⟩;refine ⟨_,rfl,?_⟩;replace HK:=ak (KeepBut.trans (kn HK.out) hk (.inl rfl));replace HB:=ak hb;replace HI0:=ak hi;(try clear hb);(try clear hk);(try clear hi))|((with_reducible refine gate_callee (f:=76) rfl ?_);refine goesL_ (some 15) rfl rfl Try.func76 (by kernel_rfl) rfl #[.pointer (some ⟨g,0,none⟩)] rfl gl ?_;(with_reducible refine (spec_l1Cur_next.calls g s0_0 t295 t296 t297 t298 t299 w0 _ ?side1 ?side2 A6.out).mono ?_);(case side1=>exact IsS80.now HI0.out);(case side2=>exact h1 HB.out (IsS80.ge HI0.out));rintro e w9 ⟨rfl,hi,hb,hk⟩;refine ⟨_,rfl,?_⟩;replace HK:=ak (KeepBut.trans (kn HK.out) hk (.inl rfl));replace HB:=ak hb;replace HI0:=ak hi;(try clear hb);(try clear hk);(try clear hi)))
 go_ret
 exact ⟨fe,(IsS80.now HI0.out),h1 HB.out (IsS80.ge HI0.out),(kn HK.out)⟩

/-! ### spec_l1Cur_one: function 70 -/
def spec_l1Cur_one.f (s0_0 : List Int) (s0_1 : Int) (s0_2 : Int) (a1 : Int) : Option (Bool × Int × Int):=(spec_l1Cur_pick.f s0_0 s0_1 s0_2 a1).bind fun bt300=>(some ((bt300.1 == 0),bt300.2.1,bt300.2.2))
set_option maxHeartbeats 8000000 in
set_option maxRecDepth 100000 in
theorem spec_l1Cur_one.calls (g : Nat) (s0_0 : List Int) (s0_1 : Int) (s0_2 : Int) (a1 : Int) (r1 : Bool) (r2 : Int) (r3 : Int) (w0 w : World) (hI : IsS80 w0 w g s0_0 s0_1 s0_2) (hB : Below w0.heap.size w0 w) (h : spec_l1Cur_one.f s0_0 s0_1 s0_2 a1 = some (r1,r2,r3)) :
  Calls Try.prog 70 #[.pointer (some ⟨g,0,none⟩),.int .i64 a1] w fun e w'=>e = .returned (.bool r1) ∧ IsS80 w0 w' g s0_0 r2 r3 ∧ Below w0.heap.size w0 w' ∧ KeepBut w w' g none:=by
 have HI0:=Aside0.mk hI
 have HK:=Aside0.mk (KeepBut.refl w g none)
 have HL:=Aside0.mk hB.size
 clear hI
 have HW0:=Aside0.mk hB.size
 have HB:=Aside0.mk hB
 clear hB
 have H : ((spec_l1Cur_pick.f s0_0 s0_1 s0_2 a1).bind fun bt300=>(some ((bt300.1 == 0),bt300.2.1,bt300.2.2))) = some (r1,r2,r3):=h
 clear h
 replace H:=Option.bind_eq_some_iff.mp H
 obtain ⟨⟨t300,t301,t302⟩,A30,H⟩:=H
 (try dsimp only at H)
 have A3:=Aside0.mk A30
 clear A30
 simp only [Option.some.injEq,Prod.mk.injEq] at H
 obtain ⟨rfl,rfl,rfl⟩:=H
 go_enter Try.func70,Try.ntmps70
 go_wp2_with (first|((with_reducible refine gate_callee (f:=73) rfl ?_);refine goesL_ (some 7) rfl rfl Try.func73 (by kernel_rfl) rfl #[.pointer (some ⟨g,0,none⟩),.int .i64 a1] rfl gl ?_;(with_reducible refine (spec_l1Cur_pick.calls g s0_0 s0_1 s0_2 a1 t300 t301 t302 w0 _ ?side1 ?side2 A3.out).mono ?_);(case side1=>exact IsS80.now HI0.out);(case side2=>exact h1 HB.out (IsS80.ge HI0.out));rintro e w4 ⟨rfl,hi,hb,hk⟩;refine ⟨_,rfl,?_⟩;replace HK:=ak (KeepBut.trans (kn HK.out) hk (.inl rfl));replace HB:=ak hb;replace HI0:=ak hi;(try clear hb);(try clear hk);(try clear hi)))
 go_ret
 exact ⟨fe,(IsS80.now HI0.out),h1 HB.out (IsS80.ge HI0.out),(kn HK.out)⟩

/-! ### spec_l1Cur_among: function 72 -/
def spec_l1Cur_among.f (s0_0 : List Int) (s0_1 : Int) (s0_2 : Int) (l1 : List Int) : Option (Int × Int × Int):=(spec_l1Cur_pick.f s0_0 s0_1 s0_2 (l1.length : Int)).bind fun bt303=>(if 0 ≤ bt303.1 then (if bt303.1 < (l1.length : Int) then (some (rd l1 bt303.1,bt303.2.1,bt303.2.2)) else (none)) else (none))
set_option maxHeartbeats 8000000 in
set_option maxRecDepth 100000 in
theorem spec_l1Cur_among.calls (g : Nat) (s0_0 : List Int) (s0_1 : Int) (s0_2 : Int) (A1 : Option Addr) (c1 : Nat) (l1 : List Int) (r1 : Int) (r2 : Int) (r3 : Int) (w0 w : World) (hI : IsS80 w0 w g s0_0 s0_1 s0_2) (hB : Below w0.heap.size w0 w) (hr1 : Kd.C (Kd.int .i64) w A1 l1.length l1) (hc1 : l1.length ≤ c1) (hf1 : ∀ ad,A1 = some ad → 0 < l1.length → ad.block ≠ g) (h : spec_l1Cur_among.f s0_0 s0_1 s0_2 l1 = some (r1,r2,r3)) :
  Calls Try.prog 72 #[.pointer (some ⟨g,0,none⟩),.slice A1 l1.length c1] w fun e w'=>e = .returned (.int .i64 r1) ∧ IsS80 w0 w' g s0_0 r2 r3 ∧ Below w0.heap.size w0 w' ∧ KeepBut w w' g none:=by
 have HR1:=Aside0.mk hr1
 have HC1:=Aside0.mk hc1
 clear hr1 hc1
 have HI0:=Aside0.mk hI
 have HK:=Aside0.mk (KeepBut.refl w g none)
 have HL:=Aside0.mk hB.size
 clear hI
 have HW0:=Aside0.mk hB.size
 have HB:=Aside0.mk hB
 clear hB
 have H : ((spec_l1Cur_pick.f s0_0 s0_1 s0_2 (l1.length : Int)).bind fun bt303=>(if 0 ≤ bt303.1 then (if bt303.1 < (l1.length : Int) then (some (rd l1 bt303.1,bt303.2.1,bt303.2.2)) else (none)) else (none))) = some (r1,r2,r3):=h
 clear h
 replace H:=Option.bind_eq_some_iff.mp H
 obtain ⟨⟨t303,t304,t305⟩,A30,H⟩:=H
 (try dsimp only at H)
 have A3:=Aside0.mk A30
 clear A30
 by_cases c4 : 0 ≤ t303
 rotate_left
 ·rw [if_neg c4] at H
  exact absurd H (by simp)
 rw [if_pos c4] at H
 have c4b0 : decide (0 ≤ t303) = true:=decide_eq_true c4
 clear c4
 by_cases c5 : t303 < (l1.length : Int)
 rotate_left
 ·rw [if_neg c5] at H
  exact absurd H (by simp)
 rw [if_pos c5] at H
 have c5b0 : decide (t303 < (l1.length : Int)) = true:=decide_eq_true c5
 clear c5
 simp only [Option.some.injEq,Prod.mk.injEq] at H
 obtain ⟨rfl,rfl,rfl⟩:=H
 go_enter Try.func72,Try.ntmps72
 go_wp2_with (first|((with_reducible refine gate_callee (f:=73) rfl ?_);refine goesL_ (some 9) rfl rfl Try.func73 (by kernel_rfl) rfl #[.pointer (some ⟨g,0,none⟩),.int .i64 (l1.length : Int)] rfl gl ?_;(with_reducible refine (spec_l1Cur_pick.calls g s0_0 s0_1 s0_2 (l1.length : Int) t303 t304 t305 w0 _ ?side1 ?side2 A3.out).mono ?_);(case side1=>exact IsS80.now HI0.out);(case side2=>exact h1 HB.out (IsS80.ge HI0.out));rintro e w6 ⟨rfl,hi,hb,hk⟩;refine ⟨_,rfl,?_⟩;replace HK:=ak (KeepBut.trans (kn HK.out) hk (.inl rfl));replace HB:=ak hb;replace HI0:=ak hi;(try clear hb);(try clear hk);(try clear hi);have p306 : 0 ≤ (t303 : Int):=od;have q306 : t303 < (l1.length : Int):=od;obtain ⟨ad306,e306,hx306_0⟩:=Kd.at_int HR1.out t303 p306 q306;cases e306;replace hx306_0:=keep_cell HK.out hx306_0 (by first|(rw [add_block];exact hf1 _ rfl (by omega))|exact hf1 _ rfl (by omega)|exact hf1 ad306 rfl (by omega));replace p306:=eq_true p306;replace q306:=eq_true q306))
 go_ret
 exact ⟨fe,(IsS80.now HI0.out),h1 HB.out (IsS80.ge HI0.out),(kn HK.out)⟩

/-! ### spec_l1Cur_size: function 77 -/
def spec_l1Cur_size.f (s0_0 : List Int) (s0_1 : Int) (s0_2 : Int) : Option (Int × Int × Int):=(spec_l1Cur_one.f s0_0 s0_1 s0_2 40).bind fun bt307=>(if bt307.1 = true then ((spec_l1Cur_among.f s0_0 bt307.2.1 bt307.2.2 (([1,2,24,25,0,(-1),4611686018427387904] : List Int))).bind fun bt313=>(some (bt313.1,bt313.2.1,bt313.2.2))) else ((spec_l1Cur_among.f s0_0 bt307.2.1 bt307.2.2 (([5,6,4,8,3,10,7,13,24,2] : List Int))).bind fun bt319=>(some (bt319.1,bt319.2.1,bt319.2.2))))
set_option maxHeartbeats 8000000 in
set_option maxRecDepth 100000 in
theorem spec_l1Cur_size.calls (g : Nat) (s0_0 : List Int) (s0_1 : Int) (s0_2 : Int) (r1 : Int) (r2 : Int) (r3 : Int) (w0 w : World) (hI : IsS80 w0 w g s0_0 s0_1 s0_2) (hB : Below w0.heap.size w0 w) (h : spec_l1Cur_size.f s0_0 s0_1 s0_2 = some (r1,r2,r3)) :
  Calls Try.prog 77 #[.pointer (some ⟨g,0,none⟩)] w fun e w'=>e = .returned (.int .i64 r1) ∧ IsS80 w0 w' g s0_0 r2 r3 ∧ Below w0.heap.size w0 w' ∧ KeepBut w w' g none:=by
 have HI0:=Aside0.mk hI
 have HK:=Aside0.mk (KeepBut.refl w g none)
 have HL:=Aside0.mk hB.size
 clear hI
 have HW0:=Aside0.mk hB.size
 have HB:=Aside0.mk hB
 clear hB
 have H : ((spec_l1Cur_one.f s0_0 s0_1 s0_2 40).bind fun bt307=>(if bt307.1 = true then ((spec_l1Cur_among.f s0_0 bt307.2.1 bt307.2.2 (([1,2,24,25,0,(-1),4611686018427387904] : List Int))).bind fun bt313=>(some (bt313.1,bt313.2.1,bt313.2.2))) else ((spec_l1Cur_among.f s0_0 bt307.2.1 bt307.2.2 (([5,6,4,8,3,10,7,13,24,2] : List Int))).bind fun bt319=>(some (bt319.1,bt319.2.1,bt319.2.2))))) = some (r1,r2,r3):=h
 clear h
 replace H:=Option.bind_eq_some_iff.mp H
 obtain ⟨⟨t307,t308,t309⟩,A20,H⟩:=H
 (try dsimp only at H)
 have A2:=Aside0.mk A20
 clear A20
 by_cases c3 : t307 = true
 ·subst c3
  rw [if_pos rfl] at H
  obtain ⟨y310,hy310⟩ : ∃ y_ : List Int,y_ = (([1,2,24,25,0,(-1),4611686018427387904] : List Int)):=⟨_,rfl⟩
  replace H : ((spec_l1Cur_among.f s0_0 t308 t309 y310).bind fun bt313=>(some (bt313.1,bt313.2.1,bt313.2.2))) = some (r1,r2,r3):=by first|(rw [hy310];with_reducible exact H)|(have H2_:=(Option.bind_some _ _).symm.trans H;rw [hy310];with_reducible exact H2_)|(have H2_:=(Option.bind_some _ _).symm.trans H;with_reducible exact H2_)|with_reducible exact H|(rw [hy310];exact H)|exact H
  have Ny310:=Aside0.mk hy310
  clear hy310
  replace H:=Option.bind_eq_some_iff.mp H
  obtain ⟨⟨t313,t314,t315⟩,A40,H⟩:=H
  (try dsimp only at H)
  have A4:=Aside0.mk A40
  clear A40
  simp only [Option.some.injEq,Prod.mk.injEq] at H
  obtain ⟨rfl,rfl,rfl⟩:=H
  go_enter Try.func77,Try.ntmps77
  go_wp2_with (first|((with_reducible refine gate_callee (f:=70) rfl ?_);refine goesL_ (some 4) rfl rfl Try.func70 (by kernel_rfl) rfl #[.pointer (some ⟨g,0,none⟩),.int .i64 40] rfl gl ?_;(with_reducible refine (spec_l1Cur_one.calls g s0_0 s0_1 s0_2 40 true t308 t309 w0 _ ?side1 ?side2 A2.out).mono ?_);(case side1=>exact IsS80.now HI0.out);(case side2=>exact h1 HB.out (IsS80.ge HI0.out));rintro e w5 ⟨rfl,hi,hb,hk⟩;refine ⟨_,rfl,?_⟩;replace HK:=ak (KeepBut.trans (kn HK.out) hk (.inl rfl));replace HB:=ak hb;replace HI0:=ak hi;(try clear hb);(try clear hk);(try clear hi))|((with_reducible refine gate_dst (N:=6) rfl ?_);refine R_lit (Kd.int .i64) _ 3 ?hg (N:=6) ?hd (xs:=([1,2,24,25,0,(-1),4611686018427387904] : List Int)) (inner:=[.int .i64 1,.int .i64 2,.int .i64 24,.int .i64 25,.int .i64 0,.int .i64 (-1),.int .i64 4611686018427387904]) (ok:=fun _=>True) (okp:=fun _=>True) ?hr ?hp (fun _ hk=>hk) trivial (Below.refl _ _) (Nat.le_refl _) (by simp) ?_;(case hd=>rfl);(case hg=>rfl);(case hr=>first|(go_simp;done)|(go_simp;rfl));(case hp=>exact (Reps.one (show Kd.M (Kd.int .i64) _ _ _ 1 [.int .i64 1] from rfl) (Reps.one (show Kd.M (Kd.int .i64) _ _ _ 2 [.int .i64 2] from rfl) (Reps.one (show Kd.M (Kd.int .i64) _ _ _ 24 [.int .i64 24] from rfl) (Reps.one (show Kd.M (Kd.int .i64) _ _ _ 25 [.int .i64 25] from rfl) (Reps.one (show Kd.M (Kd.int .i64) _ _ _ 0 [.int .i64 0] from rfl) (Reps.one (show Kd.M (Kd.int .i64) _ _ _ (-1) [.int .i64 (-1)] from rfl) (Reps.one (show Kd.M (Kd.int .i64) _ _ _ 4611686018427387904 [.int .i64 4611686018427387904] from rfl) (Reps.none _ _)))))))));intro v311 w6 ho7 hb hg_ hnew_;clear hg_ hnew_;(first|rw [← Ny310.out] at ho7|(simp only [Int.reduceToNat] at ho7;rw [← Ny310.out] at ho7));have HO312:=ak (R_lower ho7 (keep_size (w:=w) (g:=g) (row:=none) (kn HK.out)));replace HK:=ak (KeepBut.trans (kn HK.out) (KeepBut.of_below hb g none) (.inl rfl));replace HB:=ak (below_step (h1 HB.out (IsS80.ge HI0.out)) hb);replace HI0:=ak (IsS80.below (g:=g) (IsS80.now HI0.out) hb);clear hb ho7;obtain ⟨Ao8,co8,eo8⟩:=R_slice HO312.out;subst eo8)|((with_reducible refine gate_callee (f:=72) rfl ?_);refine goesL_ (some 7) rfl rfl Try.func72 (by kernel_rfl) rfl #[.pointer (some ⟨g,0,none⟩),.slice Ao8 y310.length co8] rfl gl ?_;(with_reducible refine (spec_l1Cur_among.calls g s0_0 t308 t309 _ _ y310 t313 t314 t315 w0 _ ?side1 ?side2 ?side3 ?side4 ?side5 A4.out).mono ?_);(case side1=>exact IsS80.now HI0.out);(case side2=>exact h1 HB.out (IsS80.ge HI0.out));(case side3=>exact cm (R_reads' HO312.out).2.2);(case side4=>exact (R_reads' HO312.out).2.1);(case side5=>exact far_slice (IsS80.own_ne HI0.out HO312.out (by decide)));rintro e w9 ⟨rfl,hi,hb,hk⟩;refine ⟨_,rfl,?_⟩;replace HO312:=ak (R_mono (R_keep (IsS80.apart (show IsS80 w0 _ g s0_0 t308 t309 from (IsS80.now HI0.out)) (rm HO312.out) (by decide)) hk (fun _ h=>h.2)) (fun _ h=>h.1));replace HK:=ak (KeepBut.trans (kn HK.out) hk (.inl rfl));replace HB:=ak hb;replace HI0:=ak hi;(try clear hb);(try clear hk);(try clear hi)))
  go_ret
  exact ⟨fe,(IsS80.now HI0.out),h1 HB.out (IsS80.ge HI0.out),(kn HK.out)⟩
 replace c3:=Bool.eq_false_iff.mpr c3
 subst c3
 rw [if_neg (show ¬ (false = true) by decide)] at H
 obtain ⟨y316,hy316⟩ : ∃ y_ : List Int,y_ = (([5,6,4,8,3,10,7,13,24,2] : List Int)):=⟨_,rfl⟩
 replace H : ((spec_l1Cur_among.f s0_0 t308 t309 y316).bind fun bt319=>(some (bt319.1,bt319.2.1,bt319.2.2))) = some (r1,r2,r3):=by first|(rw [hy316];with_reducible exact H)|(have H2_:=(Option.bind_some _ _).symm.trans H;rw [hy316];with_reducible exact H2_)|(have H2_:=(Option.bind_some _ _).symm.trans H;with_reducible exact H2_)|with_reducible exact H|(rw [hy316];exact H)|exact H
 have Ny316:=Aside0.mk hy316
 clear hy316
 replace H:=Option.bind_eq_some_iff.mp H
 obtain ⟨⟨t319,t320,t321⟩,A100,H⟩:=H
 (try dsimp only at H)
 have A10:=Aside0.mk A100
 clear A100
 simp only [Option.some.injEq,Prod.mk.injEq] at H
 obtain ⟨rfl,rfl,rfl⟩:=H
 go_enter Try.func77,Try.ntmps77
 go_wp2_with (first|((with_reducible refine gate_callee (f:=70) rfl ?_);refine goesL_ (some 4) rfl rfl Try.func70 (by kernel_rfl) rfl #[.pointer (some ⟨g,0,none⟩),.int .i64 40] rfl gl ?_;(with_reducible refine (spec_l1Cur_one.calls g s0_0 s0_1 s0_2 40 false t308 t309 w0 _ ?side1 ?side2 A2.out).mono ?_);(case side1=>exact IsS80.now HI0.out);(case side2=>exact h1 HB.out (IsS80.ge HI0.out));rintro e w11 ⟨rfl,hi,hb,hk⟩;refine ⟨_,rfl,?_⟩;replace HK:=ak (KeepBut.trans (kn HK.out) hk (.inl rfl));replace HB:=ak hb;replace HI0:=ak hi;(try clear hb);(try clear hk);(try clear hi))|((with_reducible refine gate_dst (N:=9) rfl ?_);refine R_lit (Kd.int .i64) _ 3 ?hg (N:=9) ?hd (xs:=([5,6,4,8,3,10,7,13,24,2] : List Int)) (inner:=[.int .i64 5,.int .i64 6,.int .i64 4,.int .i64 8,.int .i64 3,.int .i64 10,.int .i64 7,.int .i64 13,.int .i64 24,.int .i64 2]) (ok:=fun _=>True) (okp:=fun _=>True) ?hr ?hp (fun _ hk=>hk) trivial (Below.refl _ _) (Nat.le_refl _) (by simp) ?_;(case hd=>rfl);(case hg=>rfl);(case hr=>first|(go_simp;done)|(go_simp;rfl));(case hp=>exact (Reps.one (show Kd.M (Kd.int .i64) _ _ _ 5 [.int .i64 5] from rfl) (Reps.one (show Kd.M (Kd.int .i64) _ _ _ 6 [.int .i64 6] from rfl) (Reps.one (show Kd.M (Kd.int .i64) _ _ _ 4 [.int .i64 4] from rfl) (Reps.one (show Kd.M (Kd.int .i64) _ _ _ 8 [.int .i64 8] from rfl) (Reps.one (show Kd.M (Kd.int .i64) _ _ _ 3 [.int .i64 3] from rfl) (Reps.one (show Kd.M (Kd.int .i64) _ _ _ 10 [.int .i64 10] from rfl) (Reps.one (show Kd.M (Kd.int .i64) _ _ _ 7 [.int .i64 7] from rfl) (Reps.one (show Kd.M (Kd.int .i64) _ _ _ 13 [.int .i64 13] from rfl) (Reps.one (show Kd.M (Kd.int .i64) _ _ _ 24 [.int .i64 24] from rfl) (Reps.one (show Kd.M (Kd.int .i64) _ _ _ 2 [.int .i64 2] from rfl) (Reps.none _ _))))))))))));intro v317 w12 ho13 hb hg_ hnew_;clear hg_ hnew_;(first|rw [← Ny316.out] at ho13|(simp only [Int.reduceToNat] at ho13;rw [← Ny316.out] at ho13));have HO318:=ak (R_lower ho13 (keep_size (w:=w) (g:=g) (row:=none) (kn HK.out)));replace HK:=ak (KeepBut.trans (kn HK.out) (KeepBut.of_below hb g none) (.inl rfl));replace HB:=ak (below_step (h1 HB.out (IsS80.ge HI0.out)) hb);replace HI0:=ak (IsS80.below (g:=g) (IsS80.now HI0.out) hb);clear hb ho13;obtain ⟨Ao14,co14,eo14⟩:=R_slice HO318.out;subst eo14)|((with_reducible refine gate_callee (f:=72) rfl ?_);refine goesL_ (some 10) rfl rfl Try.func72 (by kernel_rfl) rfl #[.pointer (some ⟨g,0,none⟩),.slice Ao14 y316.length co14] rfl gl ?_;(with_reducible refine (spec_l1Cur_among.calls g s0_0 t308 t309 _ _ y316 t319 t320 t321 w0 _ ?side1 ?side2 ?side3 ?side4 ?side5 A10.out).mono ?_);(case side1=>exact IsS80.now HI0.out);(case side2=>exact h1 HB.out (IsS80.ge HI0.out));(case side3=>exact cm (R_reads' HO318.out).2.2);(case side4=>exact (R_reads' HO318.out).2.1);(case side5=>exact far_slice (IsS80.own_ne HI0.out HO318.out (by decide)));rintro e w15 ⟨rfl,hi,hb,hk⟩;refine ⟨_,rfl,?_⟩;replace HO318:=ak (R_mono (R_keep (IsS80.apart (show IsS80 w0 _ g s0_0 t308 t309 from (IsS80.now HI0.out)) (rm HO318.out) (by decide)) hk (fun _ h=>h.2)) (fun _ h=>h.1));replace HK:=ak (KeepBut.trans (kn HK.out) hk (.inl rfl));replace HB:=ak hb;replace HI0:=ak hi;(try clear hb);(try clear hk);(try clear hi)))
 go_ret
 exact ⟨fe,(IsS80.now HI0.out),h1 HB.out (IsS80.ge HI0.out),(kn HK.out)⟩

/-! ### spec_l1Cur_line: function 74 -/
def spec_l1Cur_line.f (s0_0 : List Int) (s0_1 : Int) (s0_2 : Int) : Option (Int × Bool × Int × Int):=(spec_l1Cur_size.f s0_0 s0_1 s0_2).bind fun bt323=>(some (bt323.1,false,bt323.2.1,bt323.2.2))
set_option maxHeartbeats 8000000 in
set_option maxRecDepth 100000 in
theorem spec_l1Cur_line.calls (g : Nat) (s0_0 : List Int) (s0_1 : Int) (s0_2 : Int) (r1 : Int) (r2 : Bool) (r3 : Int) (r4 : Int) (w0 w : World) (hI : IsS80 w0 w g s0_0 s0_1 s0_2) (hB : Below w0.heap.size w0 w) (h : spec_l1Cur_line.f s0_0 s0_1 s0_2 = some (r1,r2,r3,r4)) :
  Calls Try.prog 74 #[.pointer (some ⟨g,0,none⟩)] w fun e w'=>e = .returned (.agg #[.int .i64 r1,.bool r2]) ∧ IsS80 w0 w' g s0_0 r3 r4 ∧ Below w0.heap.size w0 w' ∧ KeepBut w w' g none:=by
 have hu28:=Try.underlying28
 have HI0:=Aside0.mk hI
 have HK:=Aside0.mk (KeepBut.refl w g none)
 have HL:=Aside0.mk hB.size
 clear hI
 have HW0:=Aside0.mk hB.size
 have HB:=Aside0.mk hB
 clear hB
 have H : ((spec_l1Cur_size.f s0_0 s0_1 s0_2).bind fun bt323=>(some (bt323.1,false,bt323.2.1,bt323.2.2))) = some (r1,r2,r3,r4):=h
 clear h
 replace H:=Option.bind_eq_some_iff.mp H
 obtain ⟨⟨t323,t324,t325⟩,A20,H⟩:=H
 (try dsimp only at H)
 have A2:=Aside0.mk A20
 clear A20
 simp only [Option.some.injEq,Prod.mk.injEq] at H
 obtain ⟨rfl,rfl,rfl,rfl⟩:=H
 go_enter Try.func74,Try.ntmps74
 go_wp2_with (first|((with_reducible refine gate_dst (N:=2) rfl ?_);refine box_event ?hg (N:=2) ?hd (cs:=#[.int .i64 0,.bool false]) (t:=28) ?hr ?_;(case hd=>rfl);(case hg=>rfl);(case hr=>first|(go_simp;done)|(go_simp;rfl));intro gb322 hg w3 hbox hb;replace HB:=ak (below_step (h1 HB.out (IsS80.ge HI0.out)) hb);have BK322:=ak hbox;have GW322:=ak ((by rw [hg];exact (keep_size (w:=w) (g:=g) (row:=none) (kn HK.out)) : w.heap.size ≤ gb322));have GE322:=ak ((Nat.le_trans HW0.out (by rw [hg];exact (keep_size (w:=w) (g:=g) (row:=none) (kn HK.out)) : w.heap.size ≤ gb322) : w0.heap.size ≤ gb322));replace HK:=ak (KeepBut.trans (kn HK.out) (KeepBut.of_below hb g none) (.inl rfl));have NB0_322:=ak ((by rw [hg];exact Nat.ne_of_lt (IsS80.lt (show IsS80 w0 _ g s0_0 s0_1 s0_2 from (IsS80.now HI0.out))) : g ≠ gb322));have NB322_0:=ak ((by rw [hg];exact Nat.ne_of_gt (IsS80.lt (show IsS80 w0 _ g s0_0 s0_1 s0_2 from (IsS80.now HI0.out))) : gb322 ≠ g));replace HI0:=ak (IsS80.below (g:=g) (IsS80.now HI0.out) hb);clear hb hbox hg)|((with_reducible refine gate_callee (f:=77) rfl ?_);refine goesL_ (some 4) rfl rfl Try.func77 (by kernel_rfl) rfl #[.pointer (some ⟨g,0,none⟩)] rfl gl ?_;(with_reducible refine (spec_l1Cur_size.calls g s0_0 s0_1 s0_2 t323 t324 t325 w0 _ ?side1 ?side2 A2.out).mono ?_);(case side1=>exact IsS80.now HI0.out);(case side2=>exact h2 HB.out (IsS80.ge HI0.out) GE322.out);rintro e w4 ⟨rfl,hi,hb,hk⟩;refine ⟨_,rfl,?_⟩;replace BK322:=ak (KeepBut.blk hk (g':=gb322) (o:=.cells #[.int .i64 0,.bool false] 28 (0,0)) (bm BK322.out) NB322_0.out (by simp));replace HK:=ak (KeepBut.trans (kn HK.out) hk (.inl rfl));replace HB:=ak hb;replace HI0:=ak hi;(try clear hb);(try clear hk);(try clear hi);have hnb5:=NB322_0.out;have hnc5:=NB0_322.out;have hcz6_0 : w4.cell? ⟨gb322,0,none⟩ = some (.int .i64 0):=(blk_cell BK322.out 0).trans rfl;have hcz6_1 : w4.cell? ⟨gb322,1,none⟩ = some (.bool false):=(blk_cell BK322.out 1).trans rfl;have hfz6_0:=blk_frozen BK322.out 0;have hfz6_1:=blk_frozen BK322.out 1))
 refine bodyPost_ret (results_cell_row rfl _ _ gb322 28 #[.int .i64 t323,.bool false] (0,0) _ rfl (by (with_reducible repeat (first|apply blk_drewN|apply blk_drew|apply blk_alloc));refine blk_put (cs:=#[.int .i64 t323,.bool false]) ?_ 1 _ rfl;(with_reducible repeat (first|apply blk_drewN|apply blk_drew|apply blk_alloc));refine blk_put (cs:=#[.int .i64 0,.bool false]) ?_ 0 _ rfl;exact bm BK322.out) Try.underlying28 rfl (by kernel_rfl)) rfl ?_
 exact ⟨fe,(IsS80.now HI0.out),h2 HB.out (IsS80.ge HI0.out) GE322.out,(kn HK.out)⟩

/-! ### spec_l1Cur_ring: function 75 -/
def spec_l1Cur_ring.f (s0_0 : List Int) (s0_1 : Int) (s0_2 : Int) : Option (Int × Bool × Int × Int):=(spec_l1Cur_size.f s0_0 s0_1 s0_2).bind fun bt327=>(if bt327.1 = 2 then ((spec_l1Cur_one.f s0_0 bt327.2.1 bt327.2.2 4).bind fun bt331=>(if bt331.1 = true then (some (bt327.1,true,bt331.2.1,bt331.2.2)) else (some (3,true,bt331.2.1,bt331.2.2)))) else (some (bt327.1,true,bt327.2.1,bt327.2.2)))
set_option maxHeartbeats 8000000 in
set_option maxRecDepth 100000 in
theorem spec_l1Cur_ring.calls (g : Nat) (s0_0 : List Int) (s0_1 : Int) (s0_2 : Int) (r1 : Int) (r2 : Bool) (r3 : Int) (r4 : Int) (w0 w : World) (hI : IsS80 w0 w g s0_0 s0_1 s0_2) (hB : Below w0.heap.size w0 w) (h : spec_l1Cur_ring.f s0_0 s0_1 s0_2 = some (r1,r2,r3,r4)) :
  Calls Try.prog 75 #[.pointer (some ⟨g,0,none⟩)] w fun e w'=>e = .returned (.agg #[.int .i64 r1,.bool r2]) ∧ IsS80 w0 w' g s0_0 r3 r4 ∧ Below w0.heap.size w0 w' ∧ KeepBut w w' g none:=by
 have hu28:=Try.underlying28
 have HI0:=Aside0.mk hI
 have HK:=Aside0.mk (KeepBut.refl w g none)
 have HL:=Aside0.mk hB.size
 clear hI
 have HW0:=Aside0.mk hB.size
 have HB:=Aside0.mk hB
 clear hB
 have H : ((spec_l1Cur_size.f s0_0 s0_1 s0_2).bind fun bt327=>(if bt327.1 = 2 then ((spec_l1Cur_one.f s0_0 bt327.2.1 bt327.2.2 4).bind fun bt331=>(if bt331.1 = true then (some (bt327.1,true,bt331.2.1,bt331.2.2)) else (some (3,true,bt331.2.1,bt331.2.2)))) else (some (bt327.1,true,bt327.2.1,bt327.2.2)))) = some (r1,r2,r3,r4):=h
 clear h
 replace H:=Option.bind_eq_some_iff.mp H
 obtain ⟨⟨t327,t328,t329⟩,A20,H⟩:=H
 (try dsimp only at H)
 have A2:=Aside0.mk A20
 clear A20
 by_cases c3 : t327 = 2
 rotate_left
 ·rw [if_neg c3] at H
  have c3b0 : (t327 == 2) = false:=beq_eq_false_iff_ne.mpr c3
  have c3b1 : (t327 != 2) = true:=bne_iff_ne.mpr c3
  simp only [Option.some.injEq,Prod.mk.injEq] at H
  obtain ⟨rfl,rfl,rfl,rfl⟩:=H
  go_enter Try.func75,Try.ntmps75
  go_wp2_with (first|((with_reducible refine gate_dst (N:=2) rfl ?_);refine box_event ?hg (N:=2) ?hd (cs:=#[.int .i64 0,.bool false]) (t:=28) ?hr ?_;(case hd=>rfl);(case hg=>rfl);(case hr=>first|(go_simp;done)|(go_simp;rfl));intro gb326 hg w26 hbox hb;replace HB:=ak (below_step (h1 HB.out (IsS80.ge HI0.out)) hb);have BK326:=ak hbox;have GW326:=ak ((by rw [hg];exact (keep_size (w:=w) (g:=g) (row:=none) (kn HK.out)) : w.heap.size ≤ gb326));have GE326:=ak ((Nat.le_trans HW0.out (by rw [hg];exact (keep_size (w:=w) (g:=g) (row:=none) (kn HK.out)) : w.heap.size ≤ gb326) : w0.heap.size ≤ gb326));replace HK:=ak (KeepBut.trans (kn HK.out) (KeepBut.of_below hb g none) (.inl rfl));have NB0_326:=ak ((by rw [hg];exact Nat.ne_of_lt (IsS80.lt (show IsS80 w0 _ g s0_0 s0_1 s0_2 from (IsS80.now HI0.out))) : g ≠ gb326));have NB326_0:=ak ((by rw [hg];exact Nat.ne_of_gt (IsS80.lt (show IsS80 w0 _ g s0_0 s0_1 s0_2 from (IsS80.now HI0.out))) : gb326 ≠ g));replace HI0:=ak (IsS80.below (g:=g) (IsS80.now HI0.out) hb);clear hb hbox hg)|((with_reducible refine gate_callee (f:=77) rfl ?_);refine goesL_ (some 5) rfl rfl Try.func77 (by kernel_rfl) rfl #[.pointer (some ⟨g,0,none⟩)] rfl gl ?_;(with_reducible refine (spec_l1Cur_size.calls g s0_0 s0_1 s0_2 t327 t328 t329 w0 _ ?side1 ?side2 A2.out).mono ?_);(case side1=>exact IsS80.now HI0.out);(case side2=>exact h2 HB.out (IsS80.ge HI0.out) GE326.out);rintro e w27 ⟨rfl,hi,hb,hk⟩;refine ⟨_,rfl,?_⟩;replace BK326:=ak (KeepBut.blk hk (g':=gb326) (o:=.cells #[.int .i64 0,.bool false] 28 (0,0)) (bm BK326.out) NB326_0.out (by simp));replace HK:=ak (KeepBut.trans (kn HK.out) hk (.inl rfl));replace HB:=ak hb;replace HI0:=ak hi;(try clear hb);(try clear hk);(try clear hi))|((with_reducible refine gate_dst (N:=3) rfl ?_);refine box_event ?hg (N:=3) ?hd (cs:=#[.int .i64 0,.bool false]) (t:=28) ?hr ?_;(case hd=>rfl);(case hg=>rfl);(case hr=>first|(go_simp;done)|(go_simp;rfl));intro gb330 hg w28 hbox hb;replace HB:=ak (below_step (h2 HB.out (IsS80.ge HI0.out) GE326.out) hb);have BK330:=ak hbox;have GW330:=ak ((by rw [hg];exact (keep_size (w:=w) (g:=g) (row:=none) (kn HK.out)) : w.heap.size ≤ gb330));have GE330:=ak ((Nat.le_trans HW0.out (by rw [hg];exact (keep_size (w:=w) (g:=g) (row:=none) (kn HK.out)) : w.heap.size ≤ gb330) : w0.heap.size ≤ gb330));replace HK:=ak (KeepBut.trans (kn HK.out) (KeepBut.of_below hb g none) (.inl rfl));have NB326_330:=ak ((by rw [hg];exact Nat.ne_of_lt (blk_lt (g:=gb326) (o:=.cells #[.int .i64 0,.bool false] 28 (0,0)) (bm BK326.out)) : gb326 ≠ gb330));have NB330_326:=ak ((by rw [hg];exact Nat.ne_of_gt (blk_lt (g:=gb326) (o:=.cells #[.int .i64 0,.bool false] 28 (0,0)) (bm BK326.out)) : gb330 ≠ gb326));replace BK326:=kb BK326 hb;have NB0_330:=ak ((by rw [hg];exact Nat.ne_of_lt (IsS80.lt (show IsS80 w0 _ g s0_0 t328 t329 from (IsS80.now HI0.out))) : g ≠ gb330));have NB330_0:=ak ((by rw [hg];exact Nat.ne_of_gt (IsS80.lt (show IsS80 w0 _ g s0_0 t328 t329 from (IsS80.now HI0.out))) : gb330 ≠ g));replace HI0:=ak (IsS80.below (g:=g) (IsS80.now HI0.out) hb);clear hb hbox hg;have hnb29:=NB330_326.out;have hnc29:=NB326_330.out;have hnb30:=NB330_0.out;have hnc30:=NB0_330.out;have hcz31_0 : w28.cell? ⟨gb330,0,none⟩ = some (.int .i64 0):=(blk_cell BK330.out 0).trans rfl;have hcz31_1 : w28.cell? ⟨gb330,1,none⟩ = some (.bool false):=(blk_cell BK330.out 1).trans rfl;have hfz31_0:=blk_frozen BK330.out 0;have hfz31_1:=blk_frozen BK330.out 1;have hnb32:=NB326_0.out;have hnc32:=NB0_326.out;have hcz33_0 : w28.cell? ⟨gb326,0,none⟩ = some (.int .i64 0):=(blk_cell BK326.out 0).trans rfl;have hcz33_1 : w28.cell? ⟨gb326,1,none⟩ = some (.bool false):=(blk_cell BK326.out 1).trans rfl;have hfz33_0:=blk_frozen BK326.out 0;have hfz33_1:=blk_frozen BK326.out 1))
  refine bodyPost_ret (results_cell_row rfl _ _ gb326 28 #[.int .i64 t327,.bool true] (0,0) _ rfl (by (with_reducible repeat (first|apply blk_drewN|apply blk_drew|apply blk_alloc));refine blk_put (cs:=#[.int .i64 t327,.bool false]) ?_ 1 _ rfl;(with_reducible repeat (first|apply blk_drewN|apply blk_drew|apply blk_alloc));refine blk_put (cs:=#[.int .i64 0,.bool false]) ?_ 0 _ rfl;(with_reducible repeat (first|apply blk_drewN|apply blk_drew|apply blk_alloc));refine blk_far ?_ NB326_330.out _;(with_reducible repeat (first|apply blk_drewN|apply blk_drew|apply blk_alloc));refine blk_far ?_ NB326_330.out _;exact bm BK326.out) Try.underlying28 rfl (by kernel_rfl)) rfl ?_
  exact ⟨fe,(IsS80.now HI0.out),h3 HB.out (IsS80.ge HI0.out) GE326.out GE330.out,(kn HK.out)⟩
 rw [if_pos c3] at H
 have c3b0 : (t327 == 2) = true:=beq_iff_eq.mpr c3
 have c3b1 : (t327 != 2) = false:=bne_eq_false_iff_eq.mpr c3
 clear c3
 replace H:=Option.bind_eq_some_iff.mp H
 obtain ⟨⟨t331,t332,t333⟩,A40,H⟩:=H
 (try dsimp only at H)
 have A4:=Aside0.mk A40
 clear A40
 by_cases c5 : t331 = true
 ·subst c5
  rw [if_pos rfl] at H
  simp only [Option.some.injEq,Prod.mk.injEq] at H
  obtain ⟨rfl,rfl,rfl,rfl⟩:=H
  go_enter Try.func75,Try.ntmps75
  go_wp2_with (first|((with_reducible refine gate_dst (N:=2) rfl ?_);refine box_event ?hg (N:=2) ?hd (cs:=#[.int .i64 0,.bool false]) (t:=28) ?hr ?_;(case hd=>rfl);(case hg=>rfl);(case hr=>first|(go_simp;done)|(go_simp;rfl));intro gb326 hg w6 hbox hb;replace HB:=ak (below_step (h1 HB.out (IsS80.ge HI0.out)) hb);have BK326:=ak hbox;have GW326:=ak ((by rw [hg];exact (keep_size (w:=w) (g:=g) (row:=none) (kn HK.out)) : w.heap.size ≤ gb326));have GE326:=ak ((Nat.le_trans HW0.out (by rw [hg];exact (keep_size (w:=w) (g:=g) (row:=none) (kn HK.out)) : w.heap.size ≤ gb326) : w0.heap.size ≤ gb326));replace HK:=ak (KeepBut.trans (kn HK.out) (KeepBut.of_below hb g none) (.inl rfl));have NB0_326:=ak ((by rw [hg];exact Nat.ne_of_lt (IsS80.lt (show IsS80 w0 _ g s0_0 s0_1 s0_2 from (IsS80.now HI0.out))) : g ≠ gb326));have NB326_0:=ak ((by rw [hg];exact Nat.ne_of_gt (IsS80.lt (show IsS80 w0 _ g s0_0 s0_1 s0_2 from (IsS80.now HI0.out))) : gb326 ≠ g));replace HI0:=ak (IsS80.below (g:=g) (IsS80.now HI0.out) hb);clear hb hbox hg)|((with_reducible refine gate_callee (f:=77) rfl ?_);refine goesL_ (some 5) rfl rfl Try.func77 (by kernel_rfl) rfl #[.pointer (some ⟨g,0,none⟩)] rfl gl ?_;(with_reducible refine (spec_l1Cur_size.calls g s0_0 s0_1 s0_2 t327 t328 t329 w0 _ ?side1 ?side2 A2.out).mono ?_);(case side1=>exact IsS80.now HI0.out);(case side2=>exact h2 HB.out (IsS80.ge HI0.out) GE326.out);rintro e w7 ⟨rfl,hi,hb,hk⟩;refine ⟨_,rfl,?_⟩;replace BK326:=ak (KeepBut.blk hk (g':=gb326) (o:=.cells #[.int .i64 0,.bool false] 28 (0,0)) (bm BK326.out) NB326_0.out (by simp));replace HK:=ak (KeepBut.trans (kn HK.out) hk (.inl rfl));replace HB:=ak hb;replace HI0:=ak hi;(try clear hb);(try clear hk);(try clear hi))|((with_reducible refine gate_dst (N:=3) rfl ?_);refine box_event ?hg (N:=3) ?hd (cs:=#[.int .i64 0,.bool false]) (t:=28) ?hr ?_;(case hd=>rfl);(case hg=>rfl);(case hr=>first|(go_simp;done)|(go_simp;rfl));intro gb330 hg w8 hbox hb;replace HB:=ak (below_step (h2 HB.out (IsS80.ge HI0.out) GE326.out) hb);have BK330:=ak hbox;have GW330:=ak ((by rw [hg];exact (keep_size (w:=w) (g:=g) (row:=none) (kn HK.out)) : w.heap.size ≤ gb330));have GE330:=ak ((Nat.le_trans HW0.out (by rw [hg];exact (keep_size (w:=w) (g:=g) (row:=none) (kn HK.out)) : w.heap.size ≤ gb330) : w0.heap.size ≤ gb330));replace HK:=ak (KeepBut.trans (kn HK.out) (KeepBut.of_below hb g none) (.inl rfl));have NB326_330:=ak ((by rw [hg];exact Nat.ne_of_lt (blk_lt (g:=gb326) (o:=.cells #[.int .i64 0,.bool false] 28 (0,0)) (bm BK326.out)) : gb326 ≠ gb330));have NB330_326:=ak ((by rw [hg];exact Nat.ne_of_gt (blk_lt (g:=gb326) (o:=.cells #[.int .i64 0,.bool false] 28 (0,0)) (bm BK326.out)) : gb330 ≠ gb326));replace BK326:=kb BK326 hb;have NB0_330:=ak ((by rw [hg];exact Nat.ne_of_lt (IsS80.lt (show IsS80 w0 _ g s0_0 t328 t329 from (IsS80.now HI0.out))) : g ≠ gb330));have NB330_0:=ak ((by rw [hg];exact Nat.ne_of_gt (IsS80.lt (show IsS80 w0 _ g s0_0 t328 t329 from (IsS80.now HI0.out))) : gb330 ≠ g));replace HI0:=ak (IsS80.below (g:=g) (IsS80.now HI0.out) hb);clear hb hbox hg;have hnb9:=NB330_326.out;have hnc9:=NB326_330.out;have hnb10:=NB330_0.out;have hnc10:=NB0_330.out;have hcz11_0 : w8.cell? ⟨gb330,0,none⟩ = some (.int .i64 0):=(blk_cell BK330.out 0).trans rfl;have hcz11_1 : w8.cell? ⟨gb330,1,none⟩ = some (.bool false):=(blk_cell BK330.out 1).trans rfl;have hfz11_0:=blk_frozen BK330.out 0;have hfz11_1:=blk_frozen BK330.out 1)|(go_at_call 70;(with_reducible refine (spec_l1Cur_one.calls g s0_0 t328 t329 4 true t332 t333 w0 _ ?side1 ?side2 A4.out).mono ?_);(case side1=>exact IsS80.now HI0.out);(case side2=>exact h3 HB.out (IsS80.ge HI0.out) GE326.out GE330.out);rintro e w12 ⟨rfl,hi,hb,hk⟩;replace BK326:=ak (KeepBut.blk hk (g':=gb326) (o:=.cells #[.int .i64 0,.bool false] 28 (0,0)) (by (with_reducible repeat (first|apply blk_drewN|apply blk_drew|apply blk_alloc));refine blk_far ?_ NB326_330.out _;(with_reducible repeat (first|apply blk_drewN|apply blk_drew|apply blk_alloc));refine blk_far ?_ NB326_330.out _;exact bm BK326.out) NB326_0.out (by simp));replace BK330:=ak (KeepBut.blk hk (g':=gb330) (o:=.cells #[.int .i64 t327,.bool true] 28 (0,0)) (by (with_reducible repeat (first|apply blk_drewN|apply blk_drew|apply blk_alloc));refine blk_put (cs:=#[.int .i64 t327,.bool false]) ?_ 1 _ rfl;(with_reducible repeat (first|apply blk_drewN|apply blk_drew|apply blk_alloc));refine blk_put (cs:=#[.int .i64 0,.bool false]) ?_ 0 _ rfl;exact bm BK330.out) NB330_0.out (by simp));replace HK:=ak (KeepBut.trans (kn HK.out) hk (.inl rfl));replace HB:=ak hb;replace HI0:=ak hi;(try clear hb);(try clear hk);(try clear hi);have hcz13_0 : w12.cell? ⟨gb330,0,none⟩ = some (.int .i64 t327):=(blk_cell BK330.out 0).trans rfl;have hcz13_1 : w12.cell? ⟨gb330,1,none⟩ = some (.bool true):=(blk_cell BK330.out 1).trans rfl;have hfz13_0:=blk_frozen BK330.out 0;have hfz13_1:=blk_frozen BK330.out 1;have hnb14:=NB326_0.out;have hnc14:=NB0_326.out;have hcz15_0 : w12.cell? ⟨gb326,0,none⟩ = some (.int .i64 0):=(blk_cell BK326.out 0).trans rfl;have hcz15_1 : w12.cell? ⟨gb326,1,none⟩ = some (.bool false):=(blk_cell BK326.out 1).trans rfl;have hfz15_0:=blk_frozen BK326.out 0;have hfz15_1:=blk_frozen BK326.out 1))
  refine bodyPost_ret (results_cell_row rfl _ _ gb326 28 #[.int .i64 t327,.bool true] (0,0) _ rfl (by (with_reducible repeat (first|apply blk_drewN|apply blk_drew|apply blk_alloc));refine blk_put (cs:=#[.int .i64 t327,.bool false]) ?_ 1 _ rfl;(with_reducible repeat (first|apply blk_drewN|apply blk_drew|apply blk_alloc));refine blk_put (cs:=#[.int .i64 0,.bool false]) ?_ 0 _ rfl;exact bm BK326.out) Try.underlying28 rfl (by kernel_rfl)) rfl ?_
  exact ⟨fe,(IsS80.now HI0.out),h3 HB.out (IsS80.ge HI0.out) GE326.out GE330.out,(kn HK.out)⟩
 replace c5:=Bool.eq_false_iff.mpr c5
 subst c5
 rw [if_neg (show ¬ (false = true) by decide)] at H
 simp only [Option.some.injEq,Prod.mk.injEq] at H
 obtain ⟨rfl,rfl,rfl,rfl⟩:=H
 go_enter Try.func75,Try.ntmps75
 go_wp2_with (first|((with_reducible refine gate_dst (N:=2) rfl ?_);refine box_event ?hg (N:=2) ?hd (cs:=#[.int .i64 0,.bool false]) (t:=28) ?hr ?_;(case hd=>rfl);(case hg=>rfl);(case hr=>first|(go_simp;done)|(go_simp;rfl));intro gb326 hg w16 hbox hb;replace HB:=ak (below_step (h1 HB.out (IsS80.ge HI0.out)) hb);have BK326:=ak hbox;have GW326:=ak ((by rw [hg];exact (keep_size (w:=w) (g:=g) (row:=none) (kn HK.out)) : w.heap.size ≤ gb326));have GE326:=ak ((Nat.le_trans HW0.out (by rw [hg];exact (keep_size (w:=w) (g:=g) (row:=none) (kn HK.out)) : w.heap.size ≤ gb326) : w0.heap.size ≤ gb326));replace HK:=ak (KeepBut.trans (kn HK.out) (KeepBut.of_below hb g none) (.inl rfl));have NB0_326:=ak ((by rw [hg];exact Nat.ne_of_lt (IsS80.lt (show IsS80 w0 _ g s0_0 s0_1 s0_2 from (IsS80.now HI0.out))) : g ≠ gb326));have NB326_0:=ak ((by rw [hg];exact Nat.ne_of_gt (IsS80.lt (show IsS80 w0 _ g s0_0 s0_1 s0_2 from (IsS80.now HI0.out))) : gb326 ≠ g));replace HI0:=ak (IsS80.below (g:=g) (IsS80.now HI0.out) hb);clear hb hbox hg)|((with_reducible refine gate_callee (f:=77) rfl ?_);refine goesL_ (some 5) rfl rfl Try.func77 (by kernel_rfl) rfl #[.pointer (some ⟨g,0,none⟩)] rfl gl ?_;(with_reducible refine (spec_l1Cur_size.calls g s0_0 s0_1 s0_2 t327 t328 t329 w0 _ ?side1 ?side2 A2.out).mono ?_);(case side1=>exact IsS80.now HI0.out);(case side2=>exact h2 HB.out (IsS80.ge HI0.out) GE326.out);rintro e w17 ⟨rfl,hi,hb,hk⟩;refine ⟨_,rfl,?_⟩;replace BK326:=ak (KeepBut.blk hk (g':=gb326) (o:=.cells #[.int .i64 0,.bool false] 28 (0,0)) (bm BK326.out) NB326_0.out (by simp));replace HK:=ak (KeepBut.trans (kn HK.out) hk (.inl rfl));replace HB:=ak hb;replace HI0:=ak hi;(try clear hb);(try clear hk);(try clear hi))|((with_reducible refine gate_dst (N:=3) rfl ?_);refine box_event ?hg (N:=3) ?hd (cs:=#[.int .i64 0,.bool false]) (t:=28) ?hr ?_;(case hd=>rfl);(case hg=>rfl);(case hr=>first|(go_simp;done)|(go_simp;rfl));intro gb330 hg w18 hbox hb;replace HB:=ak (below_step (h2 HB.out (IsS80.ge HI0.out) GE326.out) hb);have BK330:=ak hbox;have GW330:=ak ((by rw [hg];exact (keep_size (w:=w) (g:=g) (row:=none) (kn HK.out)) : w.heap.size ≤ gb330));have GE330:=ak ((Nat.le_trans HW0.out (by rw [hg];exact (keep_size (w:=w) (g:=g) (row:=none) (kn HK.out)) : w.heap.size ≤ gb330) : w0.heap.size ≤ gb330));replace HK:=ak (KeepBut.trans (kn HK.out) (KeepBut.of_below hb g none) (.inl rfl));have NB326_330:=ak ((by rw [hg];exact Nat.ne_of_lt (blk_lt (g:=gb326) (o:=.cells #[.int .i64 0,.bool false] 28 (0,0)) (bm BK326.out)) : gb326 ≠ gb330));have NB330_326:=ak ((by rw [hg];exact Nat.ne_of_gt (blk_lt (g:=gb326) (o:=.cells #[.int .i64 0,.bool false] 28 (0,0)) (bm BK326.out)) : gb330 ≠ gb326));replace BK326:=kb BK326 hb;have NB0_330:=ak ((by rw [hg];exact Nat.ne_of_lt (IsS80.lt (show IsS80 w0 _ g s0_0 t328 t329 from (IsS80.now HI0.out))) : g ≠ gb330));have NB330_0:=ak ((by rw [hg];exact Nat.ne_of_gt (IsS80.lt (show IsS80 w0 _ g s0_0 t328 t329 from (IsS80.now HI0.out))) : gb330 ≠ g));replace HI0:=ak (IsS80.below (g:=g) (IsS80.now HI0.out) hb);clear hb hbox hg;have hnb19:=NB330_326.out;have hnc19:=NB326_330.out;have hnb20:=NB330_0.out;have hnc20:=NB0_330.out;have hcz21_0 : w18.cell? ⟨gb330,0,none⟩ = some (.int .i64 0):=(blk_cell BK330.out 0).trans rfl;have hcz21_1 : w18.cell? ⟨gb330,1,none⟩ = some (.bool false):=(blk_cell BK330.out 1).trans rfl;have hfz21_0:=blk_frozen BK330.out 0;have hfz21_1:=blk_frozen BK330.out 1)|(go_at_call 70;(with_reducible refine (spec_l1Cur_one.calls g s0_0 t328 t329 4 false t332 t333 w0 _ ?side1 ?side2 A4.out).mono ?_);(case side1=>exact IsS80.now HI0.out);(case side2=>exact h3 HB.out (IsS80.ge HI0.out) GE326.out GE330.out);rintro e w22 ⟨rfl,hi,hb,hk⟩;replace BK326:=ak (KeepBut.blk hk (g':=gb326) (o:=.cells #[.int .i64 0,.bool false] 28 (0,0)) (by (with_reducible repeat (first|apply blk_drewN|apply blk_drew|apply blk_alloc));refine blk_far ?_ NB326_330.out _;(with_reducible repeat (first|apply blk_drewN|apply blk_drew|apply blk_alloc));refine blk_far ?_ NB326_330.out _;exact bm BK326.out) NB326_0.out (by simp));replace BK330:=ak (KeepBut.blk hk (g':=gb330) (o:=.cells #[.int .i64 t327,.bool true] 28 (0,0)) (by (with_reducible repeat (first|apply blk_drewN|apply blk_drew|apply blk_alloc));refine blk_put (cs:=#[.int .i64 t327,.bool false]) ?_ 1 _ rfl;(with_reducible repeat (first|apply blk_drewN|apply blk_drew|apply blk_alloc));refine blk_put (cs:=#[.int .i64 0,.bool false]) ?_ 0 _ rfl;exact bm BK330.out) NB330_0.out (by simp));replace HK:=ak (KeepBut.trans (kn HK.out) hk (.inl rfl));replace HB:=ak hb;replace HI0:=ak hi;(try clear hb);(try clear hk);(try clear hi);have hcz23_0 : w22.cell? ⟨gb330,0,none⟩ = some (.int .i64 t327):=(blk_cell BK330.out 0).trans rfl;have hcz23_1 : w22.cell? ⟨gb330,1,none⟩ = some (.bool true):=(blk_cell BK330.out 1).trans rfl;have hfz23_0:=blk_frozen BK330.out 0;have hfz23_1:=blk_frozen BK330.out 1;have hnb24:=NB326_0.out;have hnc24:=NB0_326.out;have hcz25_0 : w22.cell? ⟨gb326,0,none⟩ = some (.int .i64 0):=(blk_cell BK326.out 0).trans rfl;have hcz25_1 : w22.cell? ⟨gb326,1,none⟩ = some (.bool false):=(blk_cell BK326.out 1).trans rfl;have hfz25_0:=blk_frozen BK326.out 0;have hfz25_1:=blk_frozen BK326.out 1))
 refine bodyPost_ret (results_cell_row rfl _ _ gb326 28 #[.int .i64 3,.bool true] (0,0) _ rfl (by (with_reducible repeat (first|apply blk_drewN|apply blk_drew|apply blk_alloc));refine blk_put (cs:=#[.int .i64 3,.bool false]) ?_ 1 _ rfl;(with_reducible repeat (first|apply blk_drewN|apply blk_drew|apply blk_alloc));refine blk_put (cs:=#[.int .i64 0,.bool false]) ?_ 0 _ rfl;(with_reducible repeat (first|apply blk_drewN|apply blk_drew|apply blk_alloc));refine blk_far ?_ NB326_330.out _;exact bm BK326.out) Try.underlying28 rfl (by kernel_rfl)) rfl ?_
 exact ⟨fe,(IsS80.now HI0.out),h3 HB.out (IsS80.ge HI0.out) GE326.out GE330.out,(kn HK.out)⟩

/-! ### spec_l1Cur_road: function 71 -/
def spec_l1Cur_road.f (s0_0 : List Int) (s0_1 : Int) (s0_2 : Int) : Option (Int × Bool × Int × Int):=(spec_l1Cur_one.f s0_0 s0_1 s0_2 2).bind fun bt335=>(if bt335.1 = true then ((spec_l1Cur_line.f s0_0 bt335.2.1 bt335.2.2).bind fun bt338=>(some (bt338.1,bt338.2.1,bt338.2.2.1,bt338.2.2.2))) else ((spec_l1Cur_ring.f s0_0 bt335.2.1 bt335.2.2).bind fun bt342=>(some (bt342.1,bt342.2.1,bt342.2.2.1,bt342.2.2.2))))
set_option maxHeartbeats 8000000 in
set_option maxRecDepth 100000 in
theorem spec_l1Cur_road.calls (g : Nat) (s0_0 : List Int) (s0_1 : Int) (s0_2 : Int) (r1 : Int) (r2 : Bool) (r3 : Int) (r4 : Int) (w0 w : World) (hI : IsS80 w0 w g s0_0 s0_1 s0_2) (hB : Below w0.heap.size w0 w) (h : spec_l1Cur_road.f s0_0 s0_1 s0_2 = some (r1,r2,r3,r4)) :
  Calls Try.prog 71 #[.pointer (some ⟨g,0,none⟩)] w fun e w'=>e = .returned (.agg #[.int .i64 r1,.bool r2]) ∧ IsS80 w0 w' g s0_0 r3 r4 ∧ Below w0.heap.size w0 w' ∧ KeepBut w w' g none:=by
 have hu28:=Try.underlying28
 have HI0:=Aside0.mk hI
 have HK:=Aside0.mk (KeepBut.refl w g none)
 have HL:=Aside0.mk hB.size
 clear hI
 have HW0:=Aside0.mk hB.size
 have HB:=Aside0.mk hB
 clear hB
 have H : ((spec_l1Cur_one.f s0_0 s0_1 s0_2 2).bind fun bt335=>(if bt335.1 = true then ((spec_l1Cur_line.f s0_0 bt335.2.1 bt335.2.2).bind fun bt338=>(some (bt338.1,bt338.2.1,bt338.2.2.1,bt338.2.2.2))) else ((spec_l1Cur_ring.f s0_0 bt335.2.1 bt335.2.2).bind fun bt342=>(some (bt342.1,bt342.2.1,bt342.2.2.1,bt342.2.2.2))))) = some (r1,r2,r3,r4):=h
 clear h
 replace H:=Option.bind_eq_some_iff.mp H
 obtain ⟨⟨t335,t336,t337⟩,A20,H⟩:=H
 (try dsimp only at H)
 have A2:=Aside0.mk A20
 clear A20
 by_cases c3 : t335 = true
 ·subst c3
  rw [if_pos rfl] at H
  replace H:=Option.bind_eq_some_iff.mp H
  obtain ⟨⟨t338,t339,t340,t341⟩,A40,H⟩:=H
  (try dsimp only at H)
  have A4:=Aside0.mk A40
  clear A40
  simp only [Option.some.injEq,Prod.mk.injEq] at H
  obtain ⟨rfl,rfl,rfl,rfl⟩:=H
  go_enter Try.func71,Try.ntmps71
  go_wp2_with (first|((with_reducible refine gate_dst (N:=2) rfl ?_);refine box_event ?hg (N:=2) ?hd (cs:=#[.int .i64 0,.bool false]) (t:=28) ?hr ?_;(case hd=>rfl);(case hg=>rfl);(case hr=>first|(go_simp;done)|(go_simp;rfl));intro gb334 hg w5 hbox hb;replace HB:=ak (below_step (h1 HB.out (IsS80.ge HI0.out)) hb);have BK334:=ak hbox;have GW334:=ak ((by rw [hg];exact (keep_size (w:=w) (g:=g) (row:=none) (kn HK.out)) : w.heap.size ≤ gb334));have GE334:=ak ((Nat.le_trans HW0.out (by rw [hg];exact (keep_size (w:=w) (g:=g) (row:=none) (kn HK.out)) : w.heap.size ≤ gb334) : w0.heap.size ≤ gb334));replace HK:=ak (KeepBut.trans (kn HK.out) (KeepBut.of_below hb g none) (.inl rfl));have NB0_334:=ak ((by rw [hg];exact Nat.ne_of_lt (IsS80.lt (show IsS80 w0 _ g s0_0 s0_1 s0_2 from (IsS80.now HI0.out))) : g ≠ gb334));have NB334_0:=ak ((by rw [hg];exact Nat.ne_of_gt (IsS80.lt (show IsS80 w0 _ g s0_0 s0_1 s0_2 from (IsS80.now HI0.out))) : gb334 ≠ g));replace HI0:=ak (IsS80.below (g:=g) (IsS80.now HI0.out) hb);clear hb hbox hg)|((with_reducible refine gate_callee (f:=70) rfl ?_);refine goesL_ (some 4) rfl rfl Try.func70 (by kernel_rfl) rfl #[.pointer (some ⟨g,0,none⟩),.int .i64 2] rfl gl ?_;(with_reducible refine (spec_l1Cur_one.calls g s0_0 s0_1 s0_2 2 true t336 t337 w0 _ ?side1 ?side2 A2.out).mono ?_);(case side1=>exact IsS80.now HI0.out);(case side2=>exact h2 HB.out (IsS80.ge HI0.out) GE334.out);rintro e w6 ⟨rfl,hi,hb,hk⟩;refine ⟨_,rfl,?_⟩;replace BK334:=ak (KeepBut.blk hk (g':=gb334) (o:=.cells #[.int .i64 0,.bool false] 28 (0,0)) (bm BK334.out) NB334_0.out (by simp));replace HK:=ak (KeepBut.trans (kn HK.out) hk (.inl rfl));replace HB:=ak hb;replace HI0:=ak hi;(try clear hb);(try clear hk);(try clear hi))|((with_reducible refine gate_callee (f:=74) rfl ?_);refine goesL_ (some 6) rfl rfl Try.func74 (by kernel_rfl) rfl #[.pointer (some ⟨g,0,none⟩)] rfl gl ?_;(with_reducible refine (spec_l1Cur_line.calls g s0_0 t336 t337 t338 t339 t340 t341 w0 _ ?side1 ?side2 A4.out).mono ?_);(case side1=>exact IsS80.now HI0.out);(case side2=>exact h2 HB.out (IsS80.ge HI0.out) GE334.out);rintro e w7 ⟨rfl,hi,hb,hk⟩;refine ⟨_,rfl,?_⟩;replace BK334:=ak (KeepBut.blk hk (g':=gb334) (o:=.cells #[.int .i64 0,.bool false] 28 (0,0)) (bm BK334.out) NB334_0.out (by simp));replace HK:=ak (KeepBut.trans (kn HK.out) hk (.inl rfl));replace HB:=ak hb;replace HI0:=ak hi;(try clear hb);(try clear hk);(try clear hi);have hnb8:=NB334_0.out;have hnc8:=NB0_334.out;have hcz9_0 : w7.cell? ⟨gb334,0,none⟩ = some (.int .i64 0):=(blk_cell BK334.out 0).trans rfl;have hcz9_1 : w7.cell? ⟨gb334,1,none⟩ = some (.bool false):=(blk_cell BK334.out 1).trans rfl;have hfz9_0:=blk_frozen BK334.out 0;have hfz9_1:=blk_frozen BK334.out 1))
  refine bodyPost_ret (results_cell_row rfl _ _ gb334 28 #[.int .i64 t338,.bool t339] (0,0) _ rfl (by (with_reducible repeat (first|apply blk_drewN|apply blk_drew|apply blk_alloc));refine blk_put (cs:=#[.int .i64 t338,.bool false]) ?_ 1 _ rfl;(with_reducible repeat (first|apply blk_drewN|apply blk_drew|apply blk_alloc));refine blk_put (cs:=#[.int .i64 0,.bool false]) ?_ 0 _ rfl;exact bm BK334.out) Try.underlying28 rfl (by kernel_rfl)) rfl ?_
  exact ⟨fe,(IsS80.now HI0.out),h2 HB.out (IsS80.ge HI0.out) GE334.out,(kn HK.out)⟩
 replace c3:=Bool.eq_false_iff.mpr c3
 subst c3
 rw [if_neg (show ¬ (false = true) by decide)] at H
 replace H:=Option.bind_eq_some_iff.mp H
 obtain ⟨⟨t342,t343,t344,t345⟩,A100,H⟩:=H
 (try dsimp only at H)
 have A10:=Aside0.mk A100
 clear A100
 simp only [Option.some.injEq,Prod.mk.injEq] at H
 obtain ⟨rfl,rfl,rfl,rfl⟩:=H
 go_enter Try.func71,Try.ntmps71
 go_wp2_with (first|((with_reducible refine gate_dst (N:=2) rfl ?_);refine box_event ?hg (N:=2) ?hd (cs:=#[.int .i64 0,.bool false]) (t:=28) ?hr ?_;(case hd=>rfl);(case hg=>rfl);(case hr=>first|(go_simp;done)|(go_simp;rfl));intro gb334 hg w11 hbox hb;replace HB:=ak (below_step (h1 HB.out (IsS80.ge HI0.out)) hb);have BK334:=ak hbox;have GW334:=ak ((by rw [hg];exact (keep_size (w:=w) (g:=g) (row:=none) (kn HK.out)) : w.heap.size ≤ gb334));have GE334:=ak ((Nat.le_trans HW0.out (by rw [hg];exact (keep_size (w:=w) (g:=g) (row:=none) (kn HK.out)) : w.heap.size ≤ gb334) : w0.heap.size ≤ gb334));replace HK:=ak (KeepBut.trans (kn HK.out) (KeepBut.of_below hb g none) (.inl rfl));have NB0_334:=ak ((by rw [hg];exact Nat.ne_of_lt (IsS80.lt (show IsS80 w0 _ g s0_0 s0_1 s0_2 from (IsS80.now HI0.out))) : g ≠ gb334));have NB334_0:=ak ((by rw [hg];exact Nat.ne_of_gt (IsS80.lt (show IsS80 w0 _ g s0_0 s0_1 s0_2 from (IsS80.now HI0.out))) : gb334 ≠ g));replace HI0:=ak (IsS80.below (g:=g) (IsS80.now HI0.out) hb);clear hb hbox hg)|((with_reducible refine gate_callee (f:=70) rfl ?_);refine goesL_ (some 4) rfl rfl Try.func70 (by kernel_rfl) rfl #[.pointer (some ⟨g,0,none⟩),.int .i64 2] rfl gl ?_;(with_reducible refine (spec_l1Cur_one.calls g s0_0 s0_1 s0_2 2 false t336 t337 w0 _ ?side1 ?side2 A2.out).mono ?_);(case side1=>exact IsS80.now HI0.out);(case side2=>exact h2 HB.out (IsS80.ge HI0.out) GE334.out);rintro e w12 ⟨rfl,hi,hb,hk⟩;refine ⟨_,rfl,?_⟩;replace BK334:=ak (KeepBut.blk hk (g':=gb334) (o:=.cells #[.int .i64 0,.bool false] 28 (0,0)) (bm BK334.out) NB334_0.out (by simp));replace HK:=ak (KeepBut.trans (kn HK.out) hk (.inl rfl));replace HB:=ak hb;replace HI0:=ak hi;(try clear hb);(try clear hk);(try clear hi))|((with_reducible refine gate_callee (f:=75) rfl ?_);refine goesL_ (some 8) rfl rfl Try.func75 (by kernel_rfl) rfl #[.pointer (some ⟨g,0,none⟩)] rfl gl ?_;(with_reducible refine (spec_l1Cur_ring.calls g s0_0 t336 t337 t342 t343 t344 t345 w0 _ ?side1 ?side2 A10.out).mono ?_);(case side1=>exact IsS80.now HI0.out);(case side2=>exact h2 HB.out (IsS80.ge HI0.out) GE334.out);rintro e w13 ⟨rfl,hi,hb,hk⟩;refine ⟨_,rfl,?_⟩;replace BK334:=ak (KeepBut.blk hk (g':=gb334) (o:=.cells #[.int .i64 0,.bool false] 28 (0,0)) (bm BK334.out) NB334_0.out (by simp));replace HK:=ak (KeepBut.trans (kn HK.out) hk (.inl rfl));replace HB:=ak hb;replace HI0:=ak hi;(try clear hb);(try clear hk);(try clear hi);have hnb14:=NB334_0.out;have hnc14:=NB0_334.out;have hcz15_0 : w13.cell? ⟨gb334,0,none⟩ = some (.int .i64 0):=(blk_cell BK334.out 0).trans rfl;have hcz15_1 : w13.cell? ⟨gb334,1,none⟩ = some (.bool false):=(blk_cell BK334.out 1).trans rfl;have hfz15_0:=blk_frozen BK334.out 0;have hfz15_1:=blk_frozen BK334.out 1))
 refine bodyPost_ret (results_cell_row rfl _ _ gb334 28 #[.int .i64 t342,.bool t343] (0,0) _ rfl (by (with_reducible repeat (first|apply blk_drewN|apply blk_drew|apply blk_alloc));refine blk_put (cs:=#[.int .i64 t342,.bool false]) ?_ 1 _ rfl;(with_reducible repeat (first|apply blk_drewN|apply blk_drew|apply blk_alloc));refine blk_put (cs:=#[.int .i64 0,.bool false]) ?_ 0 _ rfl;exact bm BK334.out) Try.underlying28 rfl (by kernel_rfl)) rfl ?_
 exact ⟨fe,(IsS80.now HI0.out),h2 HB.out (IsS80.ge HI0.out) GE334.out,(kn HK.out)⟩

/-! ### spec_l1Cur_line9: function 66 -/
def spec_l1Cur_line9.f (s0_0 : List Int) (s0_1 : Int) (s0_2 : Int) : Option (Int × Bool × Int × Int):=(spec_l1Cur_one.f s0_0 s0_1 s0_2 8).bind fun bt347=>(if bt347.1 = true then ((spec_l1Cur_road.f s0_0 bt347.2.1 bt347.2.2).bind fun bt350=>(some (bt350.1,bt350.2.1,bt350.2.2.1,bt350.2.2.2))) else ((spec_l1Cur_among.f s0_0 bt347.2.1 bt347.2.2 (([6,8,5,10,4,12,3,2] : List Int))).bind fun bt357=>(some (bt357.1,false,bt357.2.1,bt357.2.2))))
set_option maxHeartbeats 8000000 in
set_option maxRecDepth 100000 in
theorem spec_l1Cur_line9.calls (g : Nat) (s0_0 : List Int) (s0_1 : Int) (s0_2 : Int) (r1 : Int) (r2 : Bool) (r3 : Int) (r4 : Int) (w0 w : World) (hI : IsS80 w0 w g s0_0 s0_1 s0_2) (hB : Below w0.heap.size w0 w) (h : spec_l1Cur_line9.f s0_0 s0_1 s0_2 = some (r1,r2,r3,r4)) :
  Calls Try.prog 66 #[.pointer (some ⟨g,0,none⟩)] w fun e w'=>e = .returned (.agg #[.int .i64 r1,.bool r2]) ∧ IsS80 w0 w' g s0_0 r3 r4 ∧ Below w0.heap.size w0 w' ∧ KeepBut w w' g none:=by
 have hu28:=Try.underlying28
 have HI0:=Aside0.mk hI
 have HK:=Aside0.mk (KeepBut.refl w g none)
 have HL:=Aside0.mk hB.size
 clear hI
 have HW0:=Aside0.mk hB.size
 have HB:=Aside0.mk hB
 clear hB
 have H : ((spec_l1Cur_one.f s0_0 s0_1 s0_2 8).bind fun bt347=>(if bt347.1 = true then ((spec_l1Cur_road.f s0_0 bt347.2.1 bt347.2.2).bind fun bt350=>(some (bt350.1,bt350.2.1,bt350.2.2.1,bt350.2.2.2))) else ((spec_l1Cur_among.f s0_0 bt347.2.1 bt347.2.2 (([6,8,5,10,4,12,3,2] : List Int))).bind fun bt357=>(some (bt357.1,false,bt357.2.1,bt357.2.2))))) = some (r1,r2,r3,r4):=h
 clear h
 replace H:=Option.bind_eq_some_iff.mp H
 obtain ⟨⟨t347,t348,t349⟩,A20,H⟩:=H
 (try dsimp only at H)
 have A2:=Aside0.mk A20
 clear A20
 by_cases c3 : t347 = true
 ·subst c3
  rw [if_pos rfl] at H
  replace H:=Option.bind_eq_some_iff.mp H
  obtain ⟨⟨t350,t351,t352,t353⟩,A40,H⟩:=H
  (try dsimp only at H)
  have A4:=Aside0.mk A40
  clear A40
  simp only [Option.some.injEq,Prod.mk.injEq] at H
  obtain ⟨rfl,rfl,rfl,rfl⟩:=H
  go_enter Try.func66,Try.ntmps66
  go_wp2_with (first|((with_reducible refine gate_dst (N:=2) rfl ?_);refine box_event ?hg (N:=2) ?hd (cs:=#[.int .i64 0,.bool false]) (t:=28) ?hr ?_;(case hd=>rfl);(case hg=>rfl);(case hr=>first|(go_simp;done)|(go_simp;rfl));intro gb346 hg w5 hbox hb;replace HB:=ak (below_step (h1 HB.out (IsS80.ge HI0.out)) hb);have BK346:=ak hbox;have GW346:=ak ((by rw [hg];exact (keep_size (w:=w) (g:=g) (row:=none) (kn HK.out)) : w.heap.size ≤ gb346));have GE346:=ak ((Nat.le_trans HW0.out (by rw [hg];exact (keep_size (w:=w) (g:=g) (row:=none) (kn HK.out)) : w.heap.size ≤ gb346) : w0.heap.size ≤ gb346));replace HK:=ak (KeepBut.trans (kn HK.out) (KeepBut.of_below hb g none) (.inl rfl));have NB0_346:=ak ((by rw [hg];exact Nat.ne_of_lt (IsS80.lt (show IsS80 w0 _ g s0_0 s0_1 s0_2 from (IsS80.now HI0.out))) : g ≠ gb346));have NB346_0:=ak ((by rw [hg];exact Nat.ne_of_gt (IsS80.lt (show IsS80 w0 _ g s0_0 s0_1 s0_2 from (IsS80.now HI0.out))) : gb346 ≠ g));replace HI0:=ak (IsS80.below (g:=g) (IsS80.now HI0.out) hb);clear hb hbox hg)|((with_reducible refine gate_callee (f:=70) rfl ?_);refine goesL_ (some 4) rfl rfl Try.func70 (by kernel_rfl) rfl #[.pointer (some ⟨g,0,none⟩),.int .i64 8] rfl gl ?_;(with_reducible refine (spec_l1Cur_one.calls g s0_0 s0_1 s0_2 8 true t348 t349 w0 _ ?side1 ?side2 A2.out).mono ?_);(case side1=>exact IsS80.now HI0.out);(case side2=>exact h2 HB.out (IsS80.ge HI0.out) GE346.out);rintro e w6 ⟨rfl,hi,hb,hk⟩;refine ⟨_,rfl,?_⟩;replace BK346:=ak (KeepBut.blk hk (g':=gb346) (o:=.cells #[.int .i64 0,.bool false] 28 (0,0)) (bm BK346.out) NB346_0.out (by simp));replace HK:=ak (KeepBut.trans (kn HK.out) hk (.inl rfl));replace HB:=ak hb;replace HI0:=ak hi;(try clear hb);(try clear hk);(try clear hi))|((with_reducible refine gate_callee (f:=71) rfl ?_);refine goesL_ (some 6) rfl rfl Try.func71 (by kernel_rfl) rfl #[.pointer (some ⟨g,0,none⟩)] rfl gl ?_;(with_reducible refine (spec_l1Cur_road.calls g s0_0 t348 t349 t350 t351 t352 t353 w0 _ ?side1 ?side2 A4.out).mono ?_);(case side1=>exact IsS80.now HI0.out);(case side2=>exact h2 HB.out (IsS80.ge HI0.out) GE346.out);rintro e w7 ⟨rfl,hi,hb,hk⟩;refine ⟨_,rfl,?_⟩;replace BK346:=ak (KeepBut.blk hk (g':=gb346) (o:=.cells #[.int .i64 0,.bool false] 28 (0,0)) (bm BK346.out) NB346_0.out (by simp));replace HK:=ak (KeepBut.trans (kn HK.out) hk (.inl rfl));replace HB:=ak hb;replace HI0:=ak hi;(try clear hb);(try clear hk);(try clear hi);have hnb8:=NB346_0.out;have hnc8:=NB0_346.out;have hcz9_0 : w7.cell? ⟨gb346,0,none⟩ = some (.int .i64 0):=(blk_cell BK346.out 0).trans rfl;have hcz9_1 : w7.cell? ⟨gb346,1,none⟩ = some (.bool false):=(blk_cell BK346.out 1).trans rfl;have hfz9_0:=blk_frozen BK346.out 0;have hfz9_1:=blk_frozen BK346.out 1))
  refine bodyPost_ret (results_cell_row rfl _ _ gb346 28 #[.int .i64 t350,.bool t351] (0,0) _ rfl (by (with_reducible repeat (first|apply blk_drewN|apply blk_drew|apply blk_alloc));refine blk_put (cs:=#[.int .i64 t350,.bool false]) ?_ 1 _ rfl;(with_reducible repeat (first|apply blk_drewN|apply blk_drew|apply blk_alloc));refine blk_put (cs:=#[.int .i64 0,.bool false]) ?_ 0 _ rfl;exact bm BK346.out) Try.underlying28 rfl (by kernel_rfl)) rfl ?_
  exact ⟨fe,(IsS80.now HI0.out),h2 HB.out (IsS80.ge HI0.out) GE346.out,(kn HK.out)⟩
 replace c3:=Bool.eq_false_iff.mpr c3
 subst c3
 rw [if_neg (show ¬ (false = true) by decide)] at H
 obtain ⟨y354,hy354⟩ : ∃ y_ : List Int,y_ = (([6,8,5,10,4,12,3,2] : List Int)):=⟨_,rfl⟩
 replace H : ((spec_l1Cur_among.f s0_0 t348 t349 y354).bind fun bt357=>(some (bt357.1,false,bt357.2.1,bt357.2.2))) = some (r1,r2,r3,r4):=by first|(rw [hy354];with_reducible exact H)|(have H2_:=(Option.bind_some _ _).symm.trans H;rw [hy354];with_reducible exact H2_)|(have H2_:=(Option.bind_some _ _).symm.trans H;with_reducible exact H2_)|with_reducible exact H|(rw [hy354];exact H)|exact H
 have Ny354:=Aside0.mk hy354
 clear hy354
 replace H:=Option.bind_eq_some_iff.mp H
 obtain ⟨⟨t357,t358,t359⟩,A100,H⟩:=H
 (try dsimp only at H)
 have A10:=Aside0.mk A100
 clear A100
 simp only [Option.some.injEq,Prod.mk.injEq] at H
 obtain ⟨rfl,rfl,rfl,rfl⟩:=H
 go_enter Try.func66,Try.ntmps66
 go_wp2_with (first|((with_reducible refine gate_dst (N:=2) rfl ?_);refine box_event ?hg (N:=2) ?hd (cs:=#[.int .i64 0,.bool false]) (t:=28) ?hr ?_;(case hd=>rfl);(case hg=>rfl);(case hr=>first|(go_simp;done)|(go_simp;rfl));intro gb346 hg w11 hbox hb;replace HB:=ak (below_step (h1 HB.out (IsS80.ge HI0.out)) hb);have BK346:=ak hbox;have GW346:=ak ((by rw [hg];exact (keep_size (w:=w) (g:=g) (row:=none) (kn HK.out)) : w.heap.size ≤ gb346));have GE346:=ak ((Nat.le_trans HW0.out (by rw [hg];exact (keep_size (w:=w) (g:=g) (row:=none) (kn HK.out)) : w.heap.size ≤ gb346) : w0.heap.size ≤ gb346));replace HK:=ak (KeepBut.trans (kn HK.out) (KeepBut.of_below hb g none) (.inl rfl));have NB0_346:=ak ((by rw [hg];exact Nat.ne_of_lt (IsS80.lt (show IsS80 w0 _ g s0_0 s0_1 s0_2 from (IsS80.now HI0.out))) : g ≠ gb346));have NB346_0:=ak ((by rw [hg];exact Nat.ne_of_gt (IsS80.lt (show IsS80 w0 _ g s0_0 s0_1 s0_2 from (IsS80.now HI0.out))) : gb346 ≠ g));replace HI0:=ak (IsS80.below (g:=g) (IsS80.now HI0.out) hb);clear hb hbox hg)|((with_reducible refine gate_callee (f:=70) rfl ?_);refine goesL_ (some 4) rfl rfl Try.func70 (by kernel_rfl) rfl #[.pointer (some ⟨g,0,none⟩),.int .i64 8] rfl gl ?_;(with_reducible refine (spec_l1Cur_one.calls g s0_0 s0_1 s0_2 8 false t348 t349 w0 _ ?side1 ?side2 A2.out).mono ?_);(case side1=>exact IsS80.now HI0.out);(case side2=>exact h2 HB.out (IsS80.ge HI0.out) GE346.out);rintro e w12 ⟨rfl,hi,hb,hk⟩;refine ⟨_,rfl,?_⟩;replace BK346:=ak (KeepBut.blk hk (g':=gb346) (o:=.cells #[.int .i64 0,.bool false] 28 (0,0)) (bm BK346.out) NB346_0.out (by simp));replace HK:=ak (KeepBut.trans (kn HK.out) hk (.inl rfl));replace HB:=ak hb;replace HI0:=ak hi;(try clear hb);(try clear hk);(try clear hi))|((with_reducible refine gate_dst (N:=8) rfl ?_);refine R_lit (Kd.int .i64) _ 3 ?hg (N:=8) ?hd (xs:=([6,8,5,10,4,12,3,2] : List Int)) (inner:=[.int .i64 6,.int .i64 8,.int .i64 5,.int .i64 10,.int .i64 4,.int .i64 12,.int .i64 3,.int .i64 2]) (ok:=fun _=>True) (okp:=fun _=>True) ?hr ?hp (fun _ hk=>hk) trivial (Below.refl _ _) (Nat.le_refl _) (by simp) ?_;(case hd=>rfl);(case hg=>rfl);(case hr=>first|(go_simp;done)|(go_simp;rfl));(case hp=>exact (Reps.one (show Kd.M (Kd.int .i64) _ _ _ 6 [.int .i64 6] from rfl) (Reps.one (show Kd.M (Kd.int .i64) _ _ _ 8 [.int .i64 8] from rfl) (Reps.one (show Kd.M (Kd.int .i64) _ _ _ 5 [.int .i64 5] from rfl) (Reps.one (show Kd.M (Kd.int .i64) _ _ _ 10 [.int .i64 10] from rfl) (Reps.one (show Kd.M (Kd.int .i64) _ _ _ 4 [.int .i64 4] from rfl) (Reps.one (show Kd.M (Kd.int .i64) _ _ _ 12 [.int .i64 12] from rfl) (Reps.one (show Kd.M (Kd.int .i64) _ _ _ 3 [.int .i64 3] from rfl) (Reps.one (show Kd.M (Kd.int .i64) _ _ _ 2 [.int .i64 2] from rfl) (Reps.none _ _))))))))));intro v355 w13 ho14 hb hg_ hnew_;clear hg_ hnew_;(first|rw [← Ny354.out] at ho14|(simp only [Int.reduceToNat] at ho14;rw [← Ny354.out] at ho14));have HO356:=ak (R_lower ho14 (keep_size (w:=w) (g:=g) (row:=none) (kn HK.out)));replace BK346:=kb BK346 hb;replace HK:=ak (KeepBut.trans (kn HK.out) (KeepBut.of_below hb g none) (.inl rfl));replace HB:=ak (below_step (h2 HB.out (IsS80.ge HI0.out) GE346.out) hb);replace HI0:=ak (IsS80.below (g:=g) (IsS80.now HI0.out) hb);clear hb ho14;obtain ⟨Ao15,co15,eo15⟩:=R_slice HO356.out;subst eo15)|((with_reducible refine gate_callee (f:=72) rfl ?_);refine goesL_ (some 9) rfl rfl Try.func72 (by kernel_rfl) rfl #[.pointer (some ⟨g,0,none⟩),.slice Ao15 y354.length co15] rfl gl ?_;(with_reducible refine (spec_l1Cur_among.calls g s0_0 t348 t349 _ _ y354 t357 t358 t359 w0 _ ?side1 ?side2 ?side3 ?side4 ?side5 A10.out).mono ?_);(case side1=>exact IsS80.now HI0.out);(case side2=>exact h2 HB.out (IsS80.ge HI0.out) GE346.out);(case side3=>exact cm (R_reads' HO356.out).2.2);(case side4=>exact (R_reads' HO356.out).2.1);(case side5=>exact far_slice (IsS80.own_ne HI0.out HO356.out (by decide)));rintro e w16 ⟨rfl,hi,hb,hk⟩;refine ⟨_,rfl,?_⟩;replace BK346:=ak (KeepBut.blk hk (g':=gb346) (o:=.cells #[.int .i64 0,.bool false] 28 (0,0)) (bm BK346.out) NB346_0.out (by simp));replace HO356:=ak (R_mono (R_keep (IsS80.apart (show IsS80 w0 _ g s0_0 t348 t349 from (IsS80.now HI0.out)) (rm HO356.out) (by decide)) hk (fun _ h=>h.2)) (fun _ h=>h.1));replace HK:=ak (KeepBut.trans (kn HK.out) hk (.inl rfl));replace HB:=ak hb;replace HI0:=ak hi;(try clear hb);(try clear hk);(try clear hi);have hnb17:=NB346_0.out;have hnc17:=NB0_346.out;have hcz18_0 : w16.cell? ⟨gb346,0,none⟩ = some (.int .i64 0):=(blk_cell BK346.out 0).trans rfl;have hcz18_1 : w16.cell? ⟨gb346,1,none⟩ = some (.bool false):=(blk_cell BK346.out 1).trans rfl;have hfz18_0:=blk_frozen BK346.out 0;have hfz18_1:=blk_frozen BK346.out 1))
 refine bodyPost_ret (results_cell_row rfl _ _ gb346 28 #[.int .i64 t357,.bool false] (0,0) _ rfl (by (with_reducible repeat (first|apply blk_drewN|apply blk_drew|apply blk_alloc));refine blk_put (cs:=#[.int .i64 t357,.bool false]) ?_ 1 _ rfl;(with_reducible repeat (first|apply blk_drewN|apply blk_drew|apply blk_alloc));refine blk_put (cs:=#[.int .i64 0,.bool false]) ?_ 0 _ rfl;exact bm BK346.out) Try.underlying28 rfl (by kernel_rfl)) rfl ?_
 exact ⟨fe,(IsS80.now HI0.out),h2 HB.out (IsS80.ge HI0.out) GE346.out,(kn HK.out)⟩


end
end Go.Proofs.Ytknfhoghimnieaa.QFnSensors
