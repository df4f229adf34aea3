/- Short words for long texts, still more: no condition. -/
import Derived.Test.YtciihopkgblpkaaSq
namespace Go.Proofs.Ytciihopkgblpkaa.Short
open Go.RowKit Go.Proofs.YtciihopkgblpkaaW.PrintWords Go.Proofs.YtciihopkgblpkaaW.PrintLast
set_option linter.unusedVariables false
/-- What a guard that answers must hold of. -/
theorem gi {c : Prop} [Decidable c] {β : Type} {a : Option β} {r : β} (h : (if c then a else none) = some r) : c ∧ a = some r := by
  by_cases k : c
  · rw [if_pos k] at h; exact ⟨k, h⟩
  · rw [if_neg k] at h; exact absurd h (by simp)
/-- What a call that answers has answered. -/
theorem bd {α β : Type} {o : Option α} {f : α → Option β} {r : β} (h : o.bind f = some r) : ∃ a, Aside0 (o = some a) ∧ f a = some r := by
  obtain ⟨a, h1, h2⟩ := Option.bind_eq_some_iff.mp h
  exact ⟨a, ⟨h1⟩, h2⟩
/-- A block's cell. -/
theorem bc {g : Nat} {W : World} {cs : Array Value} {t : TypeId} (h : Aside0 (W.heap[g]? = some (.cells cs t (0, 0)))) (j : Nat) {v : Value} (e : cs[j]? = some v) : W.cell? ⟨g, j, none⟩ = some v := (blk_cell h.out j).trans e
theorem bf {g : Nat} {W : World} {cs : Array Value} {t : TypeId} (h : Aside0 (W.heap[g]? = some (.cells cs t (0, 0)))) (j : Nat) : W.frozen? ⟨g, j, none⟩ = false := blk_frozen h.out j
/-- A new block lies behind the call's begin, and is none of those before. -/
theorem gw {w W W' : World} {g : Nat} (h : Aside0 (Below w.heap.size w W)) [m : Mov W W'] (hg : g = W'.heap.size) : Aside0 (w.heap.size ≤ g) := ⟨by rw [hg]; exact below_size (hm h.out)⟩
theorem nl {W W' : World} {g g' : Nat} {o : Obj} (h : Aside0 (W.heap[g]? = some o)) [m : Mov W W'] (hg : g' = W'.heap.size) : Aside0 (g ≠ g') := ⟨by rw [hg]; exact Nat.ne_of_lt (blk_lt (bm h.out))⟩
theorem ng {W W' : World} {g g' : Nat} {o : Obj} (h : Aside0 (W.heap[g]? = some o)) [m : Mov W W'] (hg : g' = W'.heap.size) : Aside0 (g' ≠ g) := ⟨by rw [hg]; exact Nat.ne_of_gt (blk_lt (bm h.out))⟩
theorem kk {W W' W'' : World} {g g' : Nat} {o : Obj} (h : Aside0 (W.heap[g']? = some o)) [m : Mov W W'] (hk : KeepBut W' W'' g none) (n : Aside0 (g' ≠ g)) : Aside0 (W''.heap[g']? = some o) := ⟨KeepBut.blk hk (bm h.out) n.out (by simp)⟩
theorem hc {w W : World} (h : Aside0 (Below w.heap.size w W)) {p : Addr} {v : Value} (x : w.cell? p = some v) : W.cell? p = some v := (h.out.cell (World.block_lt_of_cell? w _ x)).trans x
section
variable {P : Program} {ops : Array Oper} {Q : Exit → Act → World → Prop} {rest : List Oper} {oi : Oper} {a : Act} {w : World}
theorem bx (N : Tmp) (cs : Array Value) (t : TypeId) (h : ∀ g, g = w.heap.size → ∀ w1, w1.heap[g]? = some (.cells cs t (0, 0)) → Below w.heap.size w w1 → wpList P ops Q rest (a.put oi.dst (.pointer (some ⟨g, 0, none⟩))) w1)
    (hd : oi.dst = some N := by exact rfl) (hg : oi.guard = none := by exact rfl) (hr : (execOp a.eval oi).run P w = .ok (.value (.pointer (some ⟨w.heap.size, 0, none⟩))) (w.alloc (.cells cs t (0, 0))) := by first | (go_simp; done) | (go_simp; rfl)) : wpList P ops Q (oi :: rest) a w := box_event hg hd hr h
theorem gs (N : Tmp) {f : FuncId} {fn : Func} {as : Array Operand} {ts : Array TypeId} (hf : P.funcs[f]? = some fn) (args : Array Value) (h : Calls P f args w fun e w' => ∃ v, e = .returned v ∧ wpList P ops Q rest (a.put (some N) v) w')
    (hop : oi.op = .call { callee := .value (.func f), args := as, argTypes := ts } := by exact rfl) (hd : oi.dst = some N := by exact rfl) (hg : oi.guard = none := by exact rfl) (hname : (fn.name == "runtime.NumGoroutine") = false := by kernel_rfl) (hb : fn.body.isSome = true := by exact rfl)
    (hargs : as.map a.eval = args := by (try simp only [List.map_toArray, List.map_cons, List.map_nil]); first | done | rfl | (simp only [List.length_drop, List.length_take]; rfl)) : wpList P ops Q (oi :: rest) a w := goesL_ (some N) hd hg hf hname hb args hop hargs h
end
end Go.Proofs.Ytciihopkgblpkaa.Short
