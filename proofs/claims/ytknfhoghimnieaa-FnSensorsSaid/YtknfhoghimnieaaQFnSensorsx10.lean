/- Functions that the law FnSensors comes to, as Lean functions, with the proof that the Go code does what they say: written by a program of this session over the kit's print. No condition but those named. -/
import Derived.Test.YtknfhoghimnieaaQFnSensorsx0
import Derived.Test.YtknfhoghimnieaaQFnSensorsx5
import Derived.Test.YtknfhoghimnieaaQFnSensorsx7
import Derived.Test.YtknfhoghimnieaaQFnSensorsx9
namespace Go.Proofs.Ytknfhoghimnieaa.QFnSensors
open Go.RowKit Go.Proofs.YtknfhoghimnieaaW.PrintWords Go.Proofs.YtknfhoghimnieaaW.PrintLast Go.Proofs.YtknfhoghimnieaaW.PrintMore Go.Proofs.Ytknfhoghimnieaa.Short
attribute [local go_sem] max2_int min2_int max_two min_two max_three min_three max_four min_four   -- for this text's walks alone
set_option linter.unusedVariables false
set_option linter.unusedSimpArgs false

section
open Kd
/-! ### impl_SpareSensors: function 33 -/
/-- Behind the row's end the block may hold what it likes. -/
theorem R_tail {α : Type} (d : Kd α) {W : World} {g n c m e base : Nat} {ok : Nat → Prop} {xs : List α} (HO : d.R e W base ok (.slice (some ⟨g,0,none⟩) n c) xs) (vs : List Value) (hv : vs.length = m * d.sz) (hm : n + m ≤ c) :
    d.R e (W.setCells g (n * d.sz) vs) base ok (.slice (some ⟨g,0,none⟩) n c) xs ∧ Below base W (W.setCells g (n * d.sz) vs) ∧ (∃ cur,W.heap[g]? = some (.cells cur e (0,0)) ∧ cur.size = c * d.sz):=by
  have hn:=(R_reads' HO).1
  obtain ⟨hok,inner,hown,hr⟩:=HO
  rcases hown.2 with ⟨hv',_⟩|⟨g',cap',cur,hv',hb,hh,hnc,hcm,hcs,ht⟩
  ·cases hv'
  injection hv' with ha _ hc
  injection ha with ha
  injection ha with hg
  subst hg;subst hc
  have hsz : n * d.sz + m * d.sz ≤ cur.size:=by rw [hcs,← Nat.add_mul];exact Nat.mul_le_mul_right _ hm
  obtain ⟨cur',h3,h4,h5⟩:=setCells_row vs (n * d.sz) W cur hh (by rw [hv];exact hsz)
  obtain ⟨s1,s2,s3,s4⟩:=setCells_same g vs (n * d.sz) W
  refine ⟨⟨hok,inner,⟨hown.1,.inr ⟨g,c,cur',by rw [hn],hb,h3,hnc,hcm,by rw [h4,hcs],?_⟩⟩,hr.imp_ (fun p c' hp=>d.M_move (fun k hk=>setCells_far vs _ k (fun he=>hk.2 (by rw [he];rfl))) hp)⟩,⟨s1,s2,s3,by rw [s4];exact Nat.le_refl _,fun k hk=>setCells_far vs _ k (by omega)⟩,cur,hh,hcs⟩
  rw [h5,← ht,List.append_assoc,List.take_append_of_le_length (by rw [← hn,List.length_take];have:=Array.length_toList (xs:=cur);rw [Nat.le_min];exact ⟨Nat.le_refl _,by omega⟩),List.take_take,← hn,Nat.min_self]
theorem clear_event {P : Program} {ops : Array Oper} {rest : List Oper} {o : Oper} {a : Act} {Q : Exit → Act → World → Prop} {W w1 : World} {v : Value} (hgd : o.guard = none) (hd : o.dst = none) (x : Operand) (t : Nat) (ho : o.op = .call { callee:=.builtin .clear,args:=#[x],argTypes:=#[t] }) (hx : a.eval x = v)
    (hrun : (Builtin.clear_ #[t] o.type #[v]).run P W = .ok (.tuple #[]) w1) (h : wpList P ops Q rest (a.put none (.tuple #[])) w1) : wpList P ops Q (o :: rest) a W:=by
  refine wpList_plain hgd fun K hK=>?_
  unfold Oper.wp execOp
  simp only [ho,resolve,invoke,builtin,Sem.run_bind,Sem.run_pure,Result.andThen_ok,List.map_toArray,List.map_cons,List.map_nil,hx,hrun]
  exact hK _ _ (by rw [hd];exact h)
theorem clear_one (W : World) (g off cc : Nat) (ty : TypeId) {cur : Array Value} (hb : W.heap[g]? = some (.cells cur 59 (0,0))) (hs : off + 2 ≤ cur.size) :
    (Builtin.clear_ #[30] ty #[.slice (some ⟨g,off,none⟩) 1 cc]).run Try.prog W = .ok (.tuple #[]) (W.setCells g off [.int .i64 0,.int .i64 0]):=by
  have hst:=run_storeCells_cells (P:=Try.prog) g off [.int .i64 0,.int .i64 0] 0 W (fun j hj=>by
    have hj : j < 2:=hj
    rw [Nat.add_zero,blk_cell hb,Array.getElem?_eq_getElem (by omega)];rfl) (fun j hj=>blk_frozen hb _) (fun v hv=>by
      rcases List.mem_cons.1 hv with rfl|hv
      ·rfl
      ·rw [List.mem_singleton.1 hv];rfl)
  simp only [Nat.add_zero] at hst
  have hz : (zeroValue 59).run Try.prog W = .ok (.agg #[.int .i64 0,.int .i64 0]) W:=by go_simp <;> rfl
  have hzc : (Builtin.zeroCells (Value.agg #[.int .i64 0,.int .i64 0]).cells 1).toList = [.int .i64 0,.int .i64 0]:=by first|kernel_rfl|simp [Builtin.zeroCells,Value.cells]
  simp [Builtin.clear_,run_underlying Try.underlying30,hz,hzc,hst]
def Delete.T5 : Bool × List (List Nat × List Nat):=(true,[([],[]),([],[]),([0,1],[0,1]),([],[]),([],[]),([3,4],[3,4]),([2,5],[2,5]),([6,6,0,1,2,3,4,5,6],[0,3,6])])
def Delete.B5 : List Nat:=[0,0,3,0,0,24,63,127]
theorem Delete.tab5 : rtab .any (opsOf Try.f55 5) = Delete.T5:=by kernel_rfl
theorem Delete.bits5 : waitsOk Delete.T5.2 Delete.B5 = true:=by kernel_rfl
set_option maxHeartbeats 8000000 in
set_option maxRecDepth 100000 in
/-- slices.Delete of one element of a row of the call's own. -/
theorem Delete.calls (g c : Nat) (l : List S59) (i : Int) (base : Nat) (ok : Nat → Prop) (w : World) (HO0 : Kd.R k59 59 w base ok (.slice (some ⟨g,0,none⟩) l.length c) l) (h0 : 0 ≤ i) (h1 : i < (l.length : Int)) (hm : l.length < 8796093022208) (hbase : base ≤ w.heap.size) :
    Calls Try.prog 55 #[.slice (some ⟨g,0,none⟩) l.length c,.int .i64 i,.int .i64 (wrap64 (i + 1))] w fun e w'=>∃ v0_ : Value,e = .returned (v0_) ∧ Kd.R k59 59 w' base ok v0_ (l.eraseIdx i.toNat) ∧ Below base w w':=by
  obtain ⟨j,hj⟩ : ∃ j,j = wrap64 (i + 1):=⟨_,rfl⟩
  have hj2 : j = i + 1:=by rw [hj];exact Go.IntWalk.wrap64_in _ (by omega)
  rw [← hj]
  clear hj
  have hroom : l.length ≤ c:=(R_reads' HO0).2.1
  obtain ⟨i0,hi0,_,hsz,_⟩:=info_parts info59
  have hu30:=Try.underlying30
  have hcutm : ∃ V,∀ W : World,(Instr.slice 30 (.slice (some ⟨g,0,none⟩) l.length c) (some (.int .i64 i)) (some (.int .i64 j)) (some (.int .i64 (l.length : Int)))).run Try.prog W = .ok V W:=by
    have hel : Try.prog.elem 30 = 59:=by simp [Program.elem,hu30]
    have hu : Try.prog.underlying 30 = some (.slice (Try.prog.elem 30)):=by rw [hel];exact hu30
    refine ⟨sliced (some ⟨g,0,none⟩) i.toNat j.toNat (l.length : Int).toNat 2,fun W=>?_⟩
    rw [run_slice_lhm W 30 _ _ c hu .i64 .i64 .i64 i j (l.length : Int) h0 (by omega) (by omega) (by omega),hel]
    simp only [sizeOf,typeInfo,hi0,hsz]
    simp [hi0,hsz,Result.andThen]
  obtain ⟨Vm,hcutm⟩:=hcutm
  have hcut1:=cut_to (P:=Try.prog) 30 59 .i64 Try.underlying30 hi0 (some ⟨g,0,none⟩) l.length c i h0 (by omega) hroom
  have hcut2:=cut_from (P:=Try.prog) 30 59 .i64 Try.underlying30 hi0 2 hsz (some ⟨g,0,none⟩) l.length c j (by omega) (by omega)
  have c0 : decide (i = j) = false:=decide_eq_false (by omega)
  have c1 : (i == j) = false:=by simp;omega
  have hk : i.toNat < l.length:=by omega
  have hjk : j.toNat = i.toNat + 1:=by omega
  have HK:=Aside0.mk hk
  have HJ:=Aside0.mk hjk
  clear hj2 hjk hk
  go_enter Try.func55,Try.ntmps55
  go_wp2
  refine start_ (n:=8) (S:=fun w'=>True) (ds:=[]) (lb 8 0) (by kernel_rfl) rfl rfl trivial (fun hHeld=>?_);refine with_tabW Delete.tab5 Delete.bits5 (fun HT_ HW_=>?_)
  have HO1:=R_drew HO0
  have HB1 : Below base w w.drew:=below_drew1 (Below.refl _ _)
  generalize w.drew = w1 at HO1 HB1 hHeld ⊢
  refine pu 0 (N:=some 20) (v:=?_) (a':=?_) (lb 8 1) HT_ (by kernel_rfl) rfl rfl rfl (fun _ _ _ h=>h) ?_ ?_ ?_
  rotate_left
  ·intro w'
   go_simp
   with_reducible rfl
  rotate_left
  ·simp only [ap]
   rfl
  refine pu 1 (N:=some 21) (v:=?_) (a':=?_) (lb 8 3) HT_ (by kernel_rfl) rfl rfl rfl (fun _ _ _ h=>h) ?_ ?_ ?_
  rotate_left
  ·intro w'
   go_simp
   with_reducible rfl
  rotate_left
  ·simp only [ap]
   rfl
  refine pu 2 (N:=some 22) (v:=?_) (a':=?_) (lb 8 7) HT_ (by kernel_rfl) rfl rfl rfl (fun _ _ _ h=>h) ?_ ?_ ?_
  rotate_left
  ·intro w'
   go_simp
   with_reducible rfl
  rotate_left
  ·simp only [ap]
   rfl
  refine pu 3 (N:=some 23) (v:=?_) (a':=?_) (lb 8 15) HT_ (by kernel_rfl) rfl rfl rfl (fun _ _ _ h=>h) ?_ ?_ ?_
  rotate_left
  ·intro w'
   go_simp
   with_reducible rfl
  rotate_left
  ·simp only [ap]
   rfl
  refine pu 4 (N:=some 24) (v:=?_) (a':=?_) (lb 8 31) HT_ (by kernel_rfl) rfl rfl rfl (fun _ _ _ h=>h) ?_ ?_ ?_
  rotate_left
  ·intro w'
   go_simp
   with_reducible rfl
  rotate_left
  ·simp only [ap]
   rfl
  refine pu 5 (N:=some 25) (v:=?_) (a':=?_) (lb 8 63) HT_ (by kernel_rfl) rfl rfl rfl (fun _ _ _ h=>h) ?_ ?_ ?_
  rotate_left
  ·intro w'
   go_simp
   with_reducible rfl
  rotate_left
  ·simp only [ap]
   rfl
  refine one_ (i:=6) (N:=some 26) (lb 8 127) rfl rfl (one_of HT_.out (by kernel_rfl)) (by decide) (fun K hK=>?_)
  have hjk:=HJ.out
  refine R_delete_step k59 (w0:=w) base (by rfl) (.tmp 22) (.tmp 25) 30 59 rfl Try.underlying30 (by rw [hi0];exact congrArg some hsz) (k:=i.toNat) rfl rfl (by rw [hjk];split <;> simp [Addr.add,show k59.sz = 2 from rfl]) (by rw [hjk]) HO1 HK.out HB1 (Nat.le_trans hbase HB1.size) ?_
  intro w2 HO2 HB2 hg2
  generalize hmm : l.length - 1 = m at HO2 ⊢
  have hm1 : m + 1 = l.length:=by have:=HK.out;omega
  have HM:=Aside0.mk hm1
  have hm2 : m + 1 ≤ c:=by omega
  have HM2:=Aside0.mk hm2
  clear hmm hm1 hm2
  refine hK.out _ _ trivial (fun hHeld=>?_)
  clear hK K
  refine norm_ (a':=?_) ?_ ?_
  rotate_left
  ·show Act.put _ (some 26) _ = _
   simp only [ap]
   rfl
  refine pu 7 (N:=some 0) (v:=?_) (a':=?_) (lb 8 255) HT_ (by kernel_rfl) rfl rfl rfl (fun _ _ _ h=>h) ?_ ?_ ?_
  rotate_left
  ·intro w'
   go_simp
   with_reducible rfl
  rotate_left
  ·simp only [ap]
   rfl
  refine done_ (done_of HT_.out (by kernel_rfl)) ?_
  have hcut3 : ∀ W : World,(Instr.slice 30 (.slice (some ⟨g,0,none⟩) m c) (some (.int .i64 (m : Int))) (some (.int .i64 (l.length : Int))) none).run Try.prog W = .ok (.slice (some ⟨g,m * 2,none⟩) 1 (c - m)) W:=by
    intro W
    have hel : Try.prog.elem 30 = 59:=by simp [Program.elem,hu30]
    have hu : Try.prog.underlying 30 = some (.slice (Try.prog.elem 30)):=by rw [hel];exact hu30
    have e1:=HM.out
    have e2:=HM2.out
    rw [run_slice_lh W 30 _ _ c hu .i64 .i64 (m : Int) (l.length : Int) (by omega) (by omega) (by omega),hel]
    simp only [sizeOf,typeInfo,hi0,hsz]
    have e3 : (l.length : Int).toNat - (m : Int).toNat = 1:=by omega
    have e4 : ¬ c = m:=by omega
    simp [hi0,hsz,Result.andThen,sliced,Addr.add,e4]
    omega
  obtain ⟨HO3,HB3,cur,hcur,hcs⟩:=R_tail k59 (m:=1) HO2 [.int .i64 0,.int .i64 0] rfl HM2.out
  have hsz2 : m * 2 + 2 ≤ cur.size:=by rw [hcs,show k59.sz = 2 from rfl];have:=HM2.out;omega
  have HO4:=Aside0.mk HO3
  have HB4:=Aside0.mk (HB2.trans HB3)
  have HC4:=Aside0.mk hcur
  have HS4:=Aside0.mk hsz2
  clear HO3 HB3 hcur hcs hsz2
  have hclr : ∀ cc,(Builtin.clear_ #[30] 0 #[.slice (some ⟨g,m * 2,none⟩) 1 cc]).run Try.prog w2 = .ok (.tuple #[]) (w2.setCells g (m * 2) [.int .i64 0,.int .i64 0]):=fun cc=>clear_one w2 g (m * 2) cc 0 HC4.out HS4.out
  go_wp2
  all_goals
    go_ret
    exact ⟨_,by first|rfl|(simp;done)|(simp [*];done),HO4.out,HB4.out⟩
/-- Delete(Clone(l),i,i + 1). -/
def cloneDelete.f (k : Nat) (l : List S59) (i j : Int) : Option (List S59):=if 0 ≤ i ∧ i < (l.length : Int) ∧ j = wrap64 (i + 1) ∧ l.length < 8796093022208 then some (l.eraseIdx i.toNat) else none
theorem cloneDelete.mono : ∀ a0 a1 a2 k,LeO (cloneDelete.f k a0 a1 a2) (cloneDelete.f (k + 1) a0 a1 a2):=fun _ _ _ _=>LeO.refl _
theorem clone_some {k : Nat} {l r : List S59} {i j : Int} (h : cloneDelete.f k l i j = some r) : impl_Sensor_56.f l = some l:=by
  unfold cloneDelete.f at h
  split at h
  rotate_left
  ·exact absurd h (by simp)
  rename_i hc
  unfold impl_Sensor_56.f
  simp only [Option.bind_some,List.length_nil,Nat.zero_add,List.nil_append]
  rw [if_pos hc.2.2.2]
theorem cloneDelete.calls (k : Nat) (A : Option Addr) (c : Nat) (l : List S59) (i j : Int) (r : List S59) (w0 w : World) (hb : Below w0.heap.size w0 w) (ho : Kd.R k59 59 w w0.heap.size (fun _=>True) (.slice A l.length c) l) (h : cloneDelete.f k l i j = some r) :
    Calls Try.prog 55 #[.slice A l.length c,.int .i64 i,.int .i64 j] w fun e w'=>∃ v0_ : Value,e = .returned (v0_) ∧ Kd.R k59 59 w' w0.heap.size (fun _=>True) v0_ r ∧ Below w0.heap.size w0 w':=by
  unfold cloneDelete.f at h
  split at h
  rotate_left
  ·exact absurd h (by simp)
  rename_i hc
  obtain ⟨h0,h1,rfl,hm⟩:=hc
  obtain rfl:=Option.some.inj h
  obtain ⟨ad,e,_⟩:=(R_reads' ho).2.2.2.2 (by omega)
  subst e
  obtain ⟨g,rfl⟩:=R_head ho
  refine (Delete.calls g c l i w0.heap.size _ w ho h0 h1 hm hb.size).mono fun e w' hh=>?_
  obtain ⟨v,he,hr,hbel⟩:=hh
  exact ⟨v,he,hr,hb.trans hbel⟩
def impl_SpareSensors.l0 : Nat → List (S59) → List Int → Int → Int → Int → Bool → Option (List Int × Bool)
 | 0,_,_,_,_,_,_=>none
 | k + 1,x1,x6,x14,x15,x279000,x279001=>if x15 < x14 then ((cloneDelete.f k x1 x15 (wrap64 (x15 + 1))).bind fun t283=>((impl_Road_seen.f k x279000 x279001 t283).bind fun t286=>((slices_Min_int_int.f k t286).bind fun t289=>(if t289 > 0 then (if x6.length < 17592186044416 then (impl_SpareSensors.l0 k x1 (x6 ++ [x15]) x14 (wrap64 (x15 + 1)) x279000 x279001) else (none)) else (impl_SpareSensors.l0 k x1 x6 x14 (wrap64 (x15 + 1)) x279000 x279001))))) else (some (x6,true))
def impl_SpareSensors.f (k : Nat) (a0_0 : Int) (a0_1 : Bool) (l1 : List (S59)) : Option (List Int × Bool):=(impl_isGuarded.f k a0_0 a0_1 l1).bind fun t279=>(if t279 = true then (impl_SpareSensors.l0 k l1 (([] : List Int)) (l1.length : Int) 0 a0_0 a0_1) else (some (([] : List Int),false)))
theorem impl_SpareSensors.mono_l : ∀ k,(∀ y0 y1 y2 y3 y4 y5,LeO (impl_SpareSensors.l0 k y0 y1 y2 y3 y4 y5) (impl_SpareSensors.l0 (k + 1) y0 y1 y2 y3 y4 y5))
 | 0=>by
  refine ?_<;>(intros;intro r h;simp [impl_SpareSensors.l0] at h)
 | k + 1=>by
  have ih0:=impl_SpareSensors.mono_l k
  refine ?_<;>intros<;>(first|unfold impl_SpareSensors.l0)<;>(repeat' first|(with_reducible exact ih0 ..)|(with_reducible exact cloneDelete.mono _ _ _ _)|(with_reducible exact impl_Road_seen.mono _ _ _ _)|(with_reducible exact impl_isGuarded.mono _ _ _ _)|(with_reducible exact slices_Min_int_int.mono _ _)|(with_reducible exact LeO.refl _)|(with_reducible exact LeO.none _)|(with_reducible refine LeO.ite ?_ ?_)|(with_reducible refine LeO.bind ?_ (fun _=>?_))|exact ih0 ..|exact cloneDelete.mono _ _ _ _|exact impl_Road_seen.mono _ _ _ _|exact impl_isGuarded.mono _ _ _ _|exact slices_Min_int_int.mono _ _|exact LeO.none _|refine LeO.ite ?_ ?_|refine LeO.bind ?_ (fun _=>?_))
theorem impl_SpareSensors.mono : ∀ a0 a1 a2 k,LeO (impl_SpareSensors.f k a0 a1 a2) (impl_SpareSensors.f (k + 1) a0 a1 a2):=by
 intro a0 a1 a2 k
 have ih0:=impl_SpareSensors.mono_l k
 unfold impl_SpareSensors.f
 repeat' first
   | (with_reducible exact ih0 _ _ _ _ _ _)
   | (with_reducible exact cloneDelete.mono _ _ _ _)
   | (with_reducible exact impl_Road_seen.mono _ _ _ _)
   | (with_reducible exact impl_isGuarded.mono _ _ _ _)
   | (with_reducible exact slices_Min_int_int.mono _ _)
   | (with_reducible exact LeO.refl _)
   | (with_reducible exact LeO.none _)
   | (with_reducible refine LeO.ite ?_ ?_)
   | (with_reducible refine LeO.bind ?_ (fun _=>?_))
   | exact ih0 _ _ _ _ _ _
   | exact cloneDelete.mono _ _ _ _
   | exact impl_Road_seen.mono _ _ _ _
   | exact impl_isGuarded.mono _ _ _ _
   | exact slices_Min_int_int.mono _ _
   | exact LeO.none _
   | refine LeO.ite ?_ ?_
   | refine LeO.bind ?_ (fun _=>?_)
def impl_SpareSensors.T7 : Bool × List (List Nat × List Nat):=(true,[([],[]),([],[]),([1],[1]),([],[]),([],[]),([4],[4]),([2,3,5,2],[2,3,5]),([0,6,6],[0,6]),([7,7],[7]),([8],[8])])
def impl_SpareSensors.B7 : List Nat:=[0,0,2,0,0,16,62,127,255,511]
theorem impl_SpareSensors.tab7 : rtab .any (opsOf Try.f33 7) = impl_SpareSensors.T7:=by kernel_rfl
theorem impl_SpareSensors.bits7 : waitsOk impl_SpareSensors.T7.2 impl_SpareSensors.B7 = true:=by kernel_rfl
set_option maxHeartbeats 8000000 in
set_option maxRecDepth 100000 in
theorem impl_SpareSensors.calls (k : Nat) (a0_0 : Int) (a0_1 : Bool) (A1 : Option Addr) (c1 : Nat) (l1 : List (S59)) (r1 : List Int) (r2 : Bool) (w : World) (hr1 : Kd.C k59 w A1 l1.length l1) (hc1 : l1.length ≤ c1) (h : impl_SpareSensors.f k a0_0 a0_1 l1 = some (r1,r2)) :
  Calls Try.prog 33 #[.agg #[.int .i64 a0_0,.bool a0_1],.slice A1 l1.length c1] w fun e w'=>∃ v0_ : Value,e = .returned (.tuple #[v0_,.bool r2]) ∧ Kd.R (Kd.int .i64) 3 w' w.heap.size (fun _=>True) v0_ r1 ∧ Below w.heap.size w w':=by
 have hu28:=Try.underlying28
 have HR1:=Aside0.mk hr1
 have HC1:=Aside0.mk hc1
 clear hr1 hc1
 have HB:=Aside0.mk (Below.refl w.heap.size w)
 have H : ((impl_isGuarded.f k a0_0 a0_1 l1).bind fun t279=>(if t279 = true then (impl_SpareSensors.l0 k l1 (([] : List Int)) (l1.length : Int) 0 a0_0 a0_1) else (some (([] : List Int),false)))) = some (r1,r2):=h
 clear h
 replace H:=Option.bind_eq_some_iff.mp H
 obtain ⟨t279,A30,H⟩:=H
 (try dsimp only at H)
 have A3:=Aside0.mk A30
 clear A30
 by_cases c4 : t279 = true
 rotate_left
 ·replace c4:=Bool.eq_false_iff.mpr c4
  subst c4
  rw [if_neg (show ¬ (false = true) by decide)] at H
  simp only [Option.some.injEq,Prod.mk.injEq] at H
  obtain ⟨rfl,rfl⟩:=H
  go_enter Try.func33,Try.ntmps33
  go_wp2_with (first|((with_reducible refine gate_dst (N:=2) rfl ?_);refine box_event ?hg (N:=2) ?hd (cs:=#[.int .i64 a0_0,.bool a0_1]) (t:=28) ?hr ?_;(case hd=>rfl);(case hg=>rfl);(case hr=>first|(go_simp;done)|(go_simp;rfl));intro gb278 hg w29 hbox hb;have BK278:=ak hbox;have GW278:=ak ((by rw [hg];exact (below_size (hm HB.out)) : w.heap.size ≤ gb278));have GE278:=ak ((by rw [hg];exact (below_size (hm HB.out)) : w.heap.size ≤ gb278));replace HB:=bs HB hb;clear hb hbox hg;have hcz30_0 : w29.cell? ⟨gb278,0,none⟩ = some (.int .i64 a0_0):=(blk_cell BK278.out 0).trans rfl;have hcz30_1 : w29.cell? ⟨gb278,1,none⟩ = some (.bool a0_1):=(blk_cell BK278.out 1).trans rfl;have hfz30_0:=blk_frozen BK278.out 0;have hfz30_1:=blk_frozen BK278.out 1)|((with_reducible refine gate_callee (f:=48) rfl ?_);refine goesL_ (some 10) rfl rfl Try.func48 (by kernel_rfl) rfl #[.agg #[.int .i64 a0_0,.bool a0_1],.slice A1 l1.length c1] rfl gl ?_;(with_reducible refine (impl_isGuarded.calls k a0_0 a0_1 _ _ l1 false _ ?side1 ?side2 A3.out).mono ?_);(case side1=>exact cm (C_below HR1.out HB.out));(case side2=>exact HC1.out);rintro e w31 ⟨rfl,hb⟩;refine ⟨_,rfl,?_⟩;replace BK278:=kb BK278 hb;replace HB:=ak (below_step (h1 HB.out GE278.out) hb);(try clear hb);(try clear hk);(try clear hi)))
  go_ret2
  exact ⟨_,fe,by first|exact R_nil _ _ _ _ _|exact Kd.N_nil _ _ _ _ _|exact Kd.V_nil _ _ _ _ _|exact Kd.Q_nil _ _ _ _ _|exact Kd.S_nil _ _ _ _ _,h1 HB.out GE278.out⟩
 subst c4
 rw [if_pos rfl] at H
 obtain ⟨y280,hy280⟩ : ∃ y_ : List Int,y_ = (([] : List Int)):=⟨_,rfl⟩
 replace H : (impl_SpareSensors.l0 k l1 y280 (l1.length : Int) 0 a0_0 a0_1) = some (r1,r2):=by first|(rw [hy280];with_reducible exact H)|(have H2_:=(Option.bind_some _ _).symm.trans H;rw [hy280];with_reducible exact H2_)|(have H2_:=(Option.bind_some _ _).symm.trans H;with_reducible exact H2_)|with_reducible exact H|(rw [hy280];exact H)|exact H
 have Ny280:=Aside0.mk hy280
 clear hy280
 have H':=Aside0.mk H
 clear H
 go_enter Try.func33,Try.ntmps33
 go_wp2_with (first|((with_reducible refine gate_dst (N:=2) rfl ?_);refine box_event ?hg (N:=2) ?hd (cs:=#[.int .i64 a0_0,.bool a0_1]) (t:=28) ?hr ?_;(case hd=>rfl);(case hg=>rfl);(case hr=>first|(go_simp;done)|(go_simp;rfl));intro gb278 hg w5 hbox hb;have BK278:=ak hbox;have GW278:=ak ((by rw [hg];exact (below_size (hm HB.out)) : w.heap.size ≤ gb278));have GE278:=ak ((by rw [hg];exact (below_size (hm HB.out)) : w.heap.size ≤ gb278));replace HB:=bs HB hb;clear hb hbox hg;have hcz6_0 : w5.cell? ⟨gb278,0,none⟩ = some (.int .i64 a0_0):=(blk_cell BK278.out 0).trans rfl;have hcz6_1 : w5.cell? ⟨gb278,1,none⟩ = some (.bool a0_1):=(blk_cell BK278.out 1).trans rfl;have hfz6_0:=blk_frozen BK278.out 0;have hfz6_1:=blk_frozen BK278.out 1)|((with_reducible refine gate_callee (f:=48) rfl ?_);refine goesL_ (some 10) rfl rfl Try.func48 (by kernel_rfl) rfl #[.agg #[.int .i64 a0_0,.bool a0_1],.slice A1 l1.length c1] rfl gl ?_;(with_reducible refine (impl_isGuarded.calls k a0_0 a0_1 _ _ l1 true _ ?side1 ?side2 A3.out).mono ?_);(case side1=>exact cm (C_below HR1.out HB.out));(case side2=>exact HC1.out);rintro e w7 ⟨rfl,hb⟩;refine ⟨_,rfl,?_⟩;replace BK278:=kb BK278 hb;replace HB:=ak (below_step (h1 HB.out GE278.out) hb);(try clear hb);(try clear hk);(try clear hi))|((with_reducible refine gate_dst (N:=12) rfl ?_);refine R_lit (Kd.int .i64) _ 3 ?hg (N:=12) ?hd (xs:=([] : List Int)) (inner:=[]) (ok:=fun _=>True) (okp:=fun _=>True) ?hr ?hp (fun _ hk=>hk) trivial (Below.refl _ _) (Nat.le_refl _) (by simp) ?_;(case hd=>rfl);(case hg=>rfl);(case hr=>first|(go_simp;done)|(go_simp;rfl));(case hp=>exact (Reps.none _ _));intro v281 w8 ho9 hb hg_ hnew_;clear hg_ hnew_;(first|rw [← Ny280.out] at ho9|(simp only [Int.reduceToNat] at ho9;rw [← Ny280.out] at ho9));have HO282:=ak (R_lower ho9 (below_size (h1 HB.out GE278.out)));replace BK278:=kb BK278 hb;replace HB:=ak (below_step (h1 HB.out GE278.out) hb);clear hb ho9))
 go_loopg [6,15] k (fun kq v6 v15 w'=>∃ (x6_1 : List Int) (x15_1 : Int),v15 = .int .i64 x15_1 ∧ Aside0 (impl_SpareSensors.l0 kq l1 x6_1 (l1.length : Int) x15_1 a0_0 a0_1 = some (r1,r2)) ∧ Aside0 (kq ≤ k) ∧ Aside0 (Kd.R (Kd.int .i64) 3 w' w.heap.size (fun _=>True) v6 x6_1) ∧ Aside0 (w'.heap[gb278]? = some (.cells #[.int .i64 a0_0,.bool a0_1] 28 (0,0))) ∧ Aside0 (Below w.heap.size w w'))
 case atStart=>exact ⟨(y280),(0),fd,H',⟨Nat.le_refl _⟩,⟨rm HO282.out⟩,⟨bm BK278.out⟩,⟨h1 HB.out GE278.out⟩⟩
 clear H'
 try clear c1
 try clear p2
 try clear c3
 try clear c4
 try clear hcz6_0
 try clear hcz6_1
 try clear hfz6_0
 try clear hfz6_1
 obtain ⟨x6_1,x15_1,rfl,HA,HK1,HO_6,BK278,HB⟩:=hrel
 cases gk with
 | zero=>exact absurd HA.out (by simp [impl_SpareSensors.l0])
 | succ k1 =>
  have H:=HA.out
  clear HA
  simp only [impl_SpareSensors.l0] at H
  by_cases c10 : x15_1 < (l1.length : Int)
  rotate_left
  ·rw [if_neg c10] at H
   have c10b0 : decide (x15_1 < (l1.length : Int)) = false:=decide_eq_false c10
   clear c10
   simp only [Option.some.injEq,Prod.mk.injEq] at H
   obtain ⟨rfl,rfl⟩:=H
   go_wp2
   go_ret2
   exact ⟨_,fe,rm HO_6.out,h1 HB.out GE278.out⟩
  rw [if_pos c10] at H
  have c10b0 : decide (x15_1 < (l1.length : Int)) = true:=decide_eq_true c10
  clear c10
  replace H:=Option.bind_eq_some_iff.mp H
  obtain ⟨t283,A110,H⟩:=H
  (try dsimp only at H)
  have A11:=Aside0.mk A110
  clear A110
  replace H:=Option.bind_eq_some_iff.mp H
  obtain ⟨t286,A120,H⟩:=H
  (try dsimp only at H)
  have A12:=Aside0.mk A120
  clear A120
  replace H:=Option.bind_eq_some_iff.mp H
  obtain ⟨t289,A130,H⟩:=H
  (try dsimp only at H)
  have A13:=Aside0.mk A130
  clear A130
  by_cases c14 : t289 > 0
  rotate_left
  ·rw [if_neg c14] at H
   have c14b0 : decide (0 < t289) = false:=decide_eq_false c14
   clear c14
   have H':=Aside0.mk H
   clear H
   try go_wp2
   replace HO_6:=ak (R_drew HO_6.out)
   replace BK278:=ak (blk_drew BK278.out)
   replace HB:=ak (below_drew1 HB.out)
   refine start_ (n:=10) (S:=fun w'=>w'.cell? ⟨gb278,0,none⟩ = some (.int .i64 a0_0) ∧ w'.cell? ⟨gb278,1,none⟩ = some (.bool a0_1)) (ds:=[]) (lb 10 0) (by kernel_rfl) rfl rfl ⟨(blk_cell BK278.out 0).trans rfl,(blk_cell BK278.out 1).trans rfl⟩ (fun hHeld=>?_);refine with_tabW impl_SpareSensors.tab7 impl_SpareSensors.bits7 (fun HT_ HW_=>?_)
   generalize wr.drew = w23 at HO_6 BK278 HB hHeld ⊢
   refine pu 1 (N:=some 19) (v:=?_) (a':=?_) (lb 10 2) HT_ (by kernel_rfl) rfl rfl rfl (fun _ _ _ h=>h) ?_ ?_ ?_
   rotate_left
   ·intro w'
    go_simp
    with_reducible rfl
   rotate_left
   ·simp only [ap]
    rfl
   refine pu 3 (N:=some 21) (v:=?_) (a':=?_) (lb 10 10) HT_ (by kernel_rfl) rfl rfl rfl (fun _ _ _ h=>h) ?_ ?_ ?_
   rotate_left
   ·intro w'
    go_simp
    with_reducible rfl
   rotate_left
   ·simp only [ap]
    rfl
   refine pu 4 (N:=some 22) (v:=?_) (a':=?_) (lb 10 26) HT_ (by kernel_rfl) rfl rfl rfl (fun _ _ _ h=>h) ?_ ?_ ?_
   rotate_left
   ·intro w'
    go_simp
    with_reducible rfl
   rotate_left
   ·simp only [ap]
    rfl
   refine pu 5 (N:=some 23) (v:=?_) (a':=?_) (lb 10 58) HT_ (by kernel_rfl) rfl rfl rfl (fun _ _ _ h=>h) ?_ ?_ ?_
   rotate_left
   ·intro w'
    go_simp
    with_reducible rfl
   rotate_left
   ·simp only [ap]
    rfl
   refine take_ (i:=0) (N:=some 18) (v:=?_) (a':=?_) (lb 10 59) rfl rfl (take_ofW HT_.out HW_.out (by kernel_rfl)) (fun _ _ _ h=>h) (Or.inl ⟨by rfl,?_⟩) hHeld ?_ ?_
   rotate_left
   ·rintro w' ⟨s0,s1⟩
    go_simp
    with_reducible rfl
   rotate_left
   ·simp only [ap]
    rfl
   refine one_ (i:=2) (N:=some 20) (lb 10 63) rfl rfl (one_of HT_.out (by kernel_rfl)) (by decide) (fun K hK=>?_)
   refine goes_ Try.func56 (by kernel_rfl) rfl #[.slice A1 l1.length c1] (by rfl) rfl rfl (by (try simp only [List.map_toArray,List.map_cons,List.map_nil]);first|done|rfl) ?_
   refine (impl_Sensor_56.calls _ _ l1 l1 _ ?side1 ?side2 (clone_some A11.out)).mono ?_
   (case side1=>exact cm (C_below HR1.out HB.out))
   (case side2=>exact HC1.out)
   rintro e wc ⟨vc,rfl,hoc,hbc⟩
   refine ⟨_,rfl,?_⟩
   obtain ⟨Ac,cc,ec⟩:=R_slice hoc
   subst ec
   refine hK.out _ _ ⟨(blk_cell (blk_below BK278.out hbc) 0).trans rfl,(blk_cell (blk_below BK278.out hbc) 1).trans rfl⟩ (fun hHeld=>?_)
   clear hK K
   refine norm_ (a':=?_) ?_ ?_
   rotate_left
   ·show Act.put _ (some 20) _ = _
    simp only [ap]
    rfl
   refine one_ (i:=6) (N:=some 24) (lb 10 127) rfl rfl (one_of HT_.out (by kernel_rfl)) (by decide) (fun K hK=>?_)
   refine goes_ Try.func55 (by kernel_rfl) rfl #[.slice Ac l1.length cc,.int .i64 x15_1,.int .i64 (wrap64 (x15_1 + 1))] (by rfl) rfl rfl gl ?_
   refine (cloneDelete.calls k1 Ac cc l1 x15_1 (wrap64 (x15_1 + 1)) t283 _ _ hbc hoc A11.out).mono ?_
   rintro e w24 ⟨v284,rfl,ho0,hb⟩
   refine ⟨_,rfl,?_⟩
   replace HO_6:=rb HO_6 hb
   have HO285:=ak (R_lower ho0 (below_size (h1 HB.out GE278.out)))
   replace BK278:=kb BK278 hb
   replace HB:=ak (below_step (h1 HB.out GE278.out) hb)
   (try clear hb)
   (try clear hb2)
   (try clear hk)
   (try clear hi)
   (try clear ho0)
   obtain ⟨Ao25,co25,eo25⟩:=R_slice HO285.out
   (first|subst eo25|(injection eo25 with f1_ f2_ f3_;have f4_:=f1_.symm;have f5_:=f3_.symm;clear f1_ f2_ f3_;subst f4_;subst f5_))
   refine hK.out _ _ ⟨(blk_cell BK278.out 0).trans rfl,(blk_cell BK278.out 1).trans rfl⟩ (fun hHeld=>?_)
   clear hK K
   refine norm_ (a':=?_) ?_ ?_
   rotate_left
   ·show Act.put _ (some 24) _ = _
    simp only [ap]
    rfl
   refine one_ (i:=7) (N:=some 25) (lb 10 255) rfl rfl (one_of HT_.out (by kernel_rfl)) (by decide) (fun K hK=>?_)
   refine goes_ Try.func52 (by kernel_rfl) rfl #[.agg #[.int .i64 a0_0,.bool a0_1],.slice Ao25 t283.length co25] (by rfl) rfl rfl gl ?_
   with_reducible refine (impl_Road_seen.calls k1 a0_0 a0_1 _ _ t283 t286 _ ?side1 ?side2 A12.out).mono ?_
   (case side1=>exact cm (R_reads' HO285.out).2.2)
   (case side2=>exact (R_reads' HO285.out).2.1)
   rintro e w26 ⟨v287,rfl,ho0,hb⟩
   refine ⟨_,rfl,?_⟩
   replace HO285:=rb HO285 hb
   have HO288:=ak (R_lower (R_new' ho0 (R_lt (rm HO_6.out))) (below_size (h1 HB.out GE278.out)))
   replace HO_6:=ak (R_elder' (rm HO_6.out) (R_base ho0) hb)
   replace BK278:=kb BK278 hb
   replace HB:=ak (below_step (h1 HB.out GE278.out) hb)
   (try clear hb)
   (try clear hb2)
   (try clear hk)
   (try clear hi)
   (try clear ho0)
   obtain ⟨Ao27,co27,eo27⟩:=R_slice HO288.out
   (first|subst eo27|(injection eo27 with f1_ f2_ f3_;have f4_:=f1_.symm;have f5_:=f3_.symm;clear f1_ f2_ f3_;subst f4_;subst f5_))
   refine hK.out _ _ ⟨(blk_cell BK278.out 0).trans rfl,(blk_cell BK278.out 1).trans rfl⟩ (fun hHeld=>?_)
   clear hK K
   refine norm_ (a':=?_) ?_ ?_
   rotate_left
   ·show Act.put _ (some 25) _ = _
    simp only [ap]
    rfl
   refine one_ (i:=8) (N:=some 26) (lb 10 511) rfl rfl (one_of HT_.out (by kernel_rfl)) (by decide) (fun K hK=>?_)
   refine goes_ Try.func51 (by kernel_rfl) rfl #[.slice Ao27 t286.length co27] (by rfl) rfl rfl gl ?_
   with_reducible refine (slices_Min_int_int.calls k1 _ _ t286 t289 _ ?side1 ?side2 A13.out).mono ?_
   (case side1=>exact cm (R_reads' HO288.out).2.2)
   (case side2=>exact (R_reads' HO288.out).2.1)
   rintro e w28 ⟨rfl,hb⟩
   refine ⟨_,rfl,?_⟩
   replace HO_6:=rb HO_6 hb
   replace HO285:=rb HO285 hb
   replace HO288:=rb HO288 hb
   replace BK278:=kb BK278 hb
   replace HB:=ak (below_step (h1 HB.out GE278.out) hb)
   (try clear hb)
   (try clear hb2)
   (try clear hk)
   (try clear hi)
   refine hK.out _ _ ⟨(blk_cell BK278.out 0).trans rfl,(blk_cell BK278.out 1).trans rfl⟩ (fun hHeld=>?_)
   clear hK K
   refine norm_ (a':=?_) ?_ ?_
   rotate_left
   ·show Act.put _ (some 26) _ = _
    simp only [ap]
    rfl
   refine pu 9 (N:=some 27) (v:=?_) (a':=?_) (lb 10 1023) HT_ (by kernel_rfl) rfl rfl rfl (fun _ _ _ h=>h) ?_ ?_ ?_
   rotate_left
   ·intro w'
    go_simp
    with_reducible rfl
   rotate_left
   ·simp only [ap]
    rfl
   refine done_ (done_of HT_.out (by kernel_rfl)) ?_
   try go_wp2
   go_roundg k1
   case measure=>have:=HK1.out;omega
   case rel=>exact ⟨(x6_1),(wrap64 (x15_1 + 1)),fd,H',⟨by have:=HK1.out;omega⟩,⟨rm (R_mono HO_6.out (fun _ hk=>trivial))⟩,⟨bm BK278.out⟩,⟨h1 HB.out GE278.out⟩⟩
  rw [if_pos c14] at H
  have c14b0 : decide (0 < t289) = true:=decide_eq_true c14
  clear c14
  by_cases c15 : x6_1.length < 17592186044416
  rotate_left
  ·rw [if_neg c15] at H
   exact absurd H (by simp)
  rw [if_pos c15] at H
  have LMc15:=Aside0.mk c15
  clear c15
  obtain ⟨y290,hy290⟩ : ∃ y_ : List Int,y_ = (x6_1 ++ [x15_1]):=⟨_,rfl⟩
  replace H : (impl_SpareSensors.l0 k1 l1 y290 (l1.length : Int) (wrap64 (x15_1 + 1)) a0_0 a0_1) = some (r1,r2):=by first|(rw [hy290];with_reducible exact H)|(have H2_:=(Option.bind_some _ _).symm.trans H;rw [hy290];with_reducible exact H2_)|(have H2_:=(Option.bind_some _ _).symm.trans H;with_reducible exact H2_)|with_reducible exact H|(rw [hy290];exact H)|exact H
  have Ny290:=Aside0.mk hy290
  clear hy290
  have H':=Aside0.mk H
  clear H
  try go_wp2
  replace HO_6:=ak (R_drew HO_6.out)
  replace BK278:=ak (blk_drew BK278.out)
  replace HB:=ak (below_drew1 HB.out)
  refine start_ (n:=10) (S:=fun w'=>w'.cell? ⟨gb278,0,none⟩ = some (.int .i64 a0_0) ∧ w'.cell? ⟨gb278,1,none⟩ = some (.bool a0_1)) (ds:=[]) (lb 10 0) (by kernel_rfl) rfl rfl ⟨(blk_cell BK278.out 0).trans rfl,(blk_cell BK278.out 1).trans rfl⟩ (fun hHeld=>?_);refine with_tabW impl_SpareSensors.tab7 impl_SpareSensors.bits7 (fun HT_ HW_=>?_)
  generalize wr.drew = w16 at HO_6 BK278 HB hHeld ⊢
  refine pu 1 (N:=some 19) (v:=?_) (a':=?_) (lb 10 2) HT_ (by kernel_rfl) rfl rfl rfl (fun _ _ _ h=>h) ?_ ?_ ?_
  rotate_left
  ·intro w'
   go_simp
   with_reducible rfl
  rotate_left
  ·simp only [ap]
   rfl
  refine pu 3 (N:=some 21) (v:=?_) (a':=?_) (lb 10 10) HT_ (by kernel_rfl) rfl rfl rfl (fun _ _ _ h=>h) ?_ ?_ ?_
  rotate_left
  ·intro w'
   go_simp
   with_reducible rfl
  rotate_left
  ·simp only [ap]
   rfl
  refine pu 4 (N:=some 22) (v:=?_) (a':=?_) (lb 10 26) HT_ (by kernel_rfl) rfl rfl rfl (fun _ _ _ h=>h) ?_ ?_ ?_
  rotate_left
  ·intro w'
   go_simp
   with_reducible rfl
  rotate_left
  ·simp only [ap]
   rfl
  refine pu 5 (N:=some 23) (v:=?_) (a':=?_) (lb 10 58) HT_ (by kernel_rfl) rfl rfl rfl (fun _ _ _ h=>h) ?_ ?_ ?_
  rotate_left
  ·intro w'
   go_simp
   with_reducible rfl
  rotate_left
  ·simp only [ap]
   rfl
  refine take_ (i:=0) (N:=some 18) (v:=?_) (a':=?_) (lb 10 59) rfl rfl (take_ofW HT_.out HW_.out (by kernel_rfl)) (fun _ _ _ h=>h) (Or.inl ⟨by rfl,?_⟩) hHeld ?_ ?_
  rotate_left
  ·rintro w' ⟨s0,s1⟩
   go_simp
   with_reducible rfl
  rotate_left
  ·simp only [ap]
   rfl
  refine one_ (i:=2) (N:=some 20) (lb 10 63) rfl rfl (one_of HT_.out (by kernel_rfl)) (by decide) (fun K hK=>?_)
  refine goes_ Try.func56 (by kernel_rfl) rfl #[.slice A1 l1.length c1] (by rfl) rfl rfl (by (try simp only [List.map_toArray,List.map_cons,List.map_nil]);first|done|rfl) ?_
  refine (impl_Sensor_56.calls _ _ l1 l1 _ ?side1 ?side2 (clone_some A11.out)).mono ?_
  (case side1=>exact cm (C_below HR1.out HB.out))
  (case side2=>exact HC1.out)
  rintro e wc ⟨vc,rfl,hoc,hbc⟩
  refine ⟨_,rfl,?_⟩
  obtain ⟨Ac,cc,ec⟩:=R_slice hoc
  subst ec
  refine hK.out _ _ ⟨(blk_cell (blk_below BK278.out hbc) 0).trans rfl,(blk_cell (blk_below BK278.out hbc) 1).trans rfl⟩ (fun hHeld=>?_)
  clear hK K
  refine norm_ (a':=?_) ?_ ?_
  rotate_left
  ·show Act.put _ (some 20) _ = _
   simp only [ap]
   rfl
  refine one_ (i:=6) (N:=some 24) (lb 10 127) rfl rfl (one_of HT_.out (by kernel_rfl)) (by decide) (fun K hK=>?_)
  refine goes_ Try.func55 (by kernel_rfl) rfl #[.slice Ac l1.length cc,.int .i64 x15_1,.int .i64 (wrap64 (x15_1 + 1))] (by rfl) rfl rfl gl ?_
  refine (cloneDelete.calls k1 Ac cc l1 x15_1 (wrap64 (x15_1 + 1)) t283 _ _ hbc hoc A11.out).mono ?_
  rintro e w17 ⟨v284,rfl,ho0,hb⟩
  refine ⟨_,rfl,?_⟩
  replace HO_6:=rb HO_6 hb
  have HO285:=ak (R_lower ho0 (below_size (h1 HB.out GE278.out)))
  replace BK278:=kb BK278 hb
  replace HB:=ak (below_step (h1 HB.out GE278.out) hb)
  (try clear hb)
  (try clear hb2)
  (try clear hk)
  (try clear hi)
  (try clear ho0)
  obtain ⟨Ao18,co18,eo18⟩:=R_slice HO285.out
  (first|subst eo18|(injection eo18 with f1_ f2_ f3_;have f4_:=f1_.symm;have f5_:=f3_.symm;clear f1_ f2_ f3_;subst f4_;subst f5_))
  refine hK.out _ _ ⟨(blk_cell BK278.out 0).trans rfl,(blk_cell BK278.out 1).trans rfl⟩ (fun hHeld=>?_)
  clear hK K
  refine norm_ (a':=?_) ?_ ?_
  rotate_left
  ·show Act.put _ (some 24) _ = _
   simp only [ap]
   rfl
  refine one_ (i:=7) (N:=some 25) (lb 10 255) rfl rfl (one_of HT_.out (by kernel_rfl)) (by decide) (fun K hK=>?_)
  refine goes_ Try.func52 (by kernel_rfl) rfl #[.agg #[.int .i64 a0_0,.bool a0_1],.slice Ao18 t283.length co18] (by rfl) rfl rfl gl ?_
  with_reducible refine (impl_Road_seen.calls k1 a0_0 a0_1 _ _ t283 t286 _ ?side1 ?side2 A12.out).mono ?_
  (case side1=>exact cm (R_reads' HO285.out).2.2)
  (case side2=>exact (R_reads' HO285.out).2.1)
  rintro e w19 ⟨v287,rfl,ho0,hb⟩
  refine ⟨_,rfl,?_⟩
  replace HO285:=rb HO285 hb
  have HO288:=ak (R_lower (R_new' ho0 (R_lt (rm HO_6.out))) (below_size (h1 HB.out GE278.out)))
  replace HO_6:=ak (R_elder' (rm HO_6.out) (R_base ho0) hb)
  replace BK278:=kb BK278 hb
  replace HB:=ak (below_step (h1 HB.out GE278.out) hb)
  (try clear hb)
  (try clear hb2)
  (try clear hk)
  (try clear hi)
  (try clear ho0)
  obtain ⟨Ao20,co20,eo20⟩:=R_slice HO288.out
  (first|subst eo20|(injection eo20 with f1_ f2_ f3_;have f4_:=f1_.symm;have f5_:=f3_.symm;clear f1_ f2_ f3_;subst f4_;subst f5_))
  refine hK.out _ _ ⟨(blk_cell BK278.out 0).trans rfl,(blk_cell BK278.out 1).trans rfl⟩ (fun hHeld=>?_)
  clear hK K
  refine norm_ (a':=?_) ?_ ?_
  rotate_left
  ·show Act.put _ (some 25) _ = _
   simp only [ap]
   rfl
  refine one_ (i:=8) (N:=some 26) (lb 10 511) rfl rfl (one_of HT_.out (by kernel_rfl)) (by decide) (fun K hK=>?_)
  refine goes_ Try.func51 (by kernel_rfl) rfl #[.slice Ao20 t286.length co20] (by rfl) rfl rfl gl ?_
  with_reducible refine (slices_Min_int_int.calls k1 _ _ t286 t289 _ ?side1 ?side2 A13.out).mono ?_
  (case side1=>exact cm (R_reads' HO288.out).2.2)
  (case side2=>exact (R_reads' HO288.out).2.1)
  rintro e w21 ⟨rfl,hb⟩
  refine ⟨_,rfl,?_⟩
  replace HO_6:=rb HO_6 hb
  replace HO285:=rb HO285 hb
  replace HO288:=rb HO288 hb
  replace BK278:=kb BK278 hb
  replace HB:=ak (below_step (h1 HB.out GE278.out) hb)
  (try clear hb)
  (try clear hb2)
  (try clear hk)
  (try clear hi)
  refine hK.out _ _ ⟨(blk_cell BK278.out 0).trans rfl,(blk_cell BK278.out 1).trans rfl⟩ (fun hHeld=>?_)
  clear hK K
  refine norm_ (a':=?_) ?_ ?_
  rotate_left
  ·show Act.put _ (some 26) _ = _
   simp only [ap]
   rfl
  refine pu 9 (N:=some 27) (v:=?_) (a':=?_) (lb 10 1023) HT_ (by kernel_rfl) rfl rfl rfl (fun _ _ _ h=>h) ?_ ?_ ?_
  rotate_left
  ·intro w'
   go_simp
   with_reducible rfl
  rotate_left
  ·simp only [ap]
   rfl
  refine done_ (done_of HT_.out (by kernel_rfl)) ?_
  try go_wp2_with (first|((with_reducible refine gate_builtin (b:=.append) (xs:=#[.tmp 28,.tmp 30]) rfl ?_);at_builtin;refine R_append (Kd.int .i64) (w0:=w) w.heap.size rfl (.tmp 28) (.tmp 30) 39 3 (.int .i64 0) 8 rfl Try.underlying39 info3 rfl (by decide) (by omega) u6 x6_1 x15_1 [.int .i64 x15_1] (fun k_=>ob k_ (.slice Ao20 t286.length co20)) (fun _=>False) rfl rfl ?aP (fun _ hk=>hk.elim) ?aF ?aO ?aB ?aS ?aL ?_;(case aP=>exact rfl);(case aB=>exact (h1 HB.out GE278.out));(case aF=>exact (fun k_ hk=>Kd.fresh' (R_lt (rm HO288.out)) k_ hk));(case aO=>exact (rm (R_mono HO_6.out (fun _ hk=>hk.2))));(case aS=>exact (below_size (h1 HB.out GE278.out)));(case aL=>have:=LMc15.out;omega);intro v291 w22 ho hb hg hat;rw [← Ny290.out] at ho;replace BK278:=ak (blk_grown (g:=gb278) (o:=.cells #[.int .i64 a0_0,.bool a0_1] 28 (0,0)) (bm BK278.out) hg (R_ne HO_6.out BK278.out (by decide)));replace HO285:=ak (R_over' (rm HO285.out) (R_typed (rm HO_6.out)) (by decide) hg);replace HO288:=ak (R_after (ok:=(fun _=>True)) (rm HO288.out) hg hat);replace HB:=ak hb;have HO292:=ak ho;clear HO_6;clear ho hb hg hat))
  go_roundg k1
  case measure=>have:=HK1.out;omega
  case rel=>exact ⟨(y290),(wrap64 (x15_1 + 1)),fd,H',⟨by have:=HK1.out;omega⟩,⟨rm (R_mono HO292.out (fun _ hk=>trivial))⟩,⟨bm BK278.out⟩,⟨h1 HB.out GE278.out⟩⟩

/-! ### laws_vBig: function 34 -/
def laws_vBig.f (l0 : List Int) : Option (Bool):=some (decide ((l0.length : Int) > 65536))
set_option maxHeartbeats 8000000 in
set_option maxRecDepth 100000 in
theorem laws_vBig.calls (A0 : Option Addr) (c0 : Nat) (l0 : List Int) (r : Bool) (w : World) (hr0 : Kd.C (Kd.int .u8) w A0 l0.length l0) (hc0 : l0.length ≤ c0) (h : laws_vBig.f l0 = some r) :
  Calls Try.prog 34 #[.slice A0 l0.length c0] w fun e w'=>e = .returned (.bool r) ∧ Drawn0 w w':=by
 have HR0:=Aside0.mk hr0
 have HC0:=Aside0.mk hc0
 clear hr0 hc0
 have H : (some (decide ((l0.length : Int) > 65536))) = some r:=h
 clear h
 obtain rfl:=Option.some.inj H
 go_enter Try.func34,Try.ntmps34
 go_wp2
 go_ret
 exact ⟨by first|rfl|(simp;done)|(simp [*];done),by repeat (first|exact Drawn0.refl _|apply Drawn0.step)⟩


end
end Go.Proofs.Ytknfhoghimnieaa.QFnSensors
