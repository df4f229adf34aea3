/- Functions that the law FnLanes comes to, as Lean functions, with the proof that the Go code does what they say: written by a program of this session over the kit's print. No condition but those named. -/
import Derived.Test.YthkbjcihelmaeaaQFnLanesx0
import Derived.Test.YthkbjcihelmaeaaQFnLanesx1
import Derived.Test.YthkbjcihelmaeaaQFnLanesx3
import Derived.Test.YthkbjcihelmaeaaQFnLanesx4
namespace Go.Proofs.Ythkbjcihelmaeaa.QFnLanes
open Go.RowKit Go.Proofs.YthkbjcihelmaeaaW.PrintWords Go.Proofs.YthkbjcihelmaeaaW.PrintLast Go.Proofs.YthkbjcihelmaeaaW.PrintMore Go.Proofs.Ythkbjcihelmaeaa.Short
attribute [local go_sem] max2_int min2_int max_two min_two max_three min_three max_four min_four   -- for this text's walks alone
set_option linter.unusedVariables false
set_option linter.unusedSimpArgs false

/-! ### impl_FlowsOf: function 30 -/
section
open Kd
def impl_FlowsOf.l0 : Nat → List Int → List Int → Int → Int → Option (List Int × Bool)
 | 0,_,_,_,_=>none
 | k + 1,x0,x6,x15,x16=>if x16 < x15 then ((impl_turn.f k x0).bind fun bt252=>(if x6.length < 17592186044416 then (impl_FlowsOf.l0 k bt252.1 (x6 ++ [bt252.2.2]) x15 (wrap64 (x16 + 1))) else (none))) else (some (x6,true))
def impl_FlowsOf.f (k : Nat) (l0 : List Int) (a1 : Int) : Option (List Int × Bool):=(impl_isTurns.f k l0 a1).bind fun t248=>(if t248 = true then (impl_FlowsOf.l0 k l0 (([] : List Int)) a1 0) else (some (([] : List Int),false)))
theorem impl_FlowsOf.mono_l : ∀ k,(∀ y0 y1 y2 y3,LeO (impl_FlowsOf.l0 k y0 y1 y2 y3) (impl_FlowsOf.l0 (k + 1) y0 y1 y2 y3))
 | 0=>fun _ _ _ _ r h=>by simp [impl_FlowsOf.l0] at h
 | k + 1=>by
  have ih0:=impl_FlowsOf.mono_l k
  ·intro y0 y1 y2 y3
   unfold impl_FlowsOf.l0
   repeat' first
   | (with_reducible exact ih0 _ _ _ _)
   | (with_reducible exact impl_isTurns.mono _ _ _)
   | (with_reducible exact impl_turn.mono _ _)
   | (with_reducible exact LeO.refl _)
   | (with_reducible exact LeO.none _)
   | (with_reducible refine LeO.ite ?_ ?_)
   | (with_reducible refine LeO.bind ?_ (fun _=>?_))
   | exact ih0 _ _ _ _
   | exact impl_isTurns.mono _ _ _
   | exact impl_turn.mono _ _
   | exact LeO.none _
   | refine LeO.ite ?_ ?_
   | refine LeO.bind ?_ (fun _=>?_)
theorem impl_FlowsOf.mono : ∀ a0 a1 k,LeO (impl_FlowsOf.f k a0 a1) (impl_FlowsOf.f (k + 1) a0 a1):=by
 intro a0 a1 k
 have ih0:=impl_FlowsOf.mono_l k
 unfold impl_FlowsOf.f
 repeat' first
   | (with_reducible exact ih0 _ _ _ _)
   | (with_reducible exact impl_isTurns.mono _ _ _)
   | (with_reducible exact impl_turn.mono _ _)
   | (with_reducible exact LeO.refl _)
   | (with_reducible exact LeO.none _)
   | (with_reducible refine LeO.ite ?_ ?_)
   | (with_reducible refine LeO.bind ?_ (fun _=>?_))
   | exact ih0 _ _ _ _
   | exact impl_isTurns.mono _ _ _
   | exact impl_turn.mono _ _
   | exact LeO.none _
   | refine LeO.ite ?_ ?_
   | refine LeO.bind ?_ (fun _=>?_)
set_option maxHeartbeats 8000000 in
set_option maxRecDepth 100000 in
theorem impl_FlowsOf.calls (k : Nat) (P0_ : Nat → Prop) (A0 : Option Addr) (c0 : Nat) (l0 : List Int) (a1 : Int) (r1 : List Int) (r2 : Bool) (w : World) (hs0 : Kd.V (Kd.int .i64) 3 w w.heap.size (fun k_=>P0_ k_) (.slice A0 l0.length c0) l0) (h : impl_FlowsOf.f k l0 a1 = some (r1,r2)) :
  Calls Try.prog 30 #[.slice A0 l0.length c0,.int .i64 a1] w fun e w'=>∃ v0_ : Value,e = .returned (.tuple #[v0_,.bool r2]) ∧ Kd.R (Kd.int .i64) 3 w' w.heap.size (fun k_=>(w.heap.size ≤ k_)) v0_ r1 ∧ Below w.heap.size w w':=by
 have HO0:=Aside0.mk (show Kd.V (Kd.int .i64) 3 w w.heap.size (fun k_=>(P0_ k_ ∨ w.heap.size ≤ k_)) (.slice A0 l0.length c0) l0 from Kd.V_mono hs0 (fun k_ hk=>.inl hk))
 have HB:=Aside0.mk (Below.refl w.heap.size w)
 have H : ((impl_isTurns.f k l0 a1).bind fun t248=>(if t248 = true then (impl_FlowsOf.l0 k l0 (([] : List Int)) a1 0) else (some (([] : List Int),false)))) = some (r1,r2):=h
 clear h
 replace H:=Option.bind_eq_some_iff.mp H
 obtain ⟨t248,A30,H⟩:=H
 replace H : (if t248 = true then (impl_FlowsOf.l0 k l0 (([] : List Int)) a1 0) else (some (([] : List Int),false))) = some (r1,r2):=H
 have A3:=Aside0.mk A30
 clear A30
 by_cases c4 : t248 = true
 rotate_left
 ·replace c4:=Bool.eq_false_iff.mpr c4
  subst c4
  have H1 : (some (([] : List Int),false)) = some (r1,r2):=by rw [if_neg (show ¬ (false = true) by decide)] at H;exact H
  clear H
  have H:=H1
  clear H1
  simp only [Option.some.injEq,Prod.mk.injEq] at H
  obtain ⟨rfl,rfl⟩:=H
  go_enter Try.func30,Try.ntmps30
  go_wp2_with (first|((with_reducible refine gate_callee (f:=52) rfl ?_);refine goesL_ (some 12) rfl rfl Try.func52 (by kernel_rfl) rfl #[.slice A0 l0.length c0,.int .i64 a1] rfl (by (try simp only [List.map_toArray,List.map_cons,List.map_nil]);first|done|rfl|(simp only [List.length_drop,List.length_take];rfl)) ?_;(with_reducible refine (impl_isTurns.calls k _ _ l0 a1 false _ ?side1 ?side2 A3.out).mono ?_);(case side1=>exact cm (Kd.V_reads' HO0.out).2.2);(case side2=>exact (Kd.V_reads' HO0.out).2.1);rintro e w' ⟨rfl,⟨nd,rfl⟩⟩;refine ⟨_,rfl,?_⟩))
  go_ret2
  exact ⟨_,by first|rfl|(simp [errW_none,errW_some] <;> rfl)|(simp [*,errW_none,errW_some] <;> rfl),by first|exact R_nil _ _ _ _ _|exact Kd.N_nil _ _ _ _ _|exact Kd.V_nil _ _ _ _ _|exact Kd.Q_nil _ _ _ _ _|exact Kd.S_nil _ _ _ _ _,hm HB.out⟩
 subst c4
 have H1 : (impl_FlowsOf.l0 k l0 (([] : List Int)) a1 0) = some (r1,r2):=by rw [if_pos rfl] at H;exact H
 clear H
 have H:=H1
 clear H1
 obtain ⟨y249,hy249⟩ : ∃ y_ : List Int,y_ = (([] : List Int)):=⟨_,rfl⟩
 replace H : (impl_FlowsOf.l0 k l0 y249 a1 0) = some (r1,r2):=by first|(rw [hy249];with_reducible exact H)|(have H2_:=(Option.bind_some _ _).symm.trans H;rw [hy249];with_reducible exact H2_)|(have H2_:=(Option.bind_some _ _).symm.trans H;with_reducible exact H2_)|with_reducible exact H|(rw [hy249];exact H)|exact H
 have Ny249:=Aside0.mk hy249
 clear hy249
 have H':=Aside0.mk H
 clear H
 go_enter Try.func30,Try.ntmps30
 go_wp2_with (first|((with_reducible refine gate_callee (f:=52) rfl ?_);refine goesL_ (some 12) rfl rfl Try.func52 (by kernel_rfl) rfl #[.slice A0 l0.length c0,.int .i64 a1] rfl (by (try simp only [List.map_toArray,List.map_cons,List.map_nil]);first|done|rfl|(simp only [List.length_drop,List.length_take];rfl)) ?_;(with_reducible refine (impl_isTurns.calls k _ _ l0 a1 true _ ?side1 ?side2 A3.out).mono ?_);(case side1=>exact cm (Kd.V_reads' HO0.out).2.2);(case side2=>exact (Kd.V_reads' HO0.out).2.1);rintro e w' ⟨rfl,⟨nd,rfl⟩⟩;refine ⟨_,rfl,?_⟩)|((with_reducible refine gate_dst (N:=14) rfl ?_);refine R_lit (Kd.int .i64) _ 3 ?hg (N:=14) ?hd (xs:=([] : List Int)) (inner:=[]) (ok:=fun _=>True) (okp:=fun _=>True) ?hr ?hp (fun _ hk=>hk) trivial (Below.refl _ _) (Nat.le_refl _) (by simp) ?_;(case hd=>rfl);(case hg=>rfl);(case hr=>first|(go_simp;done)|(go_simp;rfl));(case hp=>exact (Reps.none _ _));intro v250 w5 ho6 hb hg_ hnew_;clear hg_ hnew_;(first|rw [← Ny249.out] at ho6|(simp only [Int.reduceToNat] at ho6;rw [← Ny249.out] at ho6));have n0_:=Aside0.mk (Kd.V_elder' (vm HO0.out) (R_base ho6) hb);have n1_:=Aside0.mk (R_lower (R_newM (M:=fun k_=>(w.heap.size ≤ k_)) ho6 (below_size (hm HB.out)) (fun k_ h_=>h_)) (below_size (hm HB.out)));have n2_:=Aside0.mk (below_step (hm HB.out) hb);clear HO0;clear HB;have HO0:=n0_;have HO251:=n1_;have HB:=n2_;clear n0_ n1_ n2_;clear hb ho6))
 go_loopg [0,6,16] k (fun kq v0 v6 v16 w'=>∃ (x0_1 : List Int) (x6_1 : List Int) (x16_1 : Int),v16 = .int .i64 x16_1 ∧ Aside0 (impl_FlowsOf.l0 kq x0_1 x6_1 a1 x16_1 = some (r1,r2)) ∧ Aside0 (kq ≤ k) ∧ Aside0 (Kd.V (Kd.int .i64) 3 w' w.heap.size (fun k_=>(P0_ k_ ∨ w.heap.size ≤ k_) ∧ some k_ ≠ (v6 : Value).ownBlock) v0 x0_1) ∧ Aside0 (Kd.R (Kd.int .i64) 3 w' w.heap.size (fun k_=>(w.heap.size ≤ k_)) v6 x6_1) ∧ Aside0 (Below w.heap.size w w'))
 case atStart=>exact ⟨(l0),(y249),(0),(by first|rfl|(simp;done)|(simp [*];done)),H',⟨Nat.le_refl _⟩,⟨vm HO0.out⟩,⟨rm (R_mono HO251.out (fun _ hk=>hk.1))⟩,⟨hm HB.out⟩⟩
 clear H'
 try clear p2
 try clear c3
 try clear c4
 try clear c5
 obtain ⟨x0_1,x6_1,x16_1,rfl,HA,HK1,HO_0,HO_6,HB⟩:=hrel
 cases gk with
 | zero=>exact absurd HA.out (by simp [impl_FlowsOf.l0])
 | succ k1 =>
  have H:=HA.out
  clear HA
  simp only [impl_FlowsOf.l0] at H
  by_cases c7 : x16_1 < a1
  rotate_left
  ·rw [if_neg c7] at H
   have c7b0 : decide (x16_1 < a1) = false:=decide_eq_false c7
   clear c7
   simp only [Option.some.injEq,Prod.mk.injEq] at H
   obtain ⟨rfl,rfl⟩:=H
   go_wp2
   go_ret2
   exact ⟨_,by first|rfl|(simp [errW_none,errW_some] <;> rfl)|(simp [*,errW_none,errW_some] <;> rfl),rm HO_6.out,hm HB.out⟩
  rw [if_pos c7] at H
  have c7b0 : decide (x16_1 < a1) = true:=decide_eq_true c7
  clear c7
  replace H:=Option.bind_eq_some_iff.mp H
  obtain ⟨⟨t252,t253,t254⟩,A80,H⟩:=H
  replace H : (if x6_1.length < 17592186044416 then (impl_FlowsOf.l0 k1 t252 (x6_1 ++ [t254]) a1 (wrap64 (x16_1 + 1))) else (none)) = some (r1,r2):=H
  have A8:=Aside0.mk A80
  clear A80
  by_cases c9 : x6_1.length < 17592186044416
  rotate_left
  ·rw [if_neg c9] at H
   exact absurd H (by simp)
  rw [if_pos c9] at H
  have LMc9:=Aside0.mk c9
  clear c9
  obtain ⟨y259,hy259⟩ : ∃ y_ : List Int,y_ = (x6_1 ++ [t254]):=⟨_,rfl⟩
  replace H : (impl_FlowsOf.l0 k1 t252 y259 a1 (wrap64 (x16_1 + 1))) = some (r1,r2):=by first|(rw [hy259];with_reducible exact H)|(have H2_:=(Option.bind_some _ _).symm.trans H;rw [hy259];with_reducible exact H2_)|(have H2_:=(Option.bind_some _ _).symm.trans H;with_reducible exact H2_)|with_reducible exact H|(rw [hy259];exact H)|exact H
  have Ny259:=Aside0.mk hy259
  clear hy259
  have H':=Aside0.mk H
  clear H
  obtain ⟨Ao10,co10,eo10⟩:=Kd.V_slice HO_0.out
  subst eo10
  go_wp2_with (first|((with_reducible refine gate_callee (f:=48) rfl ?_);refine goesL_ (some 20) rfl rfl Try.func48 (by kernel_rfl) rfl #[.slice Ao10 x0_1.length co10] rfl (by (try simp only [List.map_toArray,List.map_cons,List.map_nil]);first|done|rfl|(simp only [List.length_drop,List.length_take];rfl)) ?_;(with_reducible refine (impl_turn.calls k1 _ _ x0_1 t252 t253 t254 _ ?side1 ?side2 A8.out).mono ?_);(case side1=>exact cm (Kd.V_reads' HO_0.out).2.2);(case side2=>exact (Kd.V_reads' HO_0.out).2.1);rintro e w11 ⟨v255,v257,rfl,ho0,ho1,hb⟩;refine ⟨_,rfl,?_⟩;have n0_:=Aside0.mk (Kd.V_mono (Kd.V_told (Kd.V_told (Kd.V_old (vm HO_0.out) hb) (R_base ho0)) (R_base ho1)) (fun _ h_=>h_.1));have n1_:=Aside0.mk (R_mono (R_told (R_told (R_old (rm HO_6.out) hb) (R_base ho0)) (R_base ho1)) (fun _ h_=>h_.1));have n2_:=Aside0.mk (R_lower (R_new' (R_newM (M:=fun k_=>(w.heap.size ≤ k_)) ho0 (below_size (hm HB.out)) (fun k_ h_=>h_)) (R_lt (rm HO_6.out))) (below_size (hm HB.out)));have n3_:=Aside0.mk (R_lower (R_new' (R_newM (M:=fun k_=>(w.heap.size ≤ k_)) ho1 (below_size (hm HB.out)) (fun k_ h_=>h_)) (R_lt (rm HO_6.out))) (below_size (hm HB.out)));have n4_:=Aside0.mk (below_step (hm HB.out) hb);clear HO_0;clear HO_6;clear HB;have HO_0:=n0_;have HO_6:=n1_;have HO256:=n2_;have HO258:=n3_;have HB:=n4_;clear n0_ n1_ n2_ n3_ n4_;(try clear hb);(try clear hb2);(try clear hk);(try clear hi);(try clear ho0);(try clear ho1))|((with_reducible refine gate_builtin (b:=.append) (xs:=#[.tmp 24,.tmp 26]) rfl ?_);at_builtin;refine R_append (Kd.int .i64) (w0:=w) w.heap.size rfl (.tmp 24) (.tmp 26) 22 3 (.int .i64 0) 8 rfl Try.underlying22 info3 rfl (by decide) (by omega) u6 x6_1 t254 [.int .i64 t254] (fun k_=>(w.heap.size ≤ k_) ∧ some k_ ≠ (v255 : Value).ownBlock ∧ some k_ ≠ (v257 : Value).ownBlock) (fun _=>False) rfl rfl ?aP (fun _ hk=>hk.elim) ?aF ?aO ?aB ?aS ?aL ?_;(case aP=>exact rfl);(case aB=>exact (hm HB.out));(case aF=>exact (fun k_ hk=>⟨(Nat.le_trans (below_size (hm HB.out)) hk),Kd.fresh' (R_lt (rm HO256.out)) k_ hk,Kd.fresh' (R_lt (rm HO258.out)) k_ hk⟩));(case aO=>exact (rm (R_mono HO_6.out (fun _ hk=>⟨hk.1.1,⟨hk.1.2,hk.2⟩⟩))));(case aS=>exact (below_size (hm HB.out)));(case aL=>have:=LMc9.out;omega);intro v260 w12 ho hb hg hat;rw [← Ny259.out] at ho;have n0_:=Aside0.mk (Kd.V_afterv (ok:=(fun k_=>(P0_ k_ ∨ w.heap.size ≤ k_) ∧ some k_ ≠ (v255 : Value).ownBlock ∧ some k_ ≠ (v257 : Value).ownBlock)) (vm (Kd.V_mono HO_0.out (fun _ hk=>⟨⟨hk.1.1.1,⟨hk.1.2,hk.2⟩⟩,hk.1.1.2⟩))) hg hat);have n1_:=Aside0.mk (R_after (ok:=(fun k_=>(w.heap.size ≤ k_) ∧ some k_ ≠ (v257 : Value).ownBlock)) (rm HO256.out) hg hat);have n2_:=Aside0.mk (R_after (ok:=(fun k_=>(w.heap.size ≤ k_) ∧ some k_ ≠ (v255 : Value).ownBlock)) (rm HO258.out) hg hat);have n3_:=Aside0.mk (hb);have n4_:=Aside0.mk (ho);clear HO_0;clear HO256;clear HO258;clear HB;clear HO_6;have HO_0:=n0_;have HO256:=n1_;have HO258:=n2_;have HB:=n3_;have HO261:=n4_;clear n0_ n1_ n2_ n3_ n4_;clear ho hb hg hat))
  go_roundg k1
  case measure=>have:=HK1.out;omega
  case rel=>exact ⟨(t252),(y259),(wrap64 (x16_1 + 1)),(by first|rfl|(simp;done)|(simp [*];done)),H',⟨by have:=HK1.out;omega⟩,⟨Kd.V_mono (R_V (rm HO256.out)) (fun k_ hk=>by first|exact ⟨(.inr (hk.1.1)),hk.2⟩|exact ⟨(.inr (hk.1)),hk.2⟩|exact ⟨(.inr (hk.1.1)),hk.1.2⟩|exact ⟨(.inr (hk.1.1.1)),hk.2⟩|exact (.inr (hk)))⟩,⟨rm (R_mono HO261.out (fun _ hk=>hk.1))⟩,⟨hm HB.out⟩⟩

/-! ### spec_CalmTurn: function 31 -/
def spec_CalmTurn.l0 : Nat → List Int → List Int → Int → Option (Int × Bool)
 | 0,_,_,_=>none
 | k + 1,x0,x4,x5=>(spec_l8Turn.f k x4).bind fun bt266=>((spec_l8Last.f k x0).bind fun t270=>(if bt266.2 = t270 then (some (x5,true)) else (spec_CalmTurn.l0 k x0 bt266.1 (wrap64 (x5 + 1)))))
def spec_CalmTurn.f (k : Nat) (l0 : List Int) : Option (Int × Bool):=(spec_l8Lane.f k l0).bind fun t262=>(if t262 = true then ((spec_l1Own.f l0).bind fun t263=>(spec_CalmTurn.l0 k l0 t263 0)) else (some (0,false)))
theorem spec_CalmTurn.mono_l : ∀ k,(∀ y0 y1 y2,LeO (spec_CalmTurn.l0 k y0 y1 y2) (spec_CalmTurn.l0 (k + 1) y0 y1 y2))
 | 0=>fun _ _ _ r h=>by simp [spec_CalmTurn.l0] at h
 | k + 1=>by
  have ih0:=spec_CalmTurn.mono_l k
  ·intro y0 y1 y2
   unfold spec_CalmTurn.l0
   repeat' first
   | (with_reducible exact ih0 _ _ _)
   | (with_reducible exact spec_l8Lane.mono _ _)
   | (with_reducible exact spec_l8Last.mono _ _)
   | (with_reducible exact spec_l8Turn.mono _ _)
   | (with_reducible exact LeO.refl _)
   | (with_reducible exact LeO.none _)
   | (with_reducible refine LeO.ite ?_ ?_)
   | (with_reducible refine LeO.bind ?_ (fun _=>?_))
   | exact ih0 _ _ _
   | exact spec_l8Lane.mono _ _
   | exact spec_l8Last.mono _ _
   | exact spec_l8Turn.mono _ _
   | exact LeO.none _
   | refine LeO.ite ?_ ?_
   | refine LeO.bind ?_ (fun _=>?_)
theorem spec_CalmTurn.mono : ∀ a0 k,LeO (spec_CalmTurn.f k a0) (spec_CalmTurn.f (k + 1) a0):=by
 intro a0 k
 have ih0:=spec_CalmTurn.mono_l k
 unfold spec_CalmTurn.f
 repeat' first
   | (with_reducible exact ih0 _ _ _)
   | (with_reducible exact spec_l8Lane.mono _ _)
   | (with_reducible exact spec_l8Last.mono _ _)
   | (with_reducible exact spec_l8Turn.mono _ _)
   | (with_reducible exact LeO.refl _)
   | (with_reducible exact LeO.none _)
   | (with_reducible refine LeO.ite ?_ ?_)
   | (with_reducible refine LeO.bind ?_ (fun _=>?_))
   | exact ih0 _ _ _
   | exact spec_l8Lane.mono _ _
   | exact spec_l8Last.mono _ _
   | exact spec_l8Turn.mono _ _
   | exact LeO.none _
   | refine LeO.ite ?_ ?_
   | refine LeO.bind ?_ (fun _=>?_)
set_option maxHeartbeats 8000000 in
set_option maxRecDepth 100000 in
theorem spec_CalmTurn.calls (k : Nat) (A0 : Option Addr) (c0 : Nat) (l0 : List Int) (r1 : Int) (r2 : Bool) (w : World) (hr0 : Kd.C (Kd.int .i64) w A0 l0.length l0) (hc0 : l0.length ≤ c0) (h : spec_CalmTurn.f k l0 = some (r1,r2)) :
  Calls Try.prog 31 #[.slice A0 l0.length c0] w fun e w'=>e = .returned (.tuple #[.int .i64 r1,.bool r2]) ∧ Below w.heap.size w w':=by
 have HR0:=Aside0.mk hr0
 have HC0:=Aside0.mk hc0
 clear hr0 hc0
 have HB:=Aside0.mk (Below.refl w.heap.size w)
 have H : ((spec_l8Lane.f k l0).bind fun t262=>(if t262 = true then ((spec_l1Own.f l0).bind fun t263=>(spec_CalmTurn.l0 k l0 t263 0)) else (some (0,false)))) = some (r1,r2):=h
 clear h
 replace H:=Option.bind_eq_some_iff.mp H
 obtain ⟨t262,A20,H⟩:=H
 replace H : (if t262 = true then ((spec_l1Own.f l0).bind fun t263=>(spec_CalmTurn.l0 k l0 t263 0)) else (some (0,false))) = some (r1,r2):=H
 have A2:=Aside0.mk A20
 clear A20
 by_cases c3 : t262 = true
 rotate_left
 ·replace c3:=Bool.eq_false_iff.mpr c3
  subst c3
  have H1 : (some (0,false)) = some (r1,r2):=by rw [if_neg (show ¬ (false = true) by decide)] at H;exact H
  clear H
  have H:=H1
  clear H1
  simp only [Option.some.injEq,Prod.mk.injEq] at H
  obtain ⟨rfl,rfl⟩:=H
  go_enter Try.func31,Try.ntmps31
  go_wp2_with (first|((with_reducible refine gate_callee (f:=40) rfl ?_);refine goesL_ (some 9) rfl rfl Try.func40 (by kernel_rfl) rfl #[.slice A0 l0.length c0] rfl (by (try simp only [List.map_toArray,List.map_cons,List.map_nil]);first|done|rfl|(simp only [List.length_drop,List.length_take];rfl)) ?_;(with_reducible refine (spec_l8Lane.calls k _ _ l0 false _ ?side1 ?side2 A2.out).mono ?_);(case side1=>repeat (first|exact HR0.out|(with_reducible refine C_alloc ?_ _)|(with_reducible refine C_drewN ?_ _)|(with_reducible refine C_drew ?_)));(case side2=>exact HC0.out);rintro e w' ⟨rfl,⟨nd,rfl⟩⟩;refine ⟨_,rfl,?_⟩))
  go_ret2
  exact ⟨by first|rfl|(simp [errW_none,errW_some] <;> rfl)|(simp [*,errW_none,errW_some] <;> rfl),hm HB.out⟩
 subst c3
 have H1 : ((spec_l1Own.f l0).bind fun t263=>(spec_CalmTurn.l0 k l0 t263 0)) = some (r1,r2):=by rw [if_pos rfl] at H;exact H
 clear H
 have H:=H1
 clear H1
 replace H:=Option.bind_eq_some_iff.mp H
 obtain ⟨t263,A40,H⟩:=H
 replace H : (spec_CalmTurn.l0 k l0 t263 0) = some (r1,r2):=H
 have A4:=Aside0.mk A40
 clear A40
 have H':=Aside0.mk H
 clear H
 go_enter Try.func31,Try.ntmps31
 go_wp2_with (first|((with_reducible refine gate_callee (f:=40) rfl ?_);refine goesL_ (some 9) rfl rfl Try.func40 (by kernel_rfl) rfl #[.slice A0 l0.length c0] rfl (by (try simp only [List.map_toArray,List.map_cons,List.map_nil]);first|done|rfl|(simp only [List.length_drop,List.length_take];rfl)) ?_;(with_reducible refine (spec_l8Lane.calls k _ _ l0 true _ ?side1 ?side2 A2.out).mono ?_);(case side1=>repeat (first|exact HR0.out|(with_reducible refine C_alloc ?_ _)|(with_reducible refine C_drewN ?_ _)|(with_reducible refine C_drew ?_)));(case side2=>exact HC0.out);rintro e w' ⟨rfl,⟨nd,rfl⟩⟩;refine ⟨_,rfl,?_⟩)|((with_reducible refine gate_callee (f:=51) rfl ?_);refine goesL_ (some 12) rfl rfl Try.func51 (by kernel_rfl) rfl #[.slice A0 l0.length c0] rfl (by (try simp only [List.map_toArray,List.map_cons,List.map_nil]);first|done|rfl|(simp only [List.length_drop,List.length_take];rfl)) ?_;(with_reducible refine (spec_l1Own.calls _ _ l0 t263 _ ?side1 ?side2 A4.out).mono ?_);(case side1=>repeat (first|exact HR0.out|(with_reducible refine C_alloc ?_ _)|(with_reducible refine C_drewN ?_ _)|(with_reducible refine C_drew ?_)));(case side2=>exact HC0.out);rintro e w5 ⟨v264,rfl,ho0,hb⟩;refine ⟨_,rfl,?_⟩;have n0_:=Aside0.mk (R_lower ho0 (below_size (hm HB.out)));have n1_:=Aside0.mk (below_step (hm HB.out) hb);clear HB;have HO265:=n0_;have HB:=n1_;clear n0_ n1_;(try clear hb);(try clear hb2);(try clear hk);(try clear hi);(try clear ho0)))
 go_loopg [4,5] k (fun kq v4 v5 w'=>∃ (x4_1 : List Int) (x5_1 : Int),v5 = .int .i64 x5_1 ∧ Aside0 (spec_CalmTurn.l0 kq l0 x4_1 x5_1 = some (r1,r2)) ∧ Aside0 (kq ≤ k) ∧ Aside0 (Kd.R (Kd.int .i64) 3 w' w.heap.size (fun _=>True) v4 x4_1) ∧ Aside0 (Below w.heap.size w w'))
 case atStart=>exact ⟨(t263),(0),(by first|rfl|(simp;done)|(simp [*];done)),H',⟨Nat.le_refl _⟩,⟨rm HO265.out⟩,⟨hm HB.out⟩⟩
 clear H'
 try clear p2
 try clear c3
 try clear c4
 try clear c5
 obtain ⟨x4_1,x5_1,rfl,HA,HK1,HO_4,HB⟩:=hrel
 cases gk with
 | zero=>exact absurd HA.out (by simp [spec_CalmTurn.l0])
 | succ k1 =>
  have H:=HA.out
  clear HA
  simp only [spec_CalmTurn.l0] at H
  replace H:=Option.bind_eq_some_iff.mp H
  obtain ⟨⟨t266,t267⟩,A60,H⟩:=H
  replace H : ((spec_l8Last.f k1 l0).bind fun t270=>(if t267 = t270 then (some (x5_1,true)) else (spec_CalmTurn.l0 k1 l0 t266 (wrap64 (x5_1 + 1))))) = some (r1,r2):=H
  have A6:=Aside0.mk A60
  clear A60
  replace H:=Option.bind_eq_some_iff.mp H
  obtain ⟨t270,A70,H⟩:=H
  replace H : (if t267 = t270 then (some (x5_1,true)) else (spec_CalmTurn.l0 k1 l0 t266 (wrap64 (x5_1 + 1)))) = some (r1,r2):=H
  have A7:=Aside0.mk A70
  clear A70
  by_cases c8 : t267 = t270
  ·rw [if_pos c8] at H
   have c8b0 : (t267 == t270) = true:=beq_iff_eq.mpr c8
   have c8b1 : (t267 != t270) = false:=bne_eq_false_iff_eq.mpr c8
   clear c8
   simp only [Option.some.injEq,Prod.mk.injEq] at H
   obtain ⟨rfl,rfl⟩:=H
   obtain ⟨Ao9,co9,eo9⟩:=R_slice HO_4.out
   subst eo9
   go_wp2_with (first|((with_reducible refine gate_callee (f:=49) rfl ?_);refine goesL_ (some 15) rfl rfl Try.func49 (by kernel_rfl) rfl #[.slice Ao9 x4_1.length co9] rfl (by (try simp only [List.map_toArray,List.map_cons,List.map_nil]);first|done|rfl|(simp only [List.length_drop,List.length_take];rfl)) ?_;(with_reducible refine (spec_l8Turn.calls k1 _ _ x4_1 t266 t267 _ ?side1 ?side2 A6.out).mono ?_);(case side1=>exact cm (R_reads' HO_4.out).2.2);(case side2=>exact (R_reads' HO_4.out).2.1);rintro e w10 ⟨v268,rfl,ho0,hb⟩;refine ⟨_,rfl,?_⟩;have n0_:=Aside0.mk (R_elder' (rm HO_4.out) (R_base ho0) hb);have n1_:=Aside0.mk (R_lower (R_new' ho0 (R_lt (rm HO_4.out))) (below_size (hm HB.out)));have n2_:=Aside0.mk (below_step (hm HB.out) hb);clear HO_4;clear HB;have HO_4:=n0_;have HO269:=n1_;have HB:=n2_;clear n0_ n1_ n2_;(try clear hb);(try clear hb2);(try clear hk);(try clear hi);(try clear ho0))|((with_reducible refine gate_callee (f:=43) rfl ?_);refine goesL_ (some 20) rfl rfl Try.func43 (by kernel_rfl) rfl #[.slice A0 l0.length c0] rfl (by (try simp only [List.map_toArray,List.map_cons,List.map_nil]);first|done|rfl|(simp only [List.length_drop,List.length_take];rfl)) ?_;(with_reducible refine (spec_l8Last.calls k1 _ _ l0 t270 _ ?side1 ?side2 A7.out).mono ?_);(case side1=>exact cm (C_below HR0.out HB.out));(case side2=>exact HC0.out);rintro e w' ⟨rfl,⟨nd,rfl⟩⟩;refine ⟨_,rfl,?_⟩))
   go_ret2
   exact ⟨by first|rfl|(simp [errW_none,errW_some] <;> rfl)|(simp [*,errW_none,errW_some] <;> rfl),hm HB.out⟩
  rw [if_neg c8] at H
  have c8b0 : (t267 == t270) = false:=beq_eq_false_iff_ne.mpr c8
  have c8b1 : (t267 != t270) = true:=bne_iff_ne.mpr c8
  have H':=Aside0.mk H
  clear H
  obtain ⟨Ao11,co11,eo11⟩:=R_slice HO_4.out
  subst eo11
  go_wp2_with (first|((with_reducible refine gate_callee (f:=49) rfl ?_);refine goesL_ (some 15) rfl rfl Try.func49 (by kernel_rfl) rfl #[.slice Ao11 x4_1.length co11] rfl (by (try simp only [List.map_toArray,List.map_cons,List.map_nil]);first|done|rfl|(simp only [List.length_drop,List.length_take];rfl)) ?_;(with_reducible refine (spec_l8Turn.calls k1 _ _ x4_1 t266 t267 _ ?side1 ?side2 A6.out).mono ?_);(case side1=>exact cm (R_reads' HO_4.out).2.2);(case side2=>exact (R_reads' HO_4.out).2.1);rintro e w12 ⟨v268,rfl,ho0,hb⟩;refine ⟨_,rfl,?_⟩;have n0_:=Aside0.mk (R_elder' (rm HO_4.out) (R_base ho0) hb);have n1_:=Aside0.mk (R_lower (R_new' ho0 (R_lt (rm HO_4.out))) (below_size (hm HB.out)));have n2_:=Aside0.mk (below_step (hm HB.out) hb);clear HO_4;clear HB;have HO_4:=n0_;have HO269:=n1_;have HB:=n2_;clear n0_ n1_ n2_;(try clear hb);(try clear hb2);(try clear hk);(try clear hi);(try clear ho0))|((with_reducible refine gate_callee (f:=43) rfl ?_);refine goesL_ (some 20) rfl rfl Try.func43 (by kernel_rfl) rfl #[.slice A0 l0.length c0] rfl (by (try simp only [List.map_toArray,List.map_cons,List.map_nil]);first|done|rfl|(simp only [List.length_drop,List.length_take];rfl)) ?_;(with_reducible refine (spec_l8Last.calls k1 _ _ l0 t270 _ ?side1 ?side2 A7.out).mono ?_);(case side1=>exact cm (C_below HR0.out HB.out));(case side2=>exact HC0.out);rintro e w' ⟨rfl,⟨nd,rfl⟩⟩;refine ⟨_,rfl,?_⟩))
  go_roundg k1
  case measure=>have:=HK1.out;omega
  case rel=>exact ⟨(t266),(wrap64 (x5_1 + 1)),(by first|rfl|(simp;done)|(simp [*];done)),H',⟨by have:=HK1.out;omega⟩,⟨rm (R_mono HO269.out (fun _ hk=>trivial))⟩,⟨hm HB.out⟩⟩

/-! ### impl_CalmTurn: function 32 -/
def impl_CalmTurn.l0 : Nat → List Int → Int → Int → Option (Int × Bool)
 | 0,_,_,_=>none
 | k + 1,x0,x4,x5=>(impl_turn.f k x0).bind fun bt273=>(if bt273.2.2 = x4 then (some (x5,true)) else (impl_CalmTurn.l0 k bt273.1 x4 (wrap64 (x5 + 1))))
def impl_CalmTurn.f (k : Nat) (l0 : List Int) : Option (Int × Bool):=(impl_IsLane.f k l0).bind fun t271=>(if t271 = true then ((impl_lastFlow.f k l0).bind fun t272=>(impl_CalmTurn.l0 k l0 t272 0)) else (some (0,false)))
theorem impl_CalmTurn.mono_l : ∀ k,(∀ y0 y1 y2,LeO (impl_CalmTurn.l0 k y0 y1 y2) (impl_CalmTurn.l0 (k + 1) y0 y1 y2))
 | 0=>fun _ _ _ r h=>by simp [impl_CalmTurn.l0] at h
 | k + 1=>by
  have ih0:=impl_CalmTurn.mono_l k
  ·intro y0 y1 y2
   unfold impl_CalmTurn.l0
   repeat' first
   | (with_reducible exact ih0 _ _ _)
   | (with_reducible exact impl_IsLane.mono _ _)
   | (with_reducible exact impl_lastFlow.mono _ _)
   | (with_reducible exact impl_turn.mono _ _)
   | (with_reducible exact LeO.refl _)
   | (with_reducible exact LeO.none _)
   | (with_reducible refine LeO.ite ?_ ?_)
   | (with_reducible refine LeO.bind ?_ (fun _=>?_))
   | exact ih0 _ _ _
   | exact impl_IsLane.mono _ _
   | exact impl_lastFlow.mono _ _
   | exact impl_turn.mono _ _
   | exact LeO.none _
   | refine LeO.ite ?_ ?_
   | refine LeO.bind ?_ (fun _=>?_)
theorem impl_CalmTurn.mono : ∀ a0 k,LeO (impl_CalmTurn.f k a0) (impl_CalmTurn.f (k + 1) a0):=by
 intro a0 k
 have ih0:=impl_CalmTurn.mono_l k
 unfold impl_CalmTurn.f
 repeat' first
   | (with_reducible exact ih0 _ _ _)
   | (with_reducible exact impl_IsLane.mono _ _)
   | (with_reducible exact impl_lastFlow.mono _ _)
   | (with_reducible exact impl_turn.mono _ _)
   | (with_reducible exact LeO.refl _)
   | (with_reducible exact LeO.none _)
   | (with_reducible refine LeO.ite ?_ ?_)
   | (with_reducible refine LeO.bind ?_ (fun _=>?_))
   | exact ih0 _ _ _
   | exact impl_IsLane.mono _ _
   | exact impl_lastFlow.mono _ _
   | exact impl_turn.mono _ _
   | exact LeO.none _
   | refine LeO.ite ?_ ?_
   | refine LeO.bind ?_ (fun _=>?_)
set_option maxHeartbeats 8000000 in
set_option maxRecDepth 100000 in
theorem impl_CalmTurn.calls (k : Nat) (P0_ : Nat → Prop) (A0 : Option Addr) (c0 : Nat) (l0 : List Int) (r1 : Int) (r2 : Bool) (w : World) (hs0 : Kd.V (Kd.int .i64) 3 w w.heap.size (fun k_=>P0_ k_) (.slice A0 l0.length c0) l0) (h : impl_CalmTurn.f k l0 = some (r1,r2)) :
  Calls Try.prog 32 #[.slice A0 l0.length c0] w fun e w'=>e = .returned (.tuple #[.int .i64 r1,.bool r2]) ∧ Below w.heap.size w w':=by
 have HO0:=Aside0.mk (show Kd.V (Kd.int .i64) 3 w w.heap.size (fun k_=>(P0_ k_ ∨ w.heap.size ≤ k_)) (.slice A0 l0.length c0) l0 from Kd.V_mono hs0 (fun k_ hk=>.inl hk))
 have HB:=Aside0.mk (Below.refl w.heap.size w)
 have H : ((impl_IsLane.f k l0).bind fun t271=>(if t271 = true then ((impl_lastFlow.f k l0).bind fun t272=>(impl_CalmTurn.l0 k l0 t272 0)) else (some (0,false)))) = some (r1,r2):=h
 clear h
 replace H:=Option.bind_eq_some_iff.mp H
 obtain ⟨t271,A20,H⟩:=H
 replace H : (if t271 = true then ((impl_lastFlow.f k l0).bind fun t272=>(impl_CalmTurn.l0 k l0 t272 0)) else (some (0,false))) = some (r1,r2):=H
 have A2:=Aside0.mk A20
 clear A20
 by_cases c3 : t271 = true
 rotate_left
 ·replace c3:=Bool.eq_false_iff.mpr c3
  subst c3
  have H1 : (some (0,false)) = some (r1,r2):=by rw [if_neg (show ¬ (false = true) by decide)] at H;exact H
  clear H
  have H:=H1
  clear H1
  simp only [Option.some.injEq,Prod.mk.injEq] at H
  obtain ⟨rfl,rfl⟩:=H
  go_enter Try.func32,Try.ntmps32
  go_wp2_with (first|((with_reducible refine gate_callee (f:=15) rfl ?_);refine goesL_ (some 10) rfl rfl Try.func15 (by kernel_rfl) rfl #[.slice A0 l0.length c0] rfl (by (try simp only [List.map_toArray,List.map_cons,List.map_nil]);first|done|rfl|(simp only [List.length_drop,List.length_take];rfl)) ?_;(with_reducible refine (impl_IsLane.calls k _ _ l0 false _ ?side1 ?side2 A2.out).mono ?_);(case side1=>exact cm (Kd.V_reads' HO0.out).2.2);(case side2=>exact (Kd.V_reads' HO0.out).2.1);rintro e w' ⟨rfl,⟨nd,rfl⟩⟩;refine ⟨_,rfl,?_⟩))
  go_ret2
  exact ⟨by first|rfl|(simp [errW_none,errW_some] <;> rfl)|(simp [*,errW_none,errW_some] <;> rfl),hm HB.out⟩
 subst c3
 have H1 : ((impl_lastFlow.f k l0).bind fun t272=>(impl_CalmTurn.l0 k l0 t272 0)) = some (r1,r2):=by rw [if_pos rfl] at H;exact H
 clear H
 have H:=H1
 clear H1
 replace H:=Option.bind_eq_some_iff.mp H
 obtain ⟨t272,A40,H⟩:=H
 replace H : (impl_CalmTurn.l0 k l0 t272 0) = some (r1,r2):=H
 have A4:=Aside0.mk A40
 clear A40
 have H':=Aside0.mk H
 clear H
 go_enter Try.func32,Try.ntmps32
 go_wp2_with (first|((with_reducible refine gate_callee (f:=15) rfl ?_);refine goesL_ (some 10) rfl rfl Try.func15 (by kernel_rfl) rfl #[.slice A0 l0.length c0] rfl (by (try simp only [List.map_toArray,List.map_cons,List.map_nil]);first|done|rfl|(simp only [List.length_drop,List.length_take];rfl)) ?_;(with_reducible refine (impl_IsLane.calls k _ _ l0 true _ ?side1 ?side2 A2.out).mono ?_);(case side1=>exact cm (Kd.V_reads' HO0.out).2.2);(case side2=>exact (Kd.V_reads' HO0.out).2.1);rintro e w' ⟨rfl,⟨nd,rfl⟩⟩;refine ⟨_,rfl,?_⟩)|((with_reducible refine gate_callee (f:=44) rfl ?_);refine goesL_ (some 13) rfl rfl Try.func44 (by kernel_rfl) rfl #[.slice A0 l0.length c0] rfl (by (try simp only [List.map_toArray,List.map_cons,List.map_nil]);first|done|rfl|(simp only [List.length_drop,List.length_take];rfl)) ?_;(with_reducible refine (impl_lastFlow.calls k _ _ l0 t272 _ ?side1 ?side2 A4.out).mono ?_);(case side1=>exact cm (Kd.V_reads' HO0.out).2.2);(case side2=>exact (Kd.V_reads' HO0.out).2.1);rintro e w5 ⟨rfl,hb⟩;refine ⟨_,rfl,?_⟩;have n0_:=Aside0.mk (Kd.V_below (vm HO0.out) hb);have n1_:=Aside0.mk (below_step (hm HB.out) hb);clear HO0;clear HB;have HO0:=n0_;have HB:=n1_;clear n0_ n1_;(try clear hb);(try clear hb2);(try clear hk);(try clear hi)))
 go_loopg [0,5] k (fun kq v0 v5 w'=>∃ (x0_1 : List Int) (x5_1 : Int),v5 = .int .i64 x5_1 ∧ Aside0 (impl_CalmTurn.l0 kq x0_1 t272 x5_1 = some (r1,r2)) ∧ Aside0 (kq ≤ k) ∧ Aside0 (Kd.V (Kd.int .i64) 3 w' w.heap.size (fun k_=>(P0_ k_ ∨ w.heap.size ≤ k_)) v0 x0_1) ∧ Aside0 (Below w.heap.size w w'))
 case atStart=>exact ⟨(l0),(0),(by first|rfl|(simp;done)|(simp [*];done)),H',⟨Nat.le_refl _⟩,⟨vm HO0.out⟩,⟨hm HB.out⟩⟩
 clear H'
 try clear c1
 try clear p2
 try clear c3
 try clear c4
 obtain ⟨x0_1,x5_1,rfl,HA,HK1,HO_0,HB⟩:=hrel
 cases gk with
 | zero=>exact absurd HA.out (by simp [impl_CalmTurn.l0])
 | succ k1 =>
  have H:=HA.out
  clear HA
  simp only [impl_CalmTurn.l0] at H
  replace H:=Option.bind_eq_some_iff.mp H
  obtain ⟨⟨t273,t274,t275⟩,A60,H⟩:=H
  replace H : (if t275 = t272 then (some (x5_1,true)) else (impl_CalmTurn.l0 k1 t273 t272 (wrap64 (x5_1 + 1)))) = some (r1,r2):=H
  have A6:=Aside0.mk A60
  clear A60
  by_cases c7 : t275 = t272
  ·rw [if_pos c7] at H
   have c7b0 : (t275 == t272) = true:=beq_iff_eq.mpr c7
   have c7b1 : (t275 != t272) = false:=bne_eq_false_iff_eq.mpr c7
   clear c7
   simp only [Option.some.injEq,Prod.mk.injEq] at H
   obtain ⟨rfl,rfl⟩:=H
   obtain ⟨Ao8,co8,eo8⟩:=Kd.V_slice HO_0.out
   subst eo8
   go_wp2_with (first|((with_reducible refine gate_callee (f:=48) rfl ?_);refine goesL_ (some 18) rfl rfl Try.func48 (by kernel_rfl) rfl #[.slice Ao8 x0_1.length co8] rfl (by (try simp only [List.map_toArray,List.map_cons,List.map_nil]);first|done|rfl|(simp only [List.length_drop,List.length_take];rfl)) ?_;(with_reducible refine (impl_turn.calls k1 _ _ x0_1 t273 t274 t275 _ ?side1 ?side2 A6.out).mono ?_);(case side1=>exact cm (Kd.V_reads' HO_0.out).2.2);(case side2=>exact (Kd.V_reads' HO_0.out).2.1);rintro e w9 ⟨v276,v278,rfl,ho0,ho1,hb⟩;refine ⟨_,rfl,?_⟩;have n0_:=Aside0.mk (Kd.V_mono (Kd.V_told (Kd.V_told (Kd.V_old (vm HO_0.out) hb) (R_base ho0)) (R_base ho1)) (fun _ h_=>h_.1));have n1_:=Aside0.mk (R_lower (R_newM (M:=fun k_=>(w.heap.size ≤ k_)) ho0 (below_size (hm HB.out)) (fun k_ h_=>h_)) (below_size (hm HB.out)));have n2_:=Aside0.mk (R_lower (R_newM (M:=fun k_=>(w.heap.size ≤ k_)) ho1 (below_size (hm HB.out)) (fun k_ h_=>h_)) (below_size (hm HB.out)));have n3_:=Aside0.mk (below_step (hm HB.out) hb);clear HO_0;clear HB;have HO_0:=n0_;have HO277:=n1_;have HO279:=n2_;have HB:=n3_;clear n0_ n1_ n2_ n3_;(try clear hb);(try clear hb2);(try clear hk);(try clear hi);(try clear ho0);(try clear ho1)))
   go_ret2
   exact ⟨by first|rfl|(simp [errW_none,errW_some] <;> rfl)|(simp [*,errW_none,errW_some] <;> rfl),hm HB.out⟩
  rw [if_neg c7] at H
  have c7b0 : (t275 == t272) = false:=beq_eq_false_iff_ne.mpr c7
  have c7b1 : (t275 != t272) = true:=bne_iff_ne.mpr c7
  have H':=Aside0.mk H
  clear H
  obtain ⟨Ao10,co10,eo10⟩:=Kd.V_slice HO_0.out
  subst eo10
  go_wp2_with (first|((with_reducible refine gate_callee (f:=48) rfl ?_);refine goesL_ (some 18) rfl rfl Try.func48 (by kernel_rfl) rfl #[.slice Ao10 x0_1.length co10] rfl (by (try simp only [List.map_toArray,List.map_cons,List.map_nil]);first|done|rfl|(simp only [List.length_drop,List.length_take];rfl)) ?_;(with_reducible refine (impl_turn.calls k1 _ _ x0_1 t273 t274 t275 _ ?side1 ?side2 A6.out).mono ?_);(case side1=>exact cm (Kd.V_reads' HO_0.out).2.2);(case side2=>exact (Kd.V_reads' HO_0.out).2.1);rintro e w11 ⟨v276,v278,rfl,ho0,ho1,hb⟩;refine ⟨_,rfl,?_⟩;have n0_:=Aside0.mk (Kd.V_mono (Kd.V_told (Kd.V_told (Kd.V_old (vm HO_0.out) hb) (R_base ho0)) (R_base ho1)) (fun _ h_=>h_.1));have n1_:=Aside0.mk (R_lower (R_newM (M:=fun k_=>(w.heap.size ≤ k_)) ho0 (below_size (hm HB.out)) (fun k_ h_=>h_)) (below_size (hm HB.out)));have n2_:=Aside0.mk (R_lower (R_newM (M:=fun k_=>(w.heap.size ≤ k_)) ho1 (below_size (hm HB.out)) (fun k_ h_=>h_)) (below_size (hm HB.out)));have n3_:=Aside0.mk (below_step (hm HB.out) hb);clear HO_0;clear HB;have HO_0:=n0_;have HO277:=n1_;have HO279:=n2_;have HB:=n3_;clear n0_ n1_ n2_ n3_;(try clear hb);(try clear hb2);(try clear hk);(try clear hi);(try clear ho0);(try clear ho1)))
  go_roundg k1
  case measure=>have:=HK1.out;omega
  case rel=>exact ⟨(t273),(wrap64 (x5_1 + 1)),(by first|rfl|(simp;done)|(simp [*];done)),H',⟨by have:=HK1.out;omega⟩,⟨Kd.V_mono (R_V (rm HO277.out)) (fun k_ hk=>by exact (.inr (hk.1)))⟩,⟨hm HB.out⟩⟩

/-! ### spec_CarPlaces: function 33 -/
mutual
def spec_CarPlaces.l0 : Nat → List Int → Int → List Int → Int → Option (List Int × Bool)
 | 0,_,_,_,_=>none
 | k + 1,x0,x1,x6,x7=>if x7 < (x0.length : Int) then (if 0 ≤ x7 then (if (rd x0 x7) = 1 then (if x6.length < 17592186044416 then (spec_CarPlaces.l0 k x0 x1 (x6 ++ [x7]) (wrap64 (x7 + 1))) else (none)) else (spec_CarPlaces.l0 k x0 x1 x6 (wrap64 (x7 + 1)))) else (none)) else ((spec_l1Own.f x0).bind fun t288=>(spec_CarPlaces.l1 k x1 x6 t288 (x0.length : Int) 0))
def spec_CarPlaces.l1 : Nat → Int → List Int → List Int → Int → Int → Option (List Int × Bool)
 | 0,_,_,_,_,_=>none
 | k + 1,x1,x6,x8,x9,x10=>if x10 < x1 then (spec_CarPlaces.l2 k x1 x6 x8 x9 x10 0) else (some (x6,true))
def spec_CarPlaces.l2 : Nat → Int → List Int → List Int → Int → Int → Int → Option (List Int × Bool)
 | 0,_,_,_,_,_,_=>none
 | k + 1,x1,x6,x8,x9,x10,x11=>if x11 < (x6.length : Int) then (if 0 ≤ x11 then (if x9 = 0 then (none) else (if 0 ≤ (Int.tmod (wrap64 ((rd x6 x11) + 1)) x9) then (if (Int.tmod (wrap64 ((rd x6 x11) + 1)) x9) < (x8.length : Int) then (if (rd x8 (Int.tmod (wrap64 ((rd x6 x11) + 1)) x9)) = 0 then (spec_CarPlaces.l2 k x1 (x6.set (x11 : Int).toNat (Int.tmod (wrap64 ((rd x6 x11) + 1)) x9)) x8 x9 x10 (wrap64 (x11 + 1))) else (spec_CarPlaces.l2 k x1 x6 x8 x9 x10 (wrap64 (x11 + 1)))) else (none)) else (none))) else (none)) else ((spec_l8Turn.f k x8).bind fun bt294=>(spec_CarPlaces.l1 k x1 x6 bt294.1 x9 (wrap64 (x10 + 1))))
end
def spec_CarPlaces.f (k : Nat) (l0 : List Int) (a1 : Int) : Option (List Int × Bool):=(some (([] : List Int) : List Int)).bind fun y280=>((spec_l8Turns.f k l0 a1).bind fun t283=>(if t283 = true then (spec_CarPlaces.l0 k l0 a1 y280 0) else (some (y280,false))))
theorem spec_CarPlaces.mono_l : ∀ k,(∀ y0 y1 y2 y3,LeO (spec_CarPlaces.l0 k y0 y1 y2 y3) (spec_CarPlaces.l0 (k + 1) y0 y1 y2 y3)) ∧ (∀ y0 y1 y2 y3 y4,LeO (spec_CarPlaces.l1 k y0 y1 y2 y3 y4) (spec_CarPlaces.l1 (k + 1) y0 y1 y2 y3 y4)) ∧ (∀ y0 y1 y2 y3 y4 y5,LeO (spec_CarPlaces.l2 k y0 y1 y2 y3 y4 y5) (spec_CarPlaces.l2 (k + 1) y0 y1 y2 y3 y4 y5))
 | 0=>⟨fun _ _ _ _ r h=>by simp [spec_CarPlaces.l0] at h,fun _ _ _ _ _ r h=>by simp [spec_CarPlaces.l1] at h,fun _ _ _ _ _ _ r h=>by simp [spec_CarPlaces.l2] at h⟩
 | k + 1=>by
  obtain ⟨ih0,ih1,ih2⟩:=spec_CarPlaces.mono_l k
  refine ⟨?_,?_,?_⟩
  ·intro y0 y1 y2 y3
   unfold spec_CarPlaces.l0
   repeat' first
   | (with_reducible exact ih0 _ _ _ _)
   | (with_reducible exact ih1 _ _ _ _ _)
   | (with_reducible exact ih2 _ _ _ _ _ _)
   | (with_reducible exact spec_l8Turn.mono _ _)
   | (with_reducible exact spec_l8Turns.mono _ _ _)
   | (with_reducible exact LeO.refl _)
   | (with_reducible exact LeO.none _)
   | (with_reducible refine LeO.ite ?_ ?_)
   | (with_reducible refine LeO.bind ?_ (fun _=>?_))
   | exact ih0 _ _ _ _
   | exact ih1 _ _ _ _ _
   | exact ih2 _ _ _ _ _ _
   | exact spec_l8Turn.mono _ _
   | exact spec_l8Turns.mono _ _ _
   | exact LeO.none _
   | refine LeO.ite ?_ ?_
   | refine LeO.bind ?_ (fun _=>?_)
  ·intro y0 y1 y2 y3 y4
   unfold spec_CarPlaces.l1
   repeat' first
   | (with_reducible exact ih0 _ _ _ _)
   | (with_reducible exact ih1 _ _ _ _ _)
   | (with_reducible exact ih2 _ _ _ _ _ _)
   | (with_reducible exact spec_l8Turn.mono _ _)
   | (with_reducible exact spec_l8Turns.mono _ _ _)
   | (with_reducible exact LeO.refl _)
   | (with_reducible exact LeO.none _)
   | (with_reducible refine LeO.ite ?_ ?_)
   | (with_reducible refine LeO.bind ?_ (fun _=>?_))
   | exact ih0 _ _ _ _
   | exact ih1 _ _ _ _ _
   | exact ih2 _ _ _ _ _ _
   | exact spec_l8Turn.mono _ _
   | exact spec_l8Turns.mono _ _ _
   | exact LeO.none _
   | refine LeO.ite ?_ ?_
   | refine LeO.bind ?_ (fun _=>?_)
  ·intro y0 y1 y2 y3 y4 y5
   unfold spec_CarPlaces.l2
   repeat' first
   | (with_reducible exact ih0 _ _ _ _)
   | (with_reducible exact ih1 _ _ _ _ _)
   | (with_reducible exact ih2 _ _ _ _ _ _)
   | (with_reducible exact spec_l8Turn.mono _ _)
   | (with_reducible exact spec_l8Turns.mono _ _ _)
   | (with_reducible exact LeO.refl _)
   | (with_reducible exact LeO.none _)
   | (with_reducible refine LeO.ite ?_ ?_)
   | (with_reducible refine LeO.bind ?_ (fun _=>?_))
   | exact ih0 _ _ _ _
   | exact ih1 _ _ _ _ _
   | exact ih2 _ _ _ _ _ _
   | exact spec_l8Turn.mono _ _
   | exact spec_l8Turns.mono _ _ _
   | exact LeO.none _
   | refine LeO.ite ?_ ?_
   | refine LeO.bind ?_ (fun _=>?_)
theorem spec_CarPlaces.mono : ∀ a0 a1 k,LeO (spec_CarPlaces.f k a0 a1) (spec_CarPlaces.f (k + 1) a0 a1):=by
 intro a0 a1 k
 obtain ⟨ih0,ih1,ih2⟩:=spec_CarPlaces.mono_l k
 unfold spec_CarPlaces.f
 repeat' first
   | (with_reducible exact ih0 _ _ _ _)
   | (with_reducible exact ih1 _ _ _ _ _)
   | (with_reducible exact ih2 _ _ _ _ _ _)
   | (with_reducible exact spec_l8Turn.mono _ _)
   | (with_reducible exact spec_l8Turns.mono _ _ _)
   | (with_reducible exact LeO.refl _)
   | (with_reducible exact LeO.none _)
   | (with_reducible refine LeO.ite ?_ ?_)
   | (with_reducible refine LeO.bind ?_ (fun _=>?_))
   | exact ih0 _ _ _ _
   | exact ih1 _ _ _ _ _
   | exact ih2 _ _ _ _ _ _
   | exact spec_l8Turn.mono _ _
   | exact spec_l8Turns.mono _ _ _
   | exact LeO.none _
   | refine LeO.ite ?_ ?_
   | refine LeO.bind ?_ (fun _=>?_)
set_option maxHeartbeats 8000000 in
set_option maxRecDepth 100000 in
theorem spec_CarPlaces.calls (k : Nat) (A0 : Option Addr) (c0 : Nat) (l0 : List Int) (a1 : Int) (r1 : List Int) (r2 : Bool) (w : World) (hr0 : Kd.C (Kd.int .i64) w A0 l0.length l0) (hc0 : l0.length ≤ c0) (h : spec_CarPlaces.f k l0 a1 = some (r1,r2)) :
  Calls Try.prog 33 #[.slice A0 l0.length c0,.int .i64 a1] w fun e w'=>∃ v0_ : Value,e = .returned (.tuple #[v0_,.bool r2]) ∧ Kd.R (Kd.int .i64) 3 w' w.heap.size (fun _=>True) v0_ r1 ∧ Below w.heap.size w w':=by
 have HR0:=Aside0.mk hr0
 have HC0:=Aside0.mk hc0
 clear hr0 hc0
 have HB:=Aside0.mk (Below.refl w.heap.size w)
 have H : ((some (([] : List Int) : List Int)).bind fun y280=>((spec_l8Turns.f k l0 a1).bind fun t283=>(if t283 = true then (spec_CarPlaces.l0 k l0 a1 y280 0) else (some (y280,false))))) = some (r1,r2):=h
 clear h
 obtain ⟨y280,hy280⟩ : ∃ y_ : List Int,y_ = (([] : List Int)):=⟨_,rfl⟩
 replace H : ((spec_l8Turns.f k l0 a1).bind fun t283=>(if t283 = true then (spec_CarPlaces.l0 k l0 a1 y280 0) else (some (y280,false)))) = some (r1,r2):=by first|(rw [hy280];with_reducible exact H)|(have H2_:=(Option.bind_some _ _).symm.trans H;rw [hy280];with_reducible exact H2_)|(have H2_:=(Option.bind_some _ _).symm.trans H;with_reducible exact H2_)|with_reducible exact H|(rw [hy280];exact H)|exact H
 have Ny280:=Aside0.mk hy280
 clear hy280
 replace H:=Option.bind_eq_some_iff.mp H
 obtain ⟨t283,A30,H⟩:=H
 replace H : (if t283 = true then (spec_CarPlaces.l0 k l0 a1 y280 0) else (some (y280,false))) = some (r1,r2):=H
 have A3:=Aside0.mk A30
 clear A30
 by_cases c4 : t283 = true
 rotate_left
 ·replace c4:=Bool.eq_false_iff.mpr c4
  subst c4
  have H1 : (some (y280,false)) = some (r1,r2):=by rw [if_neg (show ¬ (false = true) by decide)] at H;exact H
  clear H
  have H:=H1
  clear H1
  simp only [Option.some.injEq,Prod.mk.injEq] at H
  obtain ⟨rfl,rfl⟩:=H
  go_enter Try.func33,Try.ntmps33
  go_wp2_with (first|((with_reducible refine gate_dst (N:=13) rfl ?_);refine R_lit (Kd.int .i64) _ 3 ?hg (N:=13) ?hd (xs:=([] : List Int)) (inner:=[]) (ok:=fun _=>True) (okp:=fun _=>True) ?hr ?hp (fun _ hk=>hk) trivial (Below.refl _ _) (Nat.le_refl _) (by simp) ?_;(case hd=>rfl);(case hg=>rfl);(case hr=>first|(go_simp;done)|(go_simp;rfl));(case hp=>exact (Reps.none _ _));intro v281 w33 ho34 hb hg_ hnew_;clear hg_ hnew_;(first|rw [← Ny280.out] at ho34|(simp only [Int.reduceToNat] at ho34;rw [← Ny280.out] at ho34));have n0_:=Aside0.mk (R_lower ho34 (below_size (hm HB.out)));have n1_:=Aside0.mk (below_step (hm HB.out) hb);clear HB;have HO282:=n0_;have HB:=n1_;clear n0_ n1_;clear hb ho34)|((with_reducible refine gate_callee (f:=50) rfl ?_);refine goesL_ (some 16) rfl rfl Try.func50 (by kernel_rfl) rfl #[.slice A0 l0.length c0,.int .i64 a1] rfl (by (try simp only [List.map_toArray,List.map_cons,List.map_nil]);first|done|rfl|(simp only [List.length_drop,List.length_take];rfl)) ?_;(with_reducible refine (spec_l8Turns.calls k _ _ l0 a1 false _ ?side1 ?side2 A3.out).mono ?_);(case side1=>exact cm (C_below HR0.out HB.out));(case side2=>exact HC0.out);rintro e w' ⟨rfl,⟨nd,rfl⟩⟩;refine ⟨_,rfl,?_⟩))
  go_ret2
  exact ⟨_,by first|rfl|(simp [errW_none,errW_some] <;> rfl)|(simp [*,errW_none,errW_some] <;> rfl),rm HO282.out,hm HB.out⟩
 subst c4
 have H1 : (spec_CarPlaces.l0 k l0 a1 y280 0) = some (r1,r2):=by rw [if_pos rfl] at H;exact H
 clear H
 have H:=H1
 clear H1
 have H':=Aside0.mk H
 clear H
 go_enter Try.func33,Try.ntmps33
 go_wp2_with (first|((with_reducible refine gate_dst (N:=13) rfl ?_);refine R_lit (Kd.int .i64) _ 3 ?hg (N:=13) ?hd (xs:=([] : List Int)) (inner:=[]) (ok:=fun _=>True) (okp:=fun _=>True) ?hr ?hp (fun _ hk=>hk) trivial (Below.refl _ _) (Nat.le_refl _) (by simp) ?_;(case hd=>rfl);(case hg=>rfl);(case hr=>first|(go_simp;done)|(go_simp;rfl));(case hp=>exact (Reps.none _ _));intro v281 w5 ho6 hb hg_ hnew_;clear hg_ hnew_;(first|rw [← Ny280.out] at ho6|(simp only [Int.reduceToNat] at ho6;rw [← Ny280.out] at ho6));have n0_:=Aside0.mk (R_lower ho6 (below_size (hm HB.out)));have n1_:=Aside0.mk (below_step (hm HB.out) hb);clear HB;have HO282:=n0_;have HB:=n1_;clear n0_ n1_;clear hb ho6)|((with_reducible refine gate_callee (f:=50) rfl ?_);refine goesL_ (some 16) rfl rfl Try.func50 (by kernel_rfl) rfl #[.slice A0 l0.length c0,.int .i64 a1] rfl (by (try simp only [List.map_toArray,List.map_cons,List.map_nil]);first|done|rfl|(simp only [List.length_drop,List.length_take];rfl)) ?_;(with_reducible refine (spec_l8Turns.calls k _ _ l0 a1 true _ ?side1 ?side2 A3.out).mono ?_);(case side1=>exact cm (C_below HR0.out HB.out));(case side2=>exact HC0.out);rintro e w' ⟨rfl,⟨nd,rfl⟩⟩;refine ⟨_,rfl,?_⟩))
 go_loopg [6,7] k (fun kq v6 v7 w'=>∃ (x6_1 : List Int) (x7_1 : Int),v7 = .int .i64 x7_1 ∧ Aside0 (spec_CarPlaces.l0 kq l0 a1 x6_1 x7_1 = some (r1,r2)) ∧ Aside0 (kq ≤ k) ∧ Aside0 (Kd.R (Kd.int .i64) 3 w' w.heap.size (fun _=>True) v6 x6_1) ∧ Aside0 (Below w.heap.size w w'))
 case atStart=>exact ⟨(y280),(0),(by first|rfl|(simp;done)|(simp [*];done)),H',⟨Nat.le_refl _⟩,⟨rm HO282.out⟩,⟨hm HB.out⟩⟩
 clear H'
 try clear p2
 try clear c3
 try clear c4
 try clear c5
 obtain ⟨x6_1,x7_1,rfl,HA,HK1,HO_6,HB⟩:=hrel
 cases gk with
 | zero=>exact absurd HA.out (by simp [spec_CarPlaces.l0])
 | succ k1 =>
  have H:=HA.out
  clear HA
  simp only [spec_CarPlaces.l0] at H
  by_cases c7 : x7_1 < (l0.length : Int)
  ·rw [if_pos c7] at H
   have c7b0 : decide (x7_1 < (l0.length : Int)) = true:=decide_eq_true c7
   clear c7
   by_cases c8 : 0 ≤ x7_1
   rotate_left
   ·rw [if_neg c8] at H
    exact absurd H (by simp)
   rw [if_pos c8] at H
   have c8b0 : decide (0 ≤ x7_1) = true:=decide_eq_true c8
   clear c8
   by_cases c9 : (rd l0 x7_1) = 1
   rotate_left
   ·rw [if_neg c9] at H
    have c9b0 : ((rd l0 x7_1) == 1) = false:=beq_eq_false_iff_ne.mpr c9
    have c9b1 : ((rd l0 x7_1) != 1) = true:=bne_iff_ne.mpr c9
    have H':=Aside0.mk H
    clear H
    have p284 : 0 ≤ (x7_1 : Int):=od
    have q284 : x7_1 < (l0.length : Int):=od
    obtain ⟨ad284,e284,hx284_0⟩:=Kd.at_int HR0.out x7_1 p284 q284
    cases e284
    replace hx284_0:=(HB.out.cell (World.block_lt_of_cell? w _ hx284_0)).trans hx284_0
    replace p284:=eq_true p284
    replace q284:=eq_true q284
    go_wp2
    go_roundg k1
    case measure=>have:=HK1.out;omega
    case rel=>exact ⟨(x6_1),(wrap64 (x7_1 + 1)),(by first|rfl|(simp;done)|(simp [*];done)),H',⟨by have:=HK1.out;omega⟩,⟨rm HO_6.out⟩,⟨hm HB.out⟩⟩
   rw [if_pos c9] at H
   have c9b0 : ((rd l0 x7_1) == 1) = true:=beq_iff_eq.mpr c9
   have c9b1 : ((rd l0 x7_1) != 1) = false:=bne_eq_false_iff_eq.mpr c9
   clear c9
   by_cases c10 : x6_1.length < 17592186044416
   rotate_left
   ·rw [if_neg c10] at H
    exact absurd H (by simp)
   rw [if_pos c10] at H
   have LMc10:=Aside0.mk c10
   clear c10
   obtain ⟨y285,hy285⟩ : ∃ y_ : List Int,y_ = (x6_1 ++ [x7_1]):=⟨_,rfl⟩
   replace H : (spec_CarPlaces.l0 k1 l0 a1 y285 (wrap64 (x7_1 + 1))) = some (r1,r2):=by first|(rw [hy285];with_reducible exact H)|(have H2_:=(Option.bind_some _ _).symm.trans H;rw [hy285];with_reducible exact H2_)|(have H2_:=(Option.bind_some _ _).symm.trans H;with_reducible exact H2_)|with_reducible exact H|(rw [hy285];exact H)|exact H
   have Ny285:=Aside0.mk hy285
   clear hy285
   have H':=Aside0.mk H
   clear H
   have p284 : 0 ≤ (x7_1 : Int):=od
   have q284 : x7_1 < (l0.length : Int):=od
   obtain ⟨ad284,e284,hx284_0⟩:=Kd.at_int HR0.out x7_1 p284 q284
   cases e284
   replace hx284_0:=(HB.out.cell (World.block_lt_of_cell? w _ hx284_0)).trans hx284_0
   replace p284:=eq_true p284
   replace q284:=eq_true q284
   go_wp2_with (first|((with_reducible refine gate_builtin (b:=.append) (xs:=#[.tmp 30,.tmp 32]) rfl ?_);at_builtin;refine R_append (Kd.int .i64) (w0:=w) w.heap.size rfl (.tmp 30) (.tmp 32) 22 3 (.int .i64 0) 8 rfl Try.underlying22 info3 rfl (by decide) (by omega) u6 x6_1 x7_1 [.int .i64 x7_1] (fun _=>True) (fun _=>False) rfl rfl ?aP (fun _ hk=>hk.elim) ?aF ?aO ?aB ?aS ?aL ?_;(case aP=>exact rfl);(case aB=>exact (hm HB.out));(case aF=>exact (fun _ _=>trivial));(case aO=>exact (rm HO_6.out));(case aS=>exact (below_size (hm HB.out)));(case aL=>have:=LMc10.out;omega);intro v286 w11 ho hb hg hat;rw [← Ny285.out] at ho;have n0_:=Aside0.mk (hb);have n1_:=Aside0.mk (ho);clear HB;clear HO_6;have HB:=n0_;have HO287:=n1_;clear n0_ n1_;clear ho hb hg hat))
   go_roundg k1
   case measure=>have:=HK1.out;omega
   case rel=>exact ⟨(y285),(wrap64 (x7_1 + 1)),(by first|rfl|(simp;done)|(simp [*];done)),H',⟨by have:=HK1.out;omega⟩,⟨rm HO287.out⟩,⟨hm HB.out⟩⟩
  rw [if_neg c7] at H
  have c7b0 : decide (x7_1 < (l0.length : Int)) = false:=decide_eq_false c7
  clear c7
  replace H:=Option.bind_eq_some_iff.mp H
  obtain ⟨t288,A120,H⟩:=H
  replace H : (spec_CarPlaces.l1 k1 a1 x6_1 t288 (l0.length : Int) 0) = some (r1,r2):=H
  have A12:=Aside0.mk A120
  clear A120
  have H':=Aside0.mk H
  clear H
  go_wp2_with (first|((with_reducible refine gate_callee (f:=51) rfl ?_);refine goesL_ (some 35) rfl rfl Try.func51 (by kernel_rfl) rfl #[.slice A0 l0.length c0] rfl (by (try simp only [List.map_toArray,List.map_cons,List.map_nil]);first|done|rfl|(simp only [List.length_drop,List.length_take];rfl)) ?_;(with_reducible refine (spec_l1Own.calls _ _ l0 t288 _ ?side1 ?side2 A12.out).mono ?_);(case side1=>exact cm (C_below HR0.out HB.out));(case side2=>exact HC0.out);rintro e w13 ⟨v289,rfl,ho0,hb⟩;refine ⟨_,rfl,?_⟩;have n0_:=Aside0.mk (R_elder' (rm HO_6.out) (R_base ho0) hb);have n1_:=Aside0.mk (R_lower (R_new' ho0 (R_lt (rm HO_6.out))) (below_size (hm HB.out)));have n2_:=Aside0.mk (below_step (hm HB.out) hb);clear HO_6;clear HB;have HO_6:=n0_;have HO290:=n1_;have HB:=n2_;clear n0_ n1_ n2_;(try clear hb);(try clear hb2);(try clear hk);(try clear hi);(try clear ho0)))
  go_loopg [8,10] k1 (fun kq v8 v10 w'=>∃ (x6_2 : List Int) (x8_2 : List Int) (x10_2 : Int),v10 = .int .i64 x10_2 ∧ Aside0 (spec_CarPlaces.l1 kq a1 x6_2 x8_2 (l0.length : Int) x10_2 = some (r1,r2)) ∧ Aside0 (kq ≤ k1) ∧ Aside0 (Kd.R (Kd.int .i64) 3 w' w.heap.size (fun k_=>some k_ ≠ (v8 : Value).ownBlock) u6 x6_2) ∧ Aside0 (Kd.R (Kd.int .i64) 3 w' w.heap.size (fun k_=>some k_ ≠ (u6 : Value).ownBlock) v8 x8_2) ∧ Aside0 (Below w.heap.size w w'))
  case atStart=>exact ⟨(x6_1),(t288),(0),(by first|rfl|(simp;done)|(simp [*];done)),H',⟨Nat.le_refl _⟩,⟨rm (R_mono HO_6.out (fun _ hk=>hk.2))⟩,⟨rm (R_mono HO290.out (fun _ hk=>hk.2))⟩,⟨hm HB.out⟩⟩
  clear H'
  try clear c1
  try clear p2
  try clear q2
  try clear hx2
  try clear c3
  try clear c4
  try clear c5
  try clear p6
  try clear c7
  try clear c7b0
  try clear c8
  try clear c8b0
  try clear c9
  try clear c9b0
  try clear c9b1
  try clear c10
  try clear hx284_0
  try clear p2
  try clear p284
  try clear q284
  obtain ⟨x6_2,x8_2,x10_2,rfl,HA,HK2,HO_6,HO_8,HB⟩:=hrel
  cases gk with
  | zero=>exact absurd HA.out (by simp [spec_CarPlaces.l1])
  | succ k2 =>
   have H:=HA.out
   clear HA
   simp only [spec_CarPlaces.l1] at H
   by_cases c14 : x10_2 < a1
   rotate_left
   ·rw [if_neg c14] at H
    have c14b0 : decide (x10_2 < a1) = false:=decide_eq_false c14
    clear c14
    simp only [Option.some.injEq,Prod.mk.injEq] at H
    obtain ⟨rfl,rfl⟩:=H
    go_wp2
    go_ret2
    exact ⟨_,by first|rfl|(simp [errW_none,errW_some] <;> rfl)|(simp [*,errW_none,errW_some] <;> rfl),rm (R_mono HO_6.out (fun _ hk=>trivial)),hm HB.out⟩
   rw [if_pos c14] at H
   have c14b0 : decide (x10_2 < a1) = true:=decide_eq_true c14
   clear c14
   have H':=Aside0.mk H
   clear H
   go_wp2
   go_loopg [11] k2 (fun kq v11 w'=>∃ (x6_3 : List Int) (x11_3 : Int),v11 = .int .i64 x11_3 ∧ Aside0 (spec_CarPlaces.l2 kq a1 x6_3 x8_2 (l0.length : Int) x10_2 x11_3 = some (r1,r2)) ∧ Aside0 (kq ≤ k2) ∧ Aside0 (Kd.R (Kd.int .i64) 3 w' w.heap.size (fun k_=>some k_ ≠ (u8 : Value).ownBlock) u6 x6_3) ∧ Aside0 (Kd.R (Kd.int .i64) 3 w' w.heap.size (fun k_=>some k_ ≠ (u6 : Value).ownBlock) u8 x8_2) ∧ Aside0 (Below w.heap.size w w'))
   case atStart=>exact ⟨(x6_2),(0),(by first|rfl|(simp;done)|(simp [*];done)),H',⟨Nat.le_refl _⟩,⟨rm HO_6.out⟩,⟨rm HO_8.out⟩,⟨hm HB.out⟩⟩
   clear H'
   try clear c1
   try clear p2
   try clear q2
   try clear hx2
   try clear c3
   try clear c4
   try clear c5
   try clear p6
   try clear c7
   try clear c7b0
   try clear c8
   try clear c8b0
   try clear c9
   try clear c9b0
   try clear c9b1
   try clear c10
   try clear c14
   try clear c14b0
   try clear hx284_0
   try clear p2
   try clear p284
   try clear p6
   try clear q2
   try clear q284
   obtain ⟨x6_3,x11_3,rfl,HA,HK3,HO_6,HO_8,HB⟩:=hrel
   cases gk with
   | zero=>exact absurd HA.out (by simp [spec_CarPlaces.l2])
   | succ k3 =>
    have H:=HA.out
    clear HA
    simp only [spec_CarPlaces.l2] at H
    by_cases c15 : x11_3 < (x6_3.length : Int)
    rotate_left
    ·rw [if_neg c15] at H
     have c15b0 : decide (x11_3 < (x6_3.length : Int)) = false:=decide_eq_false c15
     clear c15
     replace H:=Option.bind_eq_some_iff.mp H
     obtain ⟨⟨t294,t295⟩,A290,H⟩:=H
     replace H : (spec_CarPlaces.l1 k3 a1 x6_3 t294 (l0.length : Int) (wrap64 (x10_2 + 1))) = some (r1,r2):=H
     have A29:=Aside0.mk A290
     clear A290
     have H':=Aside0.mk H
     clear H
     obtain ⟨Ao30,co30,eo30⟩:=R_slice HO_6.out
     subst eo30
     obtain ⟨Ao31,co31,eo31⟩:=R_slice HO_8.out
     subst eo31
     go_wp2_with (first|((with_reducible refine gate_callee (f:=49) rfl ?_);refine goesL_ (some 67) rfl rfl Try.func49 (by kernel_rfl) rfl #[.slice Ao31 x8_2.length co31] rfl (by (try simp only [List.map_toArray,List.map_cons,List.map_nil]);first|done|rfl|(simp only [List.length_drop,List.length_take];rfl)) ?_;(with_reducible refine (spec_l8Turn.calls k3 _ _ x8_2 t294 t295 _ ?side1 ?side2 A29.out).mono ?_);(case side1=>exact cm (R_reads' HO_8.out).2.2);(case side2=>exact (R_reads' HO_8.out).2.1);rintro e w32 ⟨v296,rfl,ho0,hb⟩;refine ⟨_,rfl,?_⟩;have n0_:=Aside0.mk (R_elder' (rm HO_6.out) (R_base ho0) hb);have n1_:=Aside0.mk (R_elder' (rm HO_8.out) (R_base ho0) hb);have n2_:=Aside0.mk (R_lower (R_new' (R_new' ho0 (R_lt (rm HO_6.out))) (R_lt (rm HO_8.out))) (below_size (hm HB.out)));have n3_:=Aside0.mk (below_step (hm HB.out) hb);clear HO_6;clear HO_8;clear HB;have HO_6:=n0_;have HO_8:=n1_;have HO297:=n2_;have HB:=n3_;clear n0_ n1_ n2_ n3_;(try clear hb);(try clear hb2);(try clear hk);(try clear hi);(try clear ho0)))
     go_roundg k3
     case measure=>have:=HK1.out;have:=HK2.out;have:=HK3.out;omega
     case rel=>exact ⟨(x6_3),(t294),(wrap64 (x10_2 + 1)),(by first|rfl|(simp;done)|(simp [*];done)),H',⟨by have:=HK1.out;have:=HK2.out;have:=HK3.out;omega⟩,⟨rm (R_mono HO_6.out (fun _ hk=>hk.2))⟩,⟨rm (R_mono HO297.out (fun _ hk=>hk.1.2))⟩,⟨hm HB.out⟩⟩
    rw [if_pos c15] at H
    have c15b0 : decide (x11_3 < (x6_3.length : Int)) = true:=decide_eq_true c15
    clear c15
    by_cases c16 : 0 ≤ x11_3
    rotate_left
    ·rw [if_neg c16] at H
     exact absurd H (by simp)
    rw [if_pos c16] at H
    have c16b0 : decide (0 ≤ x11_3) = true:=decide_eq_true c16
    clear c16
    by_cases c17 : (l0.length : Int) = 0
    ·rw [if_pos c17] at H
     exact absurd H (by simp)
    rw [if_neg c17] at H
    have c17b0 : ((l0.length : Int) == 0) = false:=beq_eq_false_iff_ne.mpr c17
    have c17b1 : ((l0.length : Int) != 0) = true:=bne_iff_ne.mpr c17
    have c17b2 : ¬ (l0 = []):=fun h_=>c17 (by rw [h_];rfl)
    obtain ⟨ji18,hji18⟩ : ∃ j_ : Int,(Int.tmod (wrap64 ((rd x6_3 x11_3) + 1)) (l0.length : Int)) = j_:=⟨_,rfl⟩
    replace H : (if 0 ≤ (ji18) then (if (ji18) < (x8_2.length : Int) then (if (rd x8_2 (ji18)) = 0 then (spec_CarPlaces.l2 k3 a1 (x6_3.set (x11_3 : Int).toNat (ji18)) x8_2 (l0.length : Int) x10_2 (wrap64 (x11_3 + 1))) else (spec_CarPlaces.l2 k3 a1 x6_3 x8_2 (l0.length : Int) x10_2 (wrap64 (x11_3 + 1)))) else (none)) else (none)) = some (r1,r2):=by first|(rw [hji18] at H;exact H)|(simp only [hji18] at H ⊢;exact H)
    by_cases c19 : 0 ≤ (ji18)
    rotate_left
    ·rw [if_neg c19] at H
     exact absurd H (by simp)
    rw [if_pos c19] at H
    have c19b0 : decide (0 ≤ (ji18)) = true:=decide_eq_true c19
    clear c19
    by_cases c20 : (ji18) < (x8_2.length : Int)
    rotate_left
    ·rw [if_neg c20] at H
     exact absurd H (by simp)
    rw [if_pos c20] at H
    have c20b0 : decide ((ji18) < (x8_2.length : Int)) = true:=decide_eq_true c20
    clear c20
    by_cases c21 : (rd x8_2 (ji18)) = 0
    rotate_left
    ·rw [if_neg c21] at H
     have c21b0 : ((rd x8_2 (ji18)) == 0) = false:=beq_eq_false_iff_ne.mpr c21
     have c21b1 : ((rd x8_2 (ji18)) != 0) = true:=bne_iff_ne.mpr c21
     have H':=Aside0.mk H
     clear H
     obtain ⟨Ao27,co27,eo27⟩:=R_slice HO_6.out
     subst eo27
     have p291 : 0 ≤ (x11_3 : Int):=od
     have q291 : x11_3 < (x6_3.length : Int):=od
     obtain ⟨ad291,e291,hx291_0⟩:=Kd.at_int (R_reads' HO_6.out).2.2 x11_3 p291 q291
     cases e291
     replace p291:=eq_true p291
     replace q291:=eq_true q291
     obtain ⟨Ao28,co28,eo28⟩:=R_slice HO_8.out
     subst eo28
     have p292 : 0 ≤ ((ji18) : Int):=od
     have q292 : (ji18) < (x8_2.length : Int):=od
     obtain ⟨ad292,e292,hx292_0⟩:=Kd.at_int (R_reads' HO_8.out).2.2 (ji18) p292 q292
     cases e292
     replace p292:=eq_true p292
     replace q292:=eq_true q292
     go_wp2
     go_roundg k3
     case measure=>have:=HK1.out;have:=HK2.out;have:=HK3.out;omega
     case rel=>exact ⟨(x6_3),(wrap64 (x11_3 + 1)),(by first|rfl|(simp;done)|(simp [*];done)),H',⟨by have:=HK1.out;have:=HK2.out;have:=HK3.out;omega⟩,⟨rm HO_6.out⟩,⟨rm HO_8.out⟩,⟨hm HB.out⟩⟩
    rw [if_pos c21] at H
    have c21b0 : ((rd x8_2 (ji18)) == 0) = true:=beq_iff_eq.mpr c21
    have c21b1 : ((rd x8_2 (ji18)) != 0) = false:=bne_eq_false_iff_eq.mpr c21
    clear c21
    obtain ⟨y293,hy293⟩ : ∃ y_ : List Int,y_ = (x6_3.set (x11_3 : Int).toNat (ji18)):=⟨_,rfl⟩
    replace H : (spec_CarPlaces.l2 k3 a1 y293 x8_2 (l0.length : Int) x10_2 (wrap64 (x11_3 + 1))) = some (r1,r2):=by first|(rw [hy293];with_reducible exact H)|(have H2_:=(Option.bind_some _ _).symm.trans H;rw [hy293];with_reducible exact H2_)|(have H2_:=(Option.bind_some _ _).symm.trans H;with_reducible exact H2_)|with_reducible exact H|(rw [hy293];exact H)|exact H
    have Ny293:=Aside0.mk hy293
    clear hy293
    have H':=Aside0.mk H
    clear H
    obtain ⟨Ao23,co23,eo23⟩:=R_slice HO_6.out
    subst eo23
    have p291 : 0 ≤ (x11_3 : Int):=od
    have q291 : x11_3 < (x6_3.length : Int):=od
    obtain ⟨ad291,e291,hx291_0⟩:=Kd.at_int (R_reads' HO_6.out).2.2 x11_3 p291 q291
    cases e291
    replace p291:=eq_true p291
    replace q291:=eq_true q291
    obtain ⟨Ao24,co24,eo24⟩:=R_slice HO_8.out
    subst eo24
    have p292 : 0 ≤ ((ji18) : Int):=od
    have q292 : (ji18) < (x8_2.length : Int):=od
    obtain ⟨ad292,e292,hx292_0⟩:=Kd.at_int (R_reads' HO_8.out).2.2 (ji18) p292 q292
    cases e292
    replace p292:=eq_true p292
    replace q292:=eq_true q292
    have p22 : 0 ≤ (x11_3 : Int):=od
    have q22 : (x11_3 : Int) < ((x6_3.length : Int) : Int):=od
    obtain ⟨go22,co22,eo22,gb22,gl22,cl22,HG22⟩:=R_form HO_6.out (by omega)
    (first|cases eo22|(injection eo22 with ea_ en_ ec_;(first|subst ea_|(injection ea_ with ea_;subst ea_));subst ec_;clear en_))
    have GB22:=Aside0.mk gb22
    have GG22:=Aside0.mk HG22
    clear gb22 gl22 HG22
    (first|simp only [add_plain] at hx291_0|skip)
    obtain ⟨hx22_0,hf22_0⟩:=R_celln 0 HO_6.out (x11_3 : Int) p22 q22
    replace p22:=eq_true p22
    replace q22:=eq_true q22
    have HP25:=R_putg HO_6.out (x11_3 : Int) ji18
    go_wp2_with (first|((with_reducible refine gate_store (t:=3) (p:=64) rfl ?_);refine store_event (t:=3) (p:=64) (v:=?vo_w26) (w1:=(wr.setCell ⟨go22,(x11_3 : Int).toNat,none⟩ (.int .i64 ji18))) ?hg ?ho ?hn ?hr ?_;(case ho=>rfl);(case hg=>rfl);(case hn=>rfl);(case hr=>first|(go_simp;done)|(go_simp;rfl));intro w26 hw;have hg : wr.grownBy w26 (some go22):=(by rw [hw];exact HP25.2);have hp_ : Kd.R (Kd.int .i64) 3 w26 w.heap.size (fun k_=>some k_ ≠ (.slice (some ad292) x8_2.length co24 : Value).ownBlock) (.slice (some ⟨go22,0,none⟩) x6_3.length co23) y293:=(by rw [hw,Ny293.out];exact HP25.1);clear HP25;have n0_:=Aside0.mk (hp_);have n1_:=Aside0.mk (R_after (v:=(.slice (some ⟨go22,0,none⟩) x6_3.length co23)) (v1:=(.slice (some ⟨go22,0,none⟩) x6_3.length co23)) (ok:=(fun _=>True)) (rm (R_mono HO_8.out (fun _ hk=>⟨trivial,hk⟩))) hg (.inl rfl));have n2_:=Aside0.mk ((by rw [hw];exact below_set (HB.out) GB22.out : Below w.heap.size w w26));clear HO_6;clear HO_8;clear HB;have HO_6:=n0_;have HO_8:=n1_;have HB:=n2_;clear n0_ n1_ n2_;clear hg hw hp_))
    go_roundg k3
    case measure=>have:=HK1.out;have:=HK2.out;have:=HK3.out;omega
    case rel=>exact ⟨(y293),(wrap64 (x11_3 + 1)),(by first|rfl|(simp;done)|(simp [*];done)),H',⟨by have:=HK1.out;have:=HK2.out;have:=HK3.out;omega⟩,⟨rm HO_6.out⟩,⟨rm (R_mono HO_8.out (fun _ hk=>hk.2))⟩,⟨hm HB.out⟩⟩


end
end Go.Proofs.Ythkbjcihelmaeaa.QFnLanes
