/- The row of the law FnReaches, out of its left statement (proved beside it) and the walk of its function. No condition. -/
import Derived.Test.YthagkpoinjpmfaaRows
import Derived.Test.YthagkpoinjpmfaaQFnReachesx23c
import Derived.Test.YthagkpoinjpmfaaPureFnReaches
import Derived.Test.YthagkpoinjpmfaaRowAid
import Derived.WalkKit
import Derived.ProofKit
import Derived.OpenShut
import Derived.ShutString
import Derived.ChangeOld
import Derived.Below
import Derived.SizedLaws
import Derived.Lib.SmallJoins
namespace Go.Proofs.Ythagkpoinjpmfaa.fnReaches
open Go.ChangeShapes Go.WideShapes Go.ChangeAt Go.RowKit Go.Proofs.YthagkpoinjpmfaaW.PrintWords
set_option linter.unusedVariables false
theorem own:ownKnob Try.prog.godebug=none:=by kernel_rfl
theorem laidOut:laidOutB Try.prog=true:=by kernel_rfl
set_option maxHeartbeats 2000000 in
set_option maxRecDepth 100000 in
theorem lifted (os:Os) (started:os.Started) (H:Type) (enc:TypeId × Value→H):
    ReturnsInHanded {} Try.checked os 8 .any (Rows.fnReachesSpec.pre6 enc Try.prog Try.f8 Rows.fnReachesRow.domain false) (Rows.fnReachesSpec.post enc Try.prog Try.f8 false true false false):=by
  refine returnsInHanded_of_change_sized (C:=Try.checked) own started (by kernel_rfl) Try.func8
    (ChangeSpec.witness6 (enc:=enc) (C:=Try.checked) false ⟨#[], #[.slice none 0 0],[]⟩ 8 (by kernel_rfl) (by kernel_rfl) (by kernel_rfl) (by kernel_rfl)) ?_
  intro W base args ds gs before hval0 hW hcnd hsz0 _
  have hval:∀ (j:Nat) t v,Try.f8.params[j]? =some t→args[j]? =some v→Value.okWide Try.prog W .any base t v:=hval0
  have hW':=hW
  obtain⟨p,q,hA0,hV,rfl,hfz,hnd⟩:=hW
  have hA:DataW.TrodAll enc Try.prog W 0 (fun _=>true) true Try.f8.params.toList args.toList ds p:=hA0
  rw[Try.params8]at hA hval
  obtain⟨v0,vs0,d0,ds0,p0,q0,hargs,rfl,rfl,h0,r0⟩:=trodAll_cons hA
  obtain⟨rfl,rfl,rfl⟩:=trodAll_nil r0
  obtain rfl:args= #[v0]:=by cases args;simp_all
  obtain⟨rfl,rfl⟩:=trodVars_none hV
  have k0:=h0
  have lt0:∀ x∈p0,x.block<W.heap.size:=by obtain⟨m,hm⟩:=k0;exact DataW.trod_lt m _ _ _ hm
  obtain⟨f0,hf0⟩:=h0
  have x0:=okWide_slice Try.underlying46 (hval 0 46 v0 rfl rfl)
  obtain⟨xa0,xl0,xc0,rfl⟩:=x0
  obtain⟨A0,c0,l0,e0,hc0,hr0,hm0,hw0⟩:=RowAid.field_ints Try.underlying46 Try.underlying5 (by kernel_rfl) (v:= .slice xa0 xl0 xc0) hf0
  obtain⟨rfl,rfl,rfl⟩:A0=xa0∧l0.length=xl0∧c0=xc0:=by simpa using e0.symm
  clear hA0 hval0 hsz0
  obtain⟨k,hk⟩:=Pure.FnReaches l0 hm0 hw0
  refine(QFnReaches.laws_FnReaches.calls (k:=k) (r:=true) (w:=W) (A0:=A0) (c0:=c0) (l0:=l0) (hr0:=hr0) (hc0:=hc0) (h:=hk)).mono fun e W' ⟨he,bel⟩=>?_
  subst he
  exact⟨_,rfl,_,_,_,[],_,[],hW',trodAll_mk1 (shut_bool Try.underlying4 _),(trodAll_cons_mk (Below.trod laidOut (by kernel_rfl) (of_decide_eq_true (by kernel_rfl)) k0 bel lt0) trodAll_mk0),rfl,bel.frame _,fun h=>by cases h⟩
theorem over:Rows.fnReachesRow.holds Try.pinned (OpenSpec.ofChange Rows.fnReachesSpec):=
  OpenClaim.holds_of_wide 8 Try.f8 rfl rfl rfl rfl rfl rfl rfl ⟨rfl,rfl,rfl,rfl,rfl⟩ rfl rfl rfl rfl rfl (by kernel_rfl) Try.func8 (by kernel_rfl)
    (of_decide_eq_true (by kernel_rfl)) (by unfold Func.isWrapper;first|(rw[if_pos (by decide+kernel)];kernel_rfl)|(rw[if_neg (by decide+kernel)];exact⟨rfl,rfl⟩))
    (fun os started H enc _=>lifted os started H enc)
theorem proved:Rows.FnReachesSaid:=over
#print axioms proved
end Go.Proofs.Ythagkpoinjpmfaa.fnReaches
namespace Go.Proofs.Ythagkpoinjpmfaa
theorem fnReaches_holds:Rows.FnReachesSaid:=fnReaches.proved
end Go.Proofs.Ythagkpoinjpmfaa
