/- A map of the call's own, from pairs of whole numbers to whole numbers, told as a table: what a look-up, a store and the map's making come to. No condition. -/
import Derived.Test.YthagkpoinjpmfaaProg
import Derived.Below
import Derived.Deep.Draws
import Derived.Deep.AppendLies
import Derived.Maps.AppendAt
import Derived.OwnWalk
import Derived.Laws.BytesArg
import Derived.Laws.MakeOwn
import Derived.Laws.OwnMore
import Derived.Deep.OwnRows
import Derived.Tactics
import Derived.Lib.ConvBytes
import Derived.Laws.Slices
import Derived.WalkKit
import Derived.KernelRfl
import Derived.RowKit3
import Derived.Deep.LoopGhost
import Derived.Deep.QuietTactic
import Derived.BigQuiet
import Derived.WideLaws
import Derived.Deep.DeepCutAuto
import Derived.Deep.CutBlock
import Derived.Deep.RegionHeld3
import Derived.Laws.Rows
import Derived.Lib.AppendStr
import Derived.ArgAppend
import Derived.Laws.IdiomCopy
import Derived.OrdersHeld
import Derived.Laws.BitsLemmas
import Derived.RowKit
import Derived.Test.YthagkpoinjpmfaaV
import Derived.Maps.OwnSet
import Derived.DeepKeys4
namespace Go.Proofs.Ythagkpoinjpmfaa
open Go.RowKit Go.Maps Go.Proofs.YthagkpoinjpmfaaW.PrintWords Go.Proofs.YthagkpoinjpmfaaW.PrintLast Go.Proofs.YthagkpoinjpmfaaW.PrintMore
set_option linter.unusedVariables false
set_option linter.unusedSimpArgs false
structure Mt where
  f:Int→Int→Int
  n:Nat
def mtE:Mt:=⟨fun _ _=> -1,0⟩
def mt0:Mt:=⟨fun y z=>if y=0∧z=0 then 0 else-1,1⟩
def mapGet.f (m:Mt) (a b:Int):Option (Int × Bool):=if(-9223372036854775808≤a∧a≤9223372036854775807)∧(-9223372036854775808≤b∧b≤9223372036854775807)then some (if m.f a b<0 then 0 else m.f a b,decide (0≤m.f a b))else none
def mapPut.f (m:Mt) (a b v:Int):Option Mt:=if((-9223372036854775808≤a∧a≤9223372036854775807)∧(-9223372036854775808≤b∧b≤9223372036854775807))∧(0≤v∧v≤9223372036854775807)∧m.n<1000000000 then some ⟨fun y z=>if y=a∧z=b then v else m.f y z,m.n+1⟩else none
namespace MapAt
theorem laidOut:laidOutB Try.prog=true:=by kernel_rfl
theorem rowK: (124:TypeId)<Try.prog.types.size:=of_decide_eq_true (by kernel_rfl)
theorem wide: (match Try.prog.underlying 124 with|some (.array _ _)|some (.struct _)=>true|_=>false)=true:=by kernel_rfl
set_option maxRecDepth 100000 in
theorem law:Keyed Try.prog 124:=Keyed.of_law (deep_law_laid laidOut (m:=2) (by omega) rowK (by kernel_rfl) wide)
theorem keyT:Try.prog.keyType 124=true:=by kernel_rfl
theorem cellsK:Try.prog.cellsOf 124=2:=by kernel_rfl
theorem cells3:Try.prog.cellsOf 3=1:=by kernel_rfl
theorem sizeK:0<Try.prog.types.size:=of_decide_eq_true (by kernel_rfl)
theorem zero3 (w:World): (zeroValue 3).run Try.prog w= .ok (.int .i64 0) w:=by kernel_rfl
def kl (a b:Int):Lit:= .string (keyBytes [.int .i64 a, .int .i64 b])
theorem wf_i {x:Int} (h: -9223372036854775808≤x∧x≤9223372036854775807): (Lit.int .i64 x).wf=true:=by
  simp[Lit.wf,IntKind.min,IntKind.max,IntKind.signed,IntKind.bits]
  omega
theorem keyOf_at {a b:Int} (ha: -9223372036854775808≤a∧a≤9223372036854775807) (hb: -9223372036854775808≤b∧b≤9223372036854775807):keyOf Try.prog 124 (.agg #[.int .i64 a, .int .i64 b])=some (kl a b):=by
  have wa:=wf_i ha
  have wb:=wf_i hb
  obtain⟨m,hm⟩:∃ m,Try.prog.types.size=m+2:=⟨Try.prog.types.size-2,by have:1<Try.prog.types.size:=of_decide_eq_true (by kernel_rfl);omega⟩
  have hu:=Try.underlying124
  have h3:=Try.underlying3
  unfold keyOf
  rw[hu]
  simp only[]
  rw[if_pos (by simp[keyT,Value.formed,hu,cellsK]),hm]
  unfold Program.keyLits
  rw[hu]
  simp[Value.cells,cellsK,Program.keyLits,h3,wa,wb,cells3,kl]
theorem kl_inj {a b a' b':Int} (ha: -9223372036854775808≤a∧a≤9223372036854775807) (hb: -9223372036854775808≤b∧b≤9223372036854775807) (ha': -9223372036854775808≤a'∧a'≤9223372036854775807) (hb': -9223372036854775808≤b'∧b'≤9223372036854775807) (h:kl a b=kl a' b'):a=a'∧b=b':=by
  have e:=law.inj (keyOf_at ha hb) (by rw[h];exact keyOf_at ha' hb')
  injection e with e
  simp at e
  exact e
end MapAt
open MapAt
def MapIs (W:World) (g:Nat) (m:Mt):Prop:=∃ D:DataW Unit,W.ownsMap Try.prog 124 (plainElem Try.prog 3) g m.n D∧∀ a b:Int,(-9223372036854775808≤a∧a≤9223372036854775807)→(-9223372036854775808≤b∧b≤9223372036854775807)→Maps.has D (kl a b)=decide (0≤m.f a b)∧(0≤m.f a b→D.atKey (kl a b) (.lit (.int .i64 0))= .lit (.int .i64 (m.f a b)))
theorem map_lt {W:World} {g:Nat} {m:Mt} (h:MapIs W g m):g<W.heap.size:=by
  obtain⟨D,h,_⟩:=h
  exact h.lt
theorem map_move {W W':World} {g:Nat} {m:Mt} (h:MapIs W g m) (e:W'.heap[g]? =W.heap[g]?):MapIs W' g m:=by
  obtain⟨D,⟨es,clock,hb,r⟩,h2⟩:=h
  exact⟨D,⟨es,clock,e.trans hb,r⟩,h2⟩
theorem map_alloc {W:World} {g:Nat} {m:Mt} (h:MapIs W g m) (o:Obj):MapIs (W.alloc o) g m:=by
  obtain⟨D,h1,h2⟩:=h
  exact⟨D,h1.alloc o,h2⟩
theorem map_drew {W:World} {g:Nat} {m:Mt} (h:MapIs W g m):MapIs W.drew g m:=by
  obtain⟨D,h1,h2⟩:=h
  exact⟨D,h1.drew,h2⟩
theorem map_drewN {W:World} {g:Nat} {m:Mt} (h:MapIs W g m) (n:Nat):MapIs (W.drewN n) g m:=map_move h rfl
theorem map_far {W:World} {g:Nat} {m:Mt} (h:MapIs W g m) {p:Addr} (hp:g≠p.block) (u:Value):MapIs (W.setCell p u) g m:=by
  obtain⟨D,h1,h2⟩:=h
  exact⟨D,h1.setCell hp u,h2⟩
theorem map_below {W W':World} {g:Nat} {m:Mt} (h:MapIs W g m) (hb:Below W.heap.size W W'):MapIs W' g m:=map_move h (hb.block g (map_lt h))
theorem below_put {w W W':World} {g:Nat} (h:Below w.heap.size w W) (hg:W.grownBy W' (some g)) (hle:w.heap.size≤g):Below w.heap.size w W':=h.grown hg h.size (fun j hj=>by cases hj;exact hle)
section
variable {ops:Array Oper} {rest:List Oper} {o:Oper} {a:Act} {Q:Exit→Act→World→Prop}
theorem map_make {W:World} (hgd:o.guard=none) {N:Tmp} (hd:o.dst=some N) (hop:o.op=Op.makeMap 125 none)
    (h:∀ g,g=W.heap.size→∀ w1,MapIs w1 g mtE→Below W.heap.size W w1→wpList Try.prog ops Q rest (a.put o.dst (.map (some g))) w1):wpList Try.prog ops Q (o::rest) a W:=by
  refine Kd.event_run hgd ?_ (h _ rfl (W.alloc (.map #[] 0)) ?_ (below_alloc (Below.refl _ _) _))
  · unfold execOp
    simp[hop,run_makeMap]
  · exact⟨.map [],World.ownsMap_made _ _ _ _,fun x y _ _=>⟨rfl,fun h0=>absurd h0 (by simp[mtE])⟩⟩
theorem map_get {W:World} (hgd:o.guard=none) (mo x:Operand) (hop:o.op=Op.lookup 125 mo x true) (g:Nat) (m:Mt) (s e r1:Int) (r2:Bool) (hm:a.eval mo= .map (some g)) (hx:a.eval x= .agg #[.int .i64 s, .int .i64 e])
    (HM:MapIs W g m) (h:mapGet.f m s e=some (r1,r2)) (hK:wpList Try.prog ops Q rest (a.put o.dst (.tuple #[.int .i64 r1, .bool r2])) W):wpList Try.prog ops Q (o::rest) a W:=by
  obtain⟨D,hown,hD⟩:=HM
  unfold mapGet.f at h
  split at h
  · rename_i hb
    have hr:=Option.some.inj h
    have h1:r1=if m.f s e<0 then 0 else m.f s e:=(congrArg Prod.fst hr).symm
    have h2:r2=decide (0≤m.f s e):=(congrArg Prod.snd hr).symm
    obtain⟨d1,d2⟩:=hD s e hb.1 hb.2
    refine wpList_lookup_own_ok_int _ hgd mo x 125 hop 124 3 .i64 law Try.underlying125 Try.underlying3 (zero3 _) g m.n D hm hown _ _ hx (keyOf_at hb.1 hb.2) ?_
    intro c hat hwc
    rw[d1,←h2]
    have hc:c=r1:=by
      by_cases h0:0≤m.f s e
      · rw[d2 h0]at hat
        rw[h1,if_neg (by omega)]
        injection hat with hat
        injection hat with _ hat
        exact hat.symm
      · have hn:Maps.has D (kl s e)=false:=by rw[d1];exact decide_eq_false h0
        rw[atKey_of_not_has hn]at hat
        rw[h1,if_pos (by omega)]
        injection hat with hat
        injection hat with _ hat
        exact hat.symm
    rw[hc]
    exact hK
  · exact absurd h (by simp)
theorem map_put {W:World} (hgd:o.guard=none) (mo x v:Operand) (hop:o.op=Op.mapUpdate 125 mo x v∨o.op=Op.insert 125 mo x v) (hd:o.dst=none) (g:Nat) (m m':Mt) (s e y:Int) (hm:a.eval mo= .map (some g)) (hx:a.eval x= .agg #[.int .i64 s, .int .i64 e]) (hv:a.eval v= .int .i64 y)
    (HM:MapIs W g m) (h:mapPut.f m s e y=some m') (hK:∀ w1,MapIs w1 g m'→W.grownBy w1 (some g)→wpList Try.prog ops Q rest a w1):wpList Try.prog ops Q (o::rest) a W:=by
  obtain⟨D,hown,hD⟩:=HM
  unfold mapPut.f at h
  split at h
  · rename_i hb
    obtain rfl:=Option.some.inj h
    obtain⟨w1,hrun,hown1,hgrow⟩:=hown.update law Try.underlying125 (by unfold maxLen;omega) (keyOf_at hb.1.1 hb.1.2) (plainElem_int Try.underlying3 (wf_i ⟨by omega,hb.2.1.2⟩):plainElem (H:=Unit) Try.prog 3 (.int .i64 y)=_)
    have hMap:IsMap D:=hown.isMap
    have hk:WideAt.IsKeyLit (kl s e):=law.key (keyOf_at hb.1.1 hb.1.2)
    have hM':MapIs w1 g ⟨fun y' z=>if y'=s∧z=e then y else m.f y' z,m.n+1⟩:=by
      refine⟨_,hown1,fun a' b' ha' hb'=>?_⟩
      by_cases c:a'=s∧b'=e
      · obtain⟨rfl,rfl⟩:=c
        simp only[and_self,if_true]
        refine⟨?_,fun _=>atKey_put_same hMap hk _ _⟩
        rw[has_put_same hMap hk,decide_eq_true hb.2.1.1]
      · simp only[if_neg c]
        have hne:kl a' b'≠kl s e:=fun q=>c (kl_inj ha' hb' hb.1.1 hb.1.2 q)
        obtain⟨d1,d2⟩:=hD a' b' ha' hb'
        refine⟨by rw[has_put_other hne];exact d1,fun h0=>by rw[atKey_put_other hne];exact d2 h0⟩
    refine wpList_plain hgd fun K' hK'=>?_
    unfold Oper.wp
    have hput:a.put o.dst undef=a:=by rw[hd];rfl
    rcases hop with hop|hop
    all_goals
      simp[execOp,hop,hm,hx,hv,hrun,Result.andThen]
      refine hK' _ _ ?_
      have:=hK w1 hM' hgrow
      first|(rw[hput];exact this)|(rw[hd];exact this)
  · exact absurd h (by simp)
end
theorem put_0:mapPut.f mtE 0 0 0=some mt0:=by
  unfold mapPut.f mtE mt0
  rw[if_pos (by simp)]
end Go.Proofs.Ythagkpoinjpmfaa
