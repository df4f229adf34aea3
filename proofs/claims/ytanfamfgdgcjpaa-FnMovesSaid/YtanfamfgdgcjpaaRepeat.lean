/- slices.Repeat at a list of one number and a count of at most 24: a row of the call's own with that number so often. No condition but that. -/
import Derived.Test.YtanfamfgdgcjpaaProg
import Derived.Below
import Derived.Deep.Draws
import Derived.Deep.AppendLies
import Derived.Maps.AppendAt
import Derived.OwnWalk
import Derived.Laws.BytesArg
import Derived.Laws.MakeOwn
import Derived.Laws.OwnMore
import Derived.Deep.OwnRows
import Derived.Tactics
import Derived.Lib.ConvBytes
import Derived.Laws.Slices
import Derived.WalkKit
import Derived.KernelRfl
import Derived.RowKit3
import Derived.Deep.LoopGhost
import Derived.Deep.QuietTactic
import Derived.BigQuiet
import Derived.WideLaws
import Derived.Deep.DeepCutAuto
import Derived.Deep.CutBlock
import Derived.Deep.RegionHeld3
import Derived.Laws.Rows
import Derived.Lib.AppendStr
import Derived.ArgAppend
import Derived.Laws.IdiomCopy
import Derived.OrdersHeld
import Derived.Laws.BitsLemmas
import Derived.RowKit
import Derived.Test.YtanfamfgdgcjpaaV
import Derived.Laws.CopyOwn
namespace Go.Proofs.Ytanfamfgdgcjpaa.Repeat
open Go.RowKit Go.Proofs.YtanfamfgdgcjpaaW.PrintWords Go.Proofs.YtanfamfgdgcjpaaW.PrintLast Go.Proofs.YtanfamfgdgcjpaaW.PrintMore
attribute [local go_sem] max2_int min2_int max_two min_two max_three min_three max_four min_four
set_option linter.unusedVariables false
set_option linter.unusedSimpArgs false
theorem take3 {α:Type} (A B C:List α) (n:Nat) (h:A.length+B.length≤n): (A++(B++C)).take n=A++(B++C.take (n-A.length-B.length)):=by
  rw[List.take_append,List.take_append,List.take_of_length_le (l:=A) (by omega),List.take_of_length_le (l:=B) (by omega)]
section
variable {P:Program} {ops:Array Oper} {o:Oper} {a:Act} {Q:Exit→Act→World→Prop} {Kc:Act→World→Prop}
theorem copy_self_step {w0 W:World} (base:Nat) (hgd:o.guard=none) (s x:Operand) (t e:TypeId)
    (ho:o.op= .call {callee:= .builtin .copy,args:= #[s,x],argTypes:= #[t,t]}) (ht:P.underlying t=some (.slice e)) (hinfo: (P.info? e).map (·.size)=some 1)
    (g n cap m c:Nat) (xs:List Int) (ok:Nat→Prop) (hs:a.eval s= .slice (some ⟨g,m,none⟩) (n-m) (cap-m)) (hx:a.eval x= .slice (some ⟨g,0,none⟩) m cap)
    (HO: (Kd.int .i64).R e W base ok (.slice (some ⟨g,0,none⟩) n cap) xs) (hm:m≤n) (hc:c=min m (n-m)) (HB:Below base w0 W)
    (h:∀ w1,(Kd.int .i64).R e w1 base ok (.slice (some ⟨g,0,none⟩) n cap) (xs.take m++(xs.take c++xs.drop (m+c)))→Below base w0 w1→Kc (a.put o.dst (.int .i64 (c:Int))) w1):
    if Region.wanted o (yielded ops a.tmps)=true then Oper.wp P o a W Kc Q else Kc (a.put o.dst undef) W:=by
  have hr:=Kd.R_reads' HO
  have hn:n=xs.length:=hr.1
  have hown:=Kd.own_of_R HO
  have hreads:=Kd.reads_of_C (enc:=Value.int .i64) (d:=(0:Int)) (h1:=fun _=>rfl) hr.2.2
  rcases hown.2 with⟨hv,_⟩|⟨g',cap',cur,hv,hb,hh,hnc,hcm,hcs,htake⟩
  · cases hv
  injection hv with ha _ hcap
  injection ha with ha
  injection ha with hg'
  subst hg';subst hcap
  have hl: (encs (Value.int .i64) (xs.take c)).length=c:=by rw[encs_length,List.length_take];omega
  have htk:cur.toList.take n=encs (Value.int .i64) xs:=by rw[hn,←htake,Nat.mul_one]
  have hcur:cur.toList.length=cap:=by rw[Array.length_toList,hcs,Nat.mul_one]
  have hxl:m+c≤xs.length:=by omega
  refine step_copy_splice hgd s x t t ho e ht hinfo (some ⟨g,m,none⟩) (some ⟨g,0,none⟩) (n-m) (cap-m) m cap hs hx g m cur.toList e (by simpa using hh) (encs (Value.int .i64) (xs.take c)) ?_ ?_ ?_ ?_ base w0 HB hb ?_
  · rw[hl,hc]
  · intro hp
    rw[hl]at hp
    obtain⟨ad,e1,hcell⟩:=hreads.2.2 (by omega)
    injection e1 with e1
    subst e1
    refine⟨rfl,⟨g,0,none⟩,rfl,fun j u hu=>?_⟩
    have hj:j<(xs.take c).length:=by
      rcases Nat.lt_or_ge j (xs.take c).length with h1|h1
      · exact h1
      · rw[List.getElem?_eq_none (by rw[encs_length];exact h1)]at hu
        cases hu
    have hjc:j<c:=by rw[List.length_take]at hj;omega
    rw[encs_get (d:=(0:Int)) _ j hj]at hu
    rw[hcell j (by omega),←hu]
    simp[List.getD_eq_getElem?_getD,hjc]
  · rw[hl];omega
  · intro u hu
    simp only[encs,List.mem_map]at hu
    obtain⟨q,_,rfl⟩:=hu
    rfl
  · intro w' hw' hB'
    rw[hl]
    have hlen: (xs.take m++(xs.take c++xs.drop (m+c))).length=n:=by
      simp only[List.length_append,List.length_take,List.length_drop];omega
    refine h w' (Kd.R_of_own ?_ HO.1) hB'
    rw[hlen]
    refine⟨by rw[encs_length,hlen,Nat.mul_one], .inr ⟨g,cap,(splice cur.toList m (encs (Value.int .i64) (xs.take c))).toArray,rfl,hb,hw'.out,by omega,hcm,?_,?_⟩⟩
    · rw[List.size_toArray,length_splice _ _ _ (by rw[hl];omega),hcur,Nat.mul_one]
    · have e1:cur.toList.take m=encs (Value.int .i64) (xs.take m):=by
        have:=congrArg (List.take m) htk
        rw[List.take_take,Nat.min_eq_left hm]at this
        rw[this];simp[encs,List.map_take]
      have e2: (cur.toList.drop (m+c)).take (n-m-c)=encs (Value.int .i64) (xs.drop (m+c)):=by
        have:=congrArg (List.drop (m+c)) htk
        rw[List.drop_take]at this
        rw[Nat.sub_sub,this];simp[encs,List.map_drop]
      have e3: (xs.take m).length=m:=by rw[List.length_take];omega
      simp only[splice,hl,Nat.mul_one,e1]
      rw[take3 _ _ _ _ (by rw[encs_length,e3,hl];omega),encs_length,e3,hl,e2]
      simp[encs]
end
theorem infoE: (Try.prog.info? 3).map (fun i=>(i.zero,i.size,i.bytes))=some (some (.int .i64 0),1,8):=by kernel_rfl
theorem infoS: (Try.prog.info? 3).map (·.size)=some 1:=by kernel_rfl
set_option maxHeartbeats 8000000 in
set_option maxRecDepth 100000 in
theorem mul64 (n:Int) (h:n∈[0,1,2,3,4,5,6,7,8,9,10,11,12,13,14,15,16,17,18,19,20,21,22,23,24]) (w:World):Calls Try.prog 90 #[.int .u64 1, .int .u64 n] w fun e w'=>e= .returned (.tuple #[.int .u64 0, .int .u64 n])∧Drawn0 w w':=by
  simp only[List.mem_cons,List.not_mem_nil,or_false]at h
  rcases h with rfl|rfl|rfl|rfl|rfl|rfl|rfl|rfl|rfl|rfl|rfl|rfl|rfl|rfl|rfl|rfl|rfl|rfl|rfl|rfl|rfl|rfl|rfl|rfl|rfl
  all_goals
    go_enter Try.func90,Try.ntmps90
    go_wp2
    go_ret2
    exact⟨by first|rfl|(simp;done)|(simp[*];done)|decide+kernel,by repeat(first|exact Drawn0.refl _|apply Drawn0.step)⟩
set_option maxHeartbeats 8000000 in
set_option maxRecDepth 100000 in
theorem mul (n:Int) (h:n∈[0,1,2,3,4,5,6,7,8,9,10,11,12,13,14,15,16,17,18,19,20,21,22,23,24]) (w:World):Calls Try.prog 84 #[.int .u64 1, .int .u64 n] w fun e w'=>e= .returned (.tuple #[.int .u64 0, .int .u64 n])∧Drawn0 w w':=by
  have HL:=Aside0.mk h
  clear h
  go_enter Try.func84,Try.ntmps84
  go_wp2_with (go_at_call 90;(with_reducible refine(mul64 n HL.out _).mono ?_);rintro e w' ⟨rfl,⟨nd,rfl⟩⟩)
  go_ret2
  exact⟨by first|rfl|(simp;done)|(simp[*];done),by repeat(first|exact Drawn0.refl _|apply Drawn0.step)⟩
theorem small_mem (n:Nat) (h:n≤24): (n:Int)∈[0,1,2,3,4,5,6,7,8,9,10,11,12,13,14,15,16,17,18,19,20,21,22,23,(24:Int)]:=by
  have:∀ m:Nat,m<25→(m:Int)∈[0,1,2,3,4,5,6,7,8,9,10,11,12,13,14,15,16,17,18,19,20,21,22,23,(24:Int)]:=by decide
  exact this n (by omega)
theorem start_row (n:Nat) (v:Int): ([v]:List Int).take (min 1 (List.replicate n (0:Int)).length)++(List.replicate n (0:Int)).drop (min 1 (List.replicate n (0:Int)).length)=List.replicate (min 1 n) v++List.replicate (n-min 1 n) 0:=by
  rw[List.length_replicate,List.drop_replicate]
  rcases Nat.eq_zero_or_pos n with h|h
  · subst h;rfl
  · rw[Nat.min_eq_left h];rfl
theorem step_row (m n:Nat) (v:Int) (h:m≤n∧(m<n→1≤m)): (List.replicate m v++List.replicate (n-m) (0:Int)).take m++((List.replicate m v++List.replicate (n-m) (0:Int)).take (min m (n-m))++(List.replicate m v++List.replicate (n-m) (0:Int)).drop (m+min m (n-m)))=List.replicate (m+min m (n-m)) v++List.replicate (n-(m+min m (n-m))) 0:=by
  rw[List.take_append_of_le_length (by simp),List.take_append_of_le_length (by simp;omega),List.drop_append]
  simp only[List.take_replicate,List.drop_replicate,List.length_replicate]
  rw[Nat.min_self,show min (min m (n-m)) m=min m (n-m)by omega,show m-(m+min m (n-m))=0 by omega,show m+min m (n-m)-m=min m (n-m)by omega,←List.append_assoc]
  rw[List.replicate_append_replicate,List.replicate_zero,List.nil_append,Nat.sub_sub]
set_option maxHeartbeats 8000000 in
set_option maxRecDepth 100000 in
theorem walk (A0:Option Addr) (c0 n:Nat) (v:Int) (w:World) (hr0:Kd.C (Kd.int .i64) w A0 1 [v]) (hc0:1≤c0) (hn:n≤24):
    Calls Try.prog 66 #[.slice A0 1 c0, .int .i64 (n:Int)] w fun e w'=>∃ v0_:Value,e= .returned v0_∧Kd.R (Kd.int .i64) 3 w' w.heap.size (fun _=>True) v0_ (List.replicate n v)∧Below w.heap.size w w':=by
  have HR0:=Aside0.mk hr0
  have HC0:=Aside0.mk hc0
  have HN:=Aside0.mk hn
  have HM:=Aside0.mk (small_mem n hn)
  have hn0:decide ((n:Int)<0)=false:=decide_eq_false (by omega)
  have hb0: (n:Int)≤24:=by omega
  have hb1:0≤(n:Int):=by omega
  have hg0:decide ((n:Int)>9223372036854775807)=false:=decide_eq_false (by omega)
  have hg1:decide ((9223372036854775807:Int)<(n:Int))=false:=decide_eq_false (by omega)
  clear hr0 hc0 hn
  have HB:=Aside0.mk (Below.refl w.heap.size w)
  go_enter Try.func66,Try.ntmps66
  go_wp2_with (first
    | (go_at_call 84;(with_reducible refine(mul (n:Int) HM.out _).mono ?_);rintro e w' ⟨rfl,⟨nd,rfl⟩⟩)
    | ((with_reducible refine gate_dst (N:=30) rfl ?_);refine Kd.R_make (Kd.int .i64) (w0:=w) w.heap.size 3 rfl (N:=30) rfl 24 (.tmp 29) (.tmp 29) rfl (n:Int) rfl rfl Try.underlying24 (.int .i64 0) 8 infoE rfl (by decide) (by decide) 0 (ok:=fun _=>True) (okp:=fun _=>True) rfl (fun _ h=>h) trivial (by omega) ?mL (by repeat(first|(with_reducible first|exact HB.out|apply below_alloc|apply pw_below_drewN|apply below_drew1)|exact HB.out)) (below_size (by repeat(first|(with_reducible first|exact HB.out|apply below_alloc|apply pw_below_drewN|apply below_drew1)|exact HB.out))) ?_;(case mL=>have:=HN.out;omega);intro v1 w1 ho hb hg hnew;rw[Int.toNat_natCast]at ho;have n0_:=Aside0.mk ho;have n1_:=Aside0.mk hb;clear HB;have HO:=n0_;have HB:=n1_;clear n0_ n1_ ho hb hg hnew)
    | ((with_reducible refine gate_builtin (b:= .copy) (xs:= #[.tmp 31, .tmp 32]) rfl ?_);refine Kd.R_copy (enc:=Value.int .i64) (h1:=fun _=>rfl) 0 (w0:=w) w.heap.size rfl (.tmp 31) (.tmp 32) 24 24 3 rfl Try.underlying24 infoS _ (List.replicate n 0) [v] A0 1 c0 (fun _=>True) rfl rfl HO.out (Kd.C_below HR0.out HB.out) HB.out (below_size HB.out) ?_;intro w2 ho hb hg;rw[show([v]:List Int).take (min 1 (List.replicate n (0:Int)).length)++(List.replicate n (0:Int)).drop (min 1 (List.replicate n (0:Int)).length)=List.replicate (min 1 n) v++List.replicate (n-min 1 n) 0 from start_row n v]at ho;rw[List.length_replicate];have n0_:=Aside0.mk ho;have n1_:=Aside0.mk hb;clear HB HO;have HO:=n0_;have HB:=n1_;clear n0_ n1_ ho hb hg))
  obtain⟨A1,c1,e1⟩:=Kd.R_slice HO.out
  rw[show(List.replicate (min 1 n) v++List.replicate (n-min 1 n) (0:Int)).length=n by simp;omega]at e1
  subst e1
  go_loopw [8] (fun v8 w'=>∃ m:Nat,Aside0 (m≤n∧(m<n→1≤m))∧v8= .int .i64 (m:Int)∧Aside0 (Kd.R (Kd.int .i64) 3 w' w.heap.size (fun _=>True) (.slice A1 n c1) (List.replicate m v++List.replicate (n-m) 0))∧Aside0 (Below w.heap.size w w')) (fun v8 _=>n-(intOf v8).toNat)
  case atStart=>exact⟨min 1 n,⟨by omega,by omega⟩,rfl,HO,HB⟩
  case round=>
    clear HO HB
    obtain⟨m,HM1,rfl,HO,HB⟩:=hrel
    have hm24: (m:Int)≤24:=by have:=HM1.out.1;omega
    by_cases hlt:m<n
    · have hd1:decide (m<n)=true:=decide_eq_true hlt
      have hd2:decide ((m:Int)<(n:Int))=true:=decide_eq_true (by omega)
      have HLT:=Aside0.mk hlt
      obtain⟨g,hgA⟩:∃ g,A1=some ⟨g,0,none⟩:=by
        obtain⟨inner,hown⟩:=Kd.R_own HO.out
        rcases hown.2 with⟨hv,_⟩|⟨g,cap',cur,hv,_⟩
        · injection hv with _ h2 _
          omega
        · injection hv with h1 _ _
          exact⟨g,h1⟩
      subst hgA
      obtain⟨cap,hcap⟩:∃ cap,cap=c1:=⟨c1,rfl⟩
      subst hcap
      have hnc:n≤cap:=(Kd.R_reads' HO.out).2.1
      obtain⟨i0,hi0,_,hsz0,_⟩:=info_parts infoE
      have hcut1:∀ W:World,(Instr.slice 24 (.slice (some ⟨g,0,none⟩) n cap) (some (.int .i64 (m:Int))) none none).run Try.prog W= .ok (.slice (some ⟨g,m,none⟩) (n-m) (cap-m)) W:=by
        intro W
        have:=cut_from (P:=Try.prog) 24 3 .i64 Try.underlying24 hi0 1 hsz0 (some ⟨g,0,none⟩) n cap (m:Int) (by omega) (by omega) W
        rw[Int.toNat_natCast,if_neg (by omega)]at this
        have h2:m≠0:=by have h1:=HM1.out.2 HLT.out;omega
        have h3: (some (⟨g,0,none⟩:Addr)).map (·.add (m*1))=some ⟨g,m,none⟩:=by simp[Addr.add,h2]
        rw[h3]at this
        exact this
      have hcut2:∀ W:World,(Instr.slice 24 (.slice (some ⟨g,0,none⟩) n cap) none (some (.int .i64 (m:Int))) none).run Try.prog W= .ok (.slice (some ⟨g,0,none⟩) m cap) W:=by
        intro W
        have:=cut_to (P:=Try.prog) 24 3 .i64 Try.underlying24 hi0 (some ⟨g,0,none⟩) n cap (m:Int) (by omega) (by omega) hnc W
        rw[Int.toNat_natCast]at this
        exact this
      clear hi0 hsz0 hlt hnc
      go_wp2
      have n0_:=Aside0.mk (Kd.R_drew HO.out)
      have n1_:=Aside0.mk (below_drew1 HB.out)
      clear HO HB
      have HO:=n0_
      have HB:=n1_
      clear n0_ n1_
      refine start_ (n:=10) (S:=fun w'=>True) (ds:=[]) #[false,false,false,false,false,false,false,false,false,false] (by kernel_rfl) rfl rfl trivial (fun hHeld=>?_)
      generalize wr.drew=w3 at HO HB hHeld⊢
      refine pure_ (i:=0) (N:=some 38) (v:= ?_) (a':= ?_) #[true,false,false,false,false,false,false,false,false,false] rfl rfl (by kernel_rfl) (fun _ _ _ h=>h) (Or.inl ⟨by rfl,?_⟩) ?_ ?_
      rotate_left
      · intro w'
        go_simp
        with_reducible rfl
      rotate_left
      · simp only[Act.put,List.setIfInBounds_toArray,List.set_cons_zero,List.set_cons_succ,i64_w,i32_w]
        rfl
      refine pure_ (i:=1) (N:=some 39) (v:= ?_) (a':= ?_) #[true,true,false,false,false,false,false,false,false,false] rfl rfl (by kernel_rfl) (fun _ _ _ h=>h) (Or.inl ⟨by rfl,?_⟩) ?_ ?_
      rotate_left
      · intro w'
        go_simp
        with_reducible rfl
      rotate_left
      · simp only[Act.put,List.setIfInBounds_toArray,List.set_cons_zero,List.set_cons_succ,i64_w,i32_w]
        rfl
      refine pure_ (i:=2) (N:=some 40) (v:= ?_) (a':= ?_) #[true,true,true,false,false,false,false,false,false,false] rfl rfl (by kernel_rfl) (fun _ _ _ h=>h) (Or.inl ⟨by rfl,?_⟩) ?_ ?_
      rotate_left
      · intro w'
        go_simp
        with_reducible rfl
      rotate_left
      · simp only[Act.put,List.setIfInBounds_toArray,List.set_cons_zero,List.set_cons_succ,i64_w,i32_w]
        rfl
      refine pure_ (i:=3) (N:=some 41) (v:= ?_) (a':= ?_) #[true,true,true,true,false,false,false,false,false,false] rfl rfl (by kernel_rfl) (fun _ _ _ h=>h) (Or.inl ⟨by rfl,?_⟩) ?_ ?_
      rotate_left
      · intro w'
        go_simp
        with_reducible rfl
      rotate_left
      · simp only[Act.put,List.setIfInBounds_toArray,List.set_cons_zero,List.set_cons_succ,i64_w,i32_w]
        rfl
      refine pure_ (i:=4) (N:=some 42) (v:= ?_) (a':= ?_) #[true,true,true,true,true,false,false,false,false,false] rfl rfl (by kernel_rfl) (fun _ _ _ h=>h) (Or.inl ⟨by rfl,?_⟩) ?_ ?_
      rotate_left
      · intro w'
        go_simp
        with_reducible rfl
      rotate_left
      · simp only[Act.put,List.setIfInBounds_toArray,List.set_cons_zero,List.set_cons_succ,i64_w,i32_w]
        rfl
      refine pure_ (i:=5) (N:=some 43) (v:= ?_) (a':= ?_) #[true,true,true,true,true,true,false,false,false,false] rfl rfl (by kernel_rfl) (fun _ _ _ h=>h) (Or.inl ⟨by rfl,?_⟩) ?_ ?_
      rotate_left
      · intro w'
        go_simp
        with_reducible rfl
      rotate_left
      · simp only[Act.put,List.setIfInBounds_toArray,List.set_cons_zero,List.set_cons_succ,i64_w,i32_w]
        rfl
      refine pure_ (i:=6) (N:=some 44) (v:= ?_) (a':= ?_) #[true,true,true,true,true,true,true,false,false,false] rfl rfl (by kernel_rfl) (fun _ _ _ h=>h) (Or.inl ⟨by rfl,?_⟩) ?_ ?_
      rotate_left
      · intro w'
        go_simp
        with_reducible rfl
      rotate_left
      · simp only[Act.put,List.setIfInBounds_toArray,List.set_cons_zero,List.set_cons_succ,i64_w,i32_w]
        rfl
      refine one_ (i:=7) (N:=some 45) #[true,true,true,true,true,true,true,true,false,false] rfl rfl (by kernel_rfl) (by decide) (fun K hK=>?_)
      refine copy_self_step (w0:=w) w.heap.size rfl (.tmp 41) (.tmp 44) 24 3 rfl Try.underlying24 infoS g n cap m (min m (n-m)) (List.replicate m v++List.replicate (n-m) 0) (fun _=>True) rfl rfl HO.out (by have:=HM1.out;omega) rfl HB.out ?_
      intro w4 ho hb
      rw[step_row m n v HM1.out]at ho
      have n0_:=Aside0.mk ho
      have n1_:=Aside0.mk hb
      clear HO HB
      have HO:=n0_
      have HB:=n1_
      clear n0_ n1_ ho hb
      refine hK.out _ _ trivial (fun hHeld=>?_)
      clear hK K
      refine norm_ (a':= ?_) ?_ ?_
      rotate_left
      · show Act.put _ (some 45) _=_
        simp only[Act.put,List.setIfInBounds_toArray,List.set_cons_zero,List.set_cons_succ,i64_w,i32_w]
        rfl
      refine pure_ (i:=8) (N:=some 46) (v:= ?_) (a':= ?_) #[true,true,true,true,true,true,true,true,true,false] rfl rfl (by kernel_rfl) (fun _ _ _ h=>h) (Or.inl ⟨by rfl,?_⟩) ?_ ?_
      rotate_left
      · intro w'
        go_simp
        with_reducible rfl
      rotate_left
      · simp only[Act.put,List.setIfInBounds_toArray,List.set_cons_zero,List.set_cons_succ,i64_w,i32_w]
        rfl
      refine pure_ (i:=9) (N:=some 8) (v:= ?_) (a':= ?_) #[true,true,true,true,true,true,true,true,true,true] rfl rfl (by kernel_rfl) (fun _ _ _ h=>h) (Or.inl ⟨by rfl,?_⟩) ?_ ?_
      rotate_left
      · intro w'
        go_simp
        with_reducible rfl
      rotate_left
      · simp only[Act.put,List.setIfInBounds_toArray,List.set_cons_zero,List.set_cons_succ,i64_w,i32_w]
        rfl
      refine done_ (by kernel_rfl) ?_
      rw[show wrap64 ((m:Int)+((min m (n-m):Nat):Int))=((m+min m (n-m):Nat):Int)by have:=HM1.out;unfold wrap64;omega]
      go_roundw
      case rel=>(repeat apply Exists.intro);exact⟨⟨m+min m (n-m),⟨by have:=HM1.out;omega,fun _=>by have:=HM1.out.2 HLT.out;omega⟩,rfl,HO,HB⟩,rfl⟩
      case measure=>have:=HM1.out.2 HLT.out;have:=HLT.out;simp[intOf];omega
    · have hd1:decide (m<n)=false:=decide_eq_false hlt
      have hd2:decide ((m:Int)<(n:Int))=false:=decide_eq_false (by omega)
      obtain rfl:m=n:=by have:=HM1.out.1;omega
      go_wp2
      go_ret
      exact⟨_,by first|rfl|(simp;done)|(simp[*];done),by have:=HO.out;simpa using this,HB.out⟩
def f (k:Nat) (l:List Int) (n:Int):Option (List Int):=
  match l with
  | [v]=>if 0≤n∧n≤24 then some (List.replicate n.toNat v)else none
  | _=>none
theorem mono:∀ l n k,LeO (f k l n) (f (k+1) l n):=fun _ _ _=>LeO.refl _
theorem calls (k:Nat) (A0:Option Addr) (c0:Nat) (l0:List Int) (a1:Int) (r:List Int) (w:World) (hr0:Kd.C (Kd.int .i64) w A0 l0.length l0) (hc0:l0.length≤c0) (h:f k l0 a1=some r):
    Calls Try.prog 66 #[.slice A0 l0.length c0, .int .i64 a1] w fun e w'=>∃ v0_:Value,e= .returned (v0_)∧Kd.R (Kd.int .i64) 3 w' w.heap.size (fun _=>True) v0_ r∧Below w.heap.size w w':=by
  match l0,hr0,hc0,h with
  | [v],hr0,hc0,h=>
    simp only[f]at h
    by_cases hn:0≤a1∧a1≤24
    · rw[if_pos hn]at h
      obtain rfl:=Option.some.inj h
      obtain⟨n,rfl⟩:=Int.eq_ofNat_of_zero_le hn.1
      rw[Int.toNat_natCast]
      exact walk A0 c0 n v w hr0 hc0 (by omega)
    · rw[if_neg hn]at h
      exact absurd h (by simp)
  | [],_,_,h=>exact absurd h (by simp[f])
  | _::_::_,_,_,h=>exact absurd h (by simp[f])
end Go.Proofs.Ytanfamfgdgcjpaa.Repeat
