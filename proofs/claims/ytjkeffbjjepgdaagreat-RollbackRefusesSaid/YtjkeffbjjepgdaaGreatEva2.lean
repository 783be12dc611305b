/- A reading of the program, proved sound against the model, and what its functions answer by it: part 2. -/
import Derived.Test.YtjkeffbjjepgdaaGreatEva1
import Derived.KernelRfl
import Derived.ChangeArms
import Derived.SizedLaws
import Derived.Carry
import Derived.OpenShut
import Derived.ChangeOld
import Derived.Test.YtjkeffbjjepgdaaGreatProg
set_option linter.unusedSimpArgs false
set_option linter.unusedVariables false
open List renaming length → zq, map → zz, replicate → zj, set → zx, take → zw, drop → zk
open Int renaming toNat → zy, tmod → zg, fdiv → zh
open Go.IntKind renaming i64 → zd, u64 → zf, wrap → zp
open BitVec renaming ofInt → zb
open Go.Eva.Res renaming mk → qy
open Go.Eva.Ex renaming ret → qg, exit → qh
open Go.Eva.Ob renaming arr → qf, one → qm
open Go.Eva.T renaming sl → qp
open Go.Eva.V renaming all → qb
namespace Go.Eva
open Go.RowKit
def sort (cx:Cx) (o:Oper):Nat:=match o.op with
 | .move _=>0| .assign _=>0| .pick _ _ _=>0| .build _ _=>0| .nilCheck _=>0| .binOp _ _ _ _ _=>0| .unOp _ _ _=>0| .convert _ _ _=>0
 | .makeFunc (.func _) _ _=>0| .slice _ _ _ _ _=>0| .fieldAddr _ _ _=>0| .field _ _ _=>0| .indexAddr _ _ _=>0| .extract _ _=>0
 | .load _ _=>1
 | .alloc _=>2| .box _ _=>2| .buildSlice _ _ _=>2| .makeSlice _ _ _=>2
 | .call c=>match c.callee with
  | .builtin b=>match quietB b with
   |true=>0
   |false=>match b,c.args.toList with
    | .append,.const (.slice none 0 0)::_=>2
    |_,_=>3
  | .value (.func f)=>match exAt cx.ex f with
   |some _=>3
   |none=>match cx.fn.get f with
    |some (some fi)=>match fi.mode with| .inout=>3|_=>2
    |_=>3
  |_=>3
 |_=>3
section
variable {P:Program} {cx:Cx} {S:Task→(Res→Prop)→Prop} {o:Oper} {e:Env} {H:Heap} {a:Act} {w:World} {ι:Io} {F:Nat→Prop} {R:V×Heap→Prop} {Q:Exit→Act→World→Prop}
theorem Still.mono {C C':World→Prop} (h:Still C P R o ι F H w a) (hC: ∀w,C' w→C w):Still C' P R o ι F H w a:=by
 obtain ⟨v,H',ι',F',val,h1,h2,h3,h4,h5⟩:=h
 exact ⟨v,H',ι',F',val,h1,h2,h3,h4,fun w hw=>h5 w (hC w hw)⟩
theorem Af0 (hc:CxTy P cx) (hg:Good ι F w H) (hs:Sim ι F w H e a) (hty:opTy cx o=true) (hk:sort cx o=0) (h:wpQ S (opQ cx o e H) R):Still Any P R o ι F H w a:=by
 have h0:=h
 unfold opTy at hty
 unfold sort at hk
 unfold opQ at h
 simp only at h
 split at h
 ·rename_i x ho;exact Aeq hg hs x (.inl ho) h
 ·rename_i x ho;exact Aeq hg hs x (.inr ho) h
 ·rename_i c x y ho;exact AhT hg hs c x y ho h0
 ·rename_i t ho;rw [ho] at hk;simp at hk
 ·rename_i t x ho;rw [ho] at hk;simp at hk
 ·rename_i t ps ho;exact AfP hc hg hs t ps ho h0
 ·rename_i t n ps ho;rw [ho] at hk;simp at hk
 ·rename_i t x ho;rw [ho] at hk;simp at hk
 ·rename_i t x y ho;rw [ho] at hk;simp at hk
 ·rename_i x ho;exact AcY hg hs x ho h0
 ·rename_i op t x y yt ho;exact AiB hc hg hs op t x y yt ho h0
 ·rename_i op t x ho;exact op_un hg hs op t x ho h0
 ·rename_i s t x ho;rw [ho] at hty;exact Ad6 hc hg hs s t x ho (Option.isSome_iff_exists.1 hty) h0
 ·rename_i t ho;rw [ho] at hk;simp at hk
 ·rename_i t x i b ho;rw [ho] at hk;simp at hk
 ·rename_i t x i v ho;rw [ho] at hk;simp at hk
 ·rename_i t x ho;rw [ho] at hk;simp at hk
 ·rename_i x ho;rw [ho] at hk;simp at hk
 ·rename_i f fi cs ho;exact Ade hg hs f fi cs ho h0
 ·rename_i t l c ho;rw [ho] at hk;simp at hk
 ·rename_i t x lo hi mx ho;exact Agf hc hg hs t x lo hi mx ho h0
 ·rename_i t x f ho;exact AcC hc hg hs t x f ho h0
 ·rename_i t x f ho;exact Agi hc hg hs t x f ho h0
 ·rename_i t x i ho;exact AcJ hc hg hs t x i ho h0
 ·rename_i x i ho;exact AdH hg hs x i ho h0
 ·rename_i c ho
  rw [ho] at hk
  simp only at hk
  split at hk
  ·rename_i b hb
   split at hk
   ·rename_i hq;exact AfL hc hg hs c b ho hb hq h0
   ·split at hk<;>simp at hk
  ·split at hk
   ·simp at hk
   ·split at hk
    ·split at hk<;>simp at hk
    ·simp at hk
  ·simp at hk
 ·exact h.elim
theorem AfU (hc:CxTy P cx) (hg:Good ι F w H) (hs:Sim ι F w H e a) (hty:opTy cx o=true) (hk:sort cx o≤1) (h:wpQ S (opQ cx o e H) R):Still (OldSame w) P R o ι F H w a:=by
 rcases Nat.lt_or_ge (sort cx o) 1 with h0|h1
 ·exact (Af0 hc hg hs hty (by omega) h).mono fun _ _=>trivial
 ·have hk:sort cx o=1:=by omega
  have: ∃t x,o.op= .load t x:=by
   unfold sort at hk
   split at hk<;>simp_all
   repeat' split at hk
   all_goals simp_all
  obtain ⟨t,x,ho⟩:=this
  unfold opTy at hty
  rw [ho] at hty
  exact AhG hc hg hs t x ho (Option.isSome_iff_exists.1 hty) h
theorem Still.wpK {C:World→Prop} (h:Still C P R o ι F H w a) (hC:C w):o.wp P a w (fun a' w'=>OpPost R o ι F H w a a' w'∧OldSame w w') Q:=by
 obtain ⟨v,H',ι',F',val,h1,h2,h3,h4,h5⟩:=h
 exact Aao (h5 w hC) ⟨⟨v,H',ι',F',val,h1,rfl,h2,h3,h4⟩,.refl w⟩
theorem AdG {ts:List Nat} {vs:List V} (h:wpQ S (builtinV cx .append ts vs H) R): ∃t t' s x,ts= [t,t']∧vs= [s,x]:=by
 unfold builtinV at h
 split at h<;>rename_i hb<;>try contradiction
 ·split at h
  ·exact ⟨_,_,_,_,rfl,rfl⟩
  ·exact h.elim
theorem Aio (hc:CxTy P cx) (hcal:Callable P cx) (hS: ∀f az H R,S (.call f az H) R→CallS P f az H R) (hg:Good ι F w H) (hs:Sim ι F w H e a) (hty:opTy cx o=true) (hk:sort cx o≤2) (h:wpQ S (opQ cx o e H) R):
  o.wp P a w (fun a' w'=>OpPost R o ι F H w a a' w'∧OldSame w w') Q:=by
 rcases Nat.lt_or_ge (sort cx o) 2 with h0|h1
 ·exact (AfU hc hg hs hty (by omega) h).wpK (.refl w)
 have hk:sort cx o=2:=by omega
 clear h1
 unfold sort at hk
 split at hk<;>try contradiction
 ·rename_i t ho;exact Af4 hc hg t ho h
 ·rename_i t x ho;exact Ai4 hg hs t x ho h
 ·rename_i t n ps ho;exact Aco hc hg hs t n ps ho h
 ·rename_i t l c ho;exact AcG hc hg hs t l c ho h
 ·rename_i c ho
  split at hk
  ·rename_i b hb
   split at hk
   ·contradiction
   ·split at hk
    ·rename_i tail hargs0 _
     unfold opQ at h
     rw [ho] at h
     simp only [hb] at h
     obtain ⟨consts,hex⟩:=AbR (P:=P) (a:=a) .append c ho hb rfl
     rw [hargs0] at h hex
     generalize hts:c.argTypes=ts at*
     obtain ⟨tl⟩:=ts
     simp only at h
     cases tl with
     |nil=>
      obtain ⟨vs,h1,h2⟩:=AaE hs (Aaa _ _ _ h)
      obtain ⟨_,_,_,_,e,_⟩:=AdG h1
      simp at e
     |cons t tl=>
      have h:=Aaa _ _ _ h
      simp only [args] at h
      have h1:=Aaa _ _ _ h
      have hn:evalO e (.const (.slice none 0 0))= .nil:=rfl
      rw [hn] at h1
      unfold typed at h1
      simp only at h1
      split at h1
      ·split at h1
       ·replace h1:=Aa9 (Aaa _ _ _ h1)
        obtain ⟨vs,h2,h3⟩:=AaE hs (Aaa _ _ _ h1)
        simp only [wpQ] at h2
        obtain ⟨h3,h4⟩:=h3
        simp only [List.map_cons] at hex
        generalize tail.map a.eval=us at*
        obtain ⟨t1,t2,s1,x1,e1,e2⟩:=AdG h2
        simp only [List.cons.injEq] at e1 e2
        obtain ⟨rfl,rfl⟩:=e1
        obtain ⟨rfl,rfl⟩:=e2
        match us,h3 with
        | [u],_=>
         obtain ⟨val,w',k1,⟨r,H',ι',F',q1,q2,q3,q4⟩,k3⟩:=Ago (P:=P) (ty:=o.type) (u:= .slice none 0 0) (v:=u) hc hg (.fit _ _ _ (.slN _ _ _)) (h4 0 _ _ rfl rfl) h2
         refine Aao (w':=w') (val:=val) ?_ ⟨⟨r,H',ι',F',val,q1,rfl,q2,q3,q4⟩,k3 ⟨_,_,rfl⟩⟩
         rw [hex]
         have:a.eval (.const (.slice none 0 0))= .slice none 0 0:=rfl
         simp only [builtin,Sem.run_bind,this,k1,Result.andThen_ok,Sem.run_pure]
       ·exact h1.elim
      ·exact h1.elim
    ·contradiction
  ·rename_i f hf
   split at hk
   ·contradiction
   rename_i hx
   split at hk
   ·rename_i fi hfi
    split at hk
    ·contradiction
    ·rename_i hmode
     unfold opQ at h
     rw [ho] at h
     simp only [hf,hx] at h
     obtain ⟨vs,h1,h2⟩:=AaE hs (Aaa _ _ _ h)
     have hkk:=AdS (P:=P) hS hg h1 h2
     have hargs:c.args.map a.eval=((c.args.toList.map a.eval).toArray):=Ach _ _
     have hrun:(execOp a.eval o).run P w= .ok (.enter f (c.args.toList.map a.eval).toArray) w:=by
      simp only [execOp,ho,resolve,hf,show a.eval (.func f)= .func (.func f) #[] #[] from rfl]
      simp [Deferred.ofValue,invoke,AaQ hcal hfi,hargs]
     unfold Oper.wp
     rw [hrun]
     refine Calls.mono hkk ?_
     rintro en w' ⟨⟨v,r,H',ι',F',rfl,k1,k2,k3,k4⟩,hold⟩
     exact ⟨⟨r,H',ι',F',v,k1,rfl,k2,k3,k4⟩,hold (fun fi' hfi'=>by
      rw [hfi] at hfi'
      simp at hfi'
      subst hfi'
      exact hmode)⟩
   ·contradiction
  ·contradiction
end
end Go.Eva
namespace Go.Eva
open Go.RowKit
theorem Aik (dst:Option Nat) (v:V) (e:Env) (t:Nat):look (put dst v e) t=if dst=some t then v else look e t:=by
 cases dst with
 |none=>simp [put]
 |some d=>
  simp only [put,look]
  by_cases h:d=t
  ·subst h;simp
  ·have:Nat.beq d t=false:=by
    cases hb:Nat.beq d t with
    |false=>rfl
    |true=>exact absurd (Nat.eq_of_beq_eq_true hb) h
   rw [this]
   simp [h]
structure In (n:Nat) (ι:Io) (F:Nat→Prop) (w:World) (H:Heap) (e:Env) (a:Act):Prop where
 good:Good ι F w H
 sim:Sim ι F w H e a
 size:a.tmps.size=n
 defers:a.defers= []
def fitO (cx:Cx) (n:Nat) (o:Oper):Bool:=opTy cx o&&(match o.dst with
 |some d=>Nat.blt d n
 |none=>true)
section
variable {P:Program} {cx:Cx} {S:Task→(Res→Prop)→Prop} {n:Nat} {ι:Io} {F:Nat→Prop} {w:World} {H:Heap} {e:Env} {a:Act}
theorem In.put {ι':Io} {F':Nat→Prop} {w':World} {H':Heap} {o:Oper} {v:V} {val:Value} (h:In n ι F w H e a) (hf:fitO cx n o=true) (hg:Good ι' F' w' H') (hst:Step ι F H w ι' F' H' w') (hv:VR ι' F' w' H' v val):
  In n ι' F' w' H' (Eva.put o.dst v e) (a.put o.dst val):=by
 refine ⟨hg,fun t=> ?_,?_,?_⟩
 ·rw [Aik]
  unfold fitO at hf
  cases hd:o.dst with
  |none=>simp only [Act.put];simpa using hst.vr h.good (h.sim t)
  |some d=>
   rw [hd] at hf
   simp only [Bool.and_eq_true] at hf
   have hlt:d<n:=by simpa using hf.2
   by_cases e:d=t
   ·subst e
    simp [Act.put,h.size,hlt,hv]
   ·have:(some d=some t)=False:=by simp [e]
    simp only [Act.put,this,if_false]
    have h1:=hst.vr h.good (h.sim t)
    simp only [Array.getD_eq_getD_getElem?] at h1⊢
    rw [Array.getElem?_setIfInBounds_ne e]
    exact h1
 ·cases o.dst<;>simp [Act.put,h.size]
 ·cases o.dst<;>simp [Act.put,h.defers]
theorem In.known {g:Nat} {b:Bool} (h:In n ι F w H e a) (hb:look e g= .t (.bool b)):In n ι F w H ((g,.t (.bool b))::e) a:=by
 refine ⟨h.good,fun t=> ?_,h.size,h.defers⟩
 simp only [look]
 split
 ·rename_i hbq
  obtain rfl:=Nat.eq_of_beq_eq_true hbq
  rw [←hb];exact h.sim g
 ·exact h.sim t
theorem Aie:VR ι F w H (.tup []) undef:= .tup [] #[] rfl (by simp)
def NextOk (n:Nat) (ι:Io) (F:Nat→Prop) (w:World) (H:Heap) (R:Env×Heap→Prop) (a':Act) (w':World):Prop:=
 ∃e' H' ι' F',R (e',H')∧In n ι' F' w' H' e' a'∧Step ι F H w ι' F' H' w'
theorem AhC {ops:Array Oper} {j g:Nat} (h:dstOf ops.toList j=some g):(ops[j]?).bind (·.dst)=some g:=by
 unfold dstOf at h
 rw [Aae] at h
 simp only [Array.getElem?_toList] at h
 cases ho:ops[j]? with
 |none=>simp [ho] at h
 |some o=>simp [ho] at h;simp [h]
theorem AfF {g:Nat} {v:V} (h:In n ι F w H e a) (hv:look e g=v):VR ι F w H v (a.tmps.getD g undef):=hv ▸ h.sim g
theorem AeF {ops:Array Oper} {j g:Nat} {b:Bool} (hd:dstOf ops.toList j=some g) (h:In n ι F w H e a) (hb:look e g= .t (.bool b)):yielded ops a.tmps j=some b:=by
 have h1:=(AfF h hb).t_inv.bool_inv
 have hlt:g<a.tmps.size:=by
  rcases Nat.lt_or_ge g a.tmps.size with h|h
  ·exact h
  ·simp [Array.getD,Nat.not_lt.2 h,undef] at h1
 unfold yielded
 rw [AhC hd]
 simp only [Option.bind_some]
 have:a.tmps[g]?=some (.bool b):=by
  rw [Array.getElem?_eq_getElem hlt]
  simpa [Array.getD,hlt] using h1
 rw [this]
theorem AeW {ops:Array Oper} {j g:Nat} (hd:dstOf ops.toList j=some g) (h:In n ι F w H e a) (hb:look e g= .tup []):yielded ops a.tmps j=none:=by
 have h1:=AfF h hb
 generalize hu:a.tmps.getD g undef=u at h1
 cases h1 with
 |tup _ cs hl hc=>
 unfold yielded
 rw [AhC hd]
 simp only [Option.bind_some]
 cases hq:a.tmps[g]? with
 |none=>rfl
 |some v=>
  have:v= .tuple cs:=by
   rw [←hu]
   simp [Array.getD_eq_getD_getElem?,hq]
  subst this
  rfl
variable {ops:Array Oper} {i:Nat} {o:Oper} {R:Env×Heap→Prop} {Q:Exit→Act→World→Prop}
theorem Ac6 (hi:In n ι F w H e a) (hf:fitO cx n o=true) (h:wpQ S (stepQ cx ops.toList o e H) R):
  (Region.wanted o (yielded ops a.tmps)=true∧ ∃e1,In n ι F w H e1 a∧wpQ S (opQ cx o e1 H) (fun x=>R (Eva.put o.dst x.1 e1,x.2)))∨
  (Region.wanted o (yielded ops a.tmps)=false∧NextOk n ι F w H R (a.put o.dst undef) w):=by
 have skip: ∀e1,In n ι F w H e1 a→R (Eva.put o.dst (.tup []) e1,H)→NextOk n ι F w H R (a.put o.dst undef) w:=fun e1 hi1 hr=>
  ⟨_,_,ι,F,hr,hi1.put hf hi1.good (.refl ι F H w) Aie,.refl ι F H w⟩
 unfold stepQ at h
 unfold Region.wanted
 split at h
 ·rename_i hg
  rw [hg]
  exact .inl ⟨rfl,e,hi,Aaa _ _ _ h⟩
 ·rename_i j ww hg
  rw [hg]
  simp only
  split at h
  ·rename_i g hd
   split at h
   ·rename_i b hb
    rw [AeF hd hi hb]
    simp only [wpQ] at h
    split at h
    ·rename_i hbw
     have:b=ww:=by simpa using hbw
     subst this
     exact .inl ⟨by simp,_,hi.known hb,Aaa _ _ _ h⟩
    ·rename_i hbw
     refine .inr ⟨?_,skip _ (hi.known hb) h⟩
     have:b≠ww:=by simpa using hbw
     simp [this]
   ·rename_i hb
    rw [AeW hd hi hb]
    exact .inr ⟨rfl,skip _ hi h⟩
   ·exact h.elim
  ·exact h.elim
theorem AhR {a':Act} {w':World} {e1:Env} (hi:In n ι F w H e1 a) (hf:fitO cx n o=true) (h:OpPost (fun x=>R (Eva.put o.dst x.1 e1,x.2)) o ι F H w a a' w'):NextOk n ι F w H R a' w':=by
 obtain ⟨v,H',ι',F',val,h1,rfl,h2,h3,h4⟩:=h
 exact ⟨_,_,ι',F',h1,hi.put hf h2 h3 h4,h3⟩
theorem AhM (hc:CxTy P cx) (hcal:Callable P cx) (hS: ∀f az H R,S (.call f az H) R→CallS P f az H R) (ho:ops[i]?=some o) (hi:In n ι F w H e a) (hf:fitO cx n o=true) (h:wpQ S (stepQ cx ops.toList o e H) R):
  wpOp P ops Q i (NextOk n ι F w H R) a w:=by
 unfold wpOp
 rw [ho]
 simp only
 have hty:opTy cx o=true:=by unfold fitO at hf;simp only [Bool.and_eq_true] at hf;exact hf.1
 rcases Ac6 hi hf h with ⟨h1,e1,h2,h3⟩|⟨h1,h2⟩
 ·rw [if_pos h1]
  exact .inl (Oper.wp_mono (fun a' w' hp=>AhR h2 hf hp) (Ajg hc hcal hS h2.good h2.sim hty h3))
 ·rw [h1]
  simpa using h2
theorem Agu (hc:CxTy P cx) (hcal:Callable P cx) (hS: ∀f az H R,S (.call f az H) R→CallS P f az H R) (ho:ops[i]?=some o) (hi:In n ι F w H e a) (hf:fitO cx n o=true) (hk:sort cx o≤2) (h:wpQ S (stepQ cx ops.toList o e H) R):
  wpOp P ops Q i (fun a' w'=>NextOk n ι F w H R a' w'∧OldSame w w') a w:=by
 unfold wpOp
 rw [ho]
 simp only
 have hty:opTy cx o=true:=by unfold fitO at hf;simp only [Bool.and_eq_true] at hf;exact hf.1
 rcases Ac6 hi hf h with ⟨h1,e1,h2,h3⟩|⟨h1,h2⟩
 ·rw [if_pos h1]
  exact .inl (Oper.wp_mono (fun a' w' hp=>⟨AhR h2 hf hp.1,hp.2⟩) (Aio hc hcal hS h2.good h2.sim hty hk h3))
 ·rw [h1]
  simpa using ⟨h2,.refl w⟩
theorem Ad5 {C:World→Prop} (hi:In n ι F w H e a) (hf:fitO cx n o=true) (hst: ∀ {e1:Env} {R:V×Heap→Prop},In n ι F w H e1 a→wpQ S (opQ cx o e1 H) R→Still C P R o ι F H w a) (h:wpQ S (stepQ cx ops.toList o e H) R):
  ∃v,YieldsIf P ops C o v a∧NextOk n ι F w H R (a.put o.dst v) w:=by
 rcases Ac6 hi hf h with ⟨h1,e1,h2,h3⟩|⟨h1,h2⟩
 ·obtain ⟨v,H',ι',F',val,k1,k2,k3,k4,k5⟩:=hst h2 h3
  exact ⟨val,.inl ⟨h1,k5⟩,_,_,ι',F',k1,h2.put hf k2 k3 k4,k3⟩
 ·exact ⟨undef,.inr ⟨h1,rfl⟩,h2⟩
theorem AeI (hc:CxTy P cx) (hcal:Callable P cx) (hS: ∀f az H R,S (.call f az H) R→CallS P f az H R) (hfit: ∀o∈ops.toList,fitO cx n o=true): ∀(l:List Oper) (k:Nat),(∀j,l[j]?=ops[k+j]?)→ ∀ {ι:Io} {F:Nat→Prop} {w:World} {H:Heap} {e:Env} {a:Act} {R:Env×Heap→Prop},
  In n ι F w H e a→wpQ S (runOps cx ops.toList l e H) R→(∀a' w',NextOk n ι F w H R a' w'→Q .normal a' w')→wpOps P ops Q (upto k l.length) a w
 | [],k,_,ι,F,w,H,e,a,R,hi,h,hQ=>by
  exact hQ a w ⟨e,H,ι,F,h,hi,.refl ι F H w⟩
 |o::l,k,hl,ι,F,w,H,e,a,R,hi,h,hQ=>by
  have ho:ops[k]?=some o:=by have:=hl 0;simpa using this.symm
  have hmem:o∈ops.toList:=by
   obtain ⟨hlt,rfl⟩:=Array.getElem?_eq_some_iff.1 ho
   simp
  simp only [List.length_cons,upto]
  rw [wpOps_cons]
  refine wpOp_mono ?_ (AhM (Q:=Q) hc hcal hS ho hi (hfit o hmem) (Aaa _ _ _ h))
  rintro a' w' ⟨e',H',ι',F',h1,h2,h3⟩
  refine AeI hc hcal hS hfit l (k+1) (fun j=>by have:=hl (j+1);simp at this;rw [this];congr 1;omega) h2 h1 ?_
  rintro a'' w'' ⟨e'',H'',ι'',F'',q1,q2,q3⟩
  exact hQ a'' w'' ⟨e'',H'',ι'',F'',q1,q2,h3.trans q3⟩
theorem AgE (n:Nat):upto 0 n=List.range n:=by
 apply List.ext_getElem?
 intro i
 by_cases h:i<n
 ·rw [AcP n 0 i h,List.getElem?_range h,Nat.zero_add]
 ·rw [List.getElem?_eq_none (by rw [AdT];omega),List.getElem?_eq_none (by simp;omega)]
theorem Adm (hc:CxTy P cx) (hcal:Callable P cx) (hS: ∀f az H R,S (.call f az H) R→CallS P f az H R) (hfit: ∀o∈ops.toList,fitO cx n o=true) {id:Nat} (hi:In n ι F w H e a) (h:wpQ S (runOps cx ops.toList ops.toList e H) R)
  (hQ: ∀a' w',NextOk n ι F w H R a' w'→Q .normal a' w'):(Code.region id ops false).wp P Q a w:=by
 refine wp_region ?_
 rw [←AgE]
 have:=AeI (Q:=Q) hc hcal hS hfit ops.toList 0 (by simp) hi h hQ
 simpa using this
end
end Go.Eva
namespace Go.Eva
open Go.RowKit
section
variable {P:Program} {cx:Cx} {ops:Array Oper} {Q:Exit→Act→World→Prop}
def wpAnyR (P:Program) (cx:Cx) (ops:Array Oper) (Q:Exit→Act→World→Prop):Nat→Array Bool→Act→World→Prop
 |0,listed,a,w=>Region.ready .any ops listed= []∧Q .normal a w
 |f+1,listed,a,w=>(Region.ready .any ops listed= []→Q .normal a w)∧
  ∀i∈Region.ready .any ops listed,wpOp P ops Q i (fun a' w'=>((∀o,ops[i]?=some o→sort cx o≤2)→OldSame w w')∧wpAnyR P cx ops Q f (listed.setIfInBounds i true) a' w') a w
theorem Aej: ∀(f:Nat) (listed:Array Bool) (a:Act) (w:World),wpAnyR P cx ops Q f listed a w→wpAny P .any ops Q f listed a w
 |0,_,_,_,h=>h
 |f+1,_,_,_,h=>⟨h.1,fun i hi=>wpOp_mono (fun a' w' k=>Aej f _ a' w' k.2) (h.2 i hi)⟩
def lateOk (ops:Array Oper) (late:List Nat) (i:Nat):Bool:=late.all fun k=>Nat.beq k i||(match ops[k]? with
 |some o=>o.after.any fun e=>Region.binds .any e&&mem late e.on
 |none=>false)
def lateOf (ops:Array Oper):List Nat→List Nat→List Nat
 | [],acc=>acc
 |j::r,acc=>match ops[j]? with
  |some o=>match o.after.any fun e=>Region.binds .any e&&mem acc e.on with
   |true=>lateOf ops r (acc++ [j])
   |false=>lateOf ops r acc
  |none=>lateOf ops r acc
theorem AiY {late:List Nat} {i:Nat} (h:lateOk ops late i=true): ∀k∈late,k≠i→ ∃o,ops[k]?=some o∧ ∃e∈o.after,Region.binds .any e=true∧e.on∈late:=by
 intro k hk hne
 have:=List.all_eq_true.1 h k hk
 simp only [Bool.or_eq_true] at this
 rcases this with this|this
 ·exact absurd (Nat.eq_of_beq_eq_true this) hne
 ·split at this
  ·rename_i o ho
   obtain ⟨ed,hed,hb⟩:=Array.any_eq_true'.1 this
   simp only [Bool.and_eq_true] at hb
   exact ⟨o,ho,ed,hed,hb.1,mem_iff.1 hb.2⟩
  ·contradiction
theorem AdB {i:Nat} {oi:Oper} {v:Value} {C:World→Prop} {late:List Nat} (hi:ops[i]?=some oi) (hsel: ∀(j:Nat) (o:Oper) cs b,ops[j]?=some o→o.op≠ .select cs b) (hQ: ∀c a w,¬Q (.panic c) a w)
  (hlate: ∀k∈late,k≠i→ ∃o,ops[k]?=some o∧ ∃e∈o.after,Region.binds .any e=true∧e.on∈late):
  ∀(f:Nat) (listed:Array Bool) (a:Act) (w:World),(∀k∈late,listed.getD k true=false)→
   (∀j oj,ops[j]?=some oj→j≠i→listed.getD j true=false→j∉late→oi.apart ops oj=true∧ ∀w1 w2,C w1→(sort cx oj≤2→OldSame w1 w2)→C w2)→
   i∈Region.ready .any ops listed→YieldsIf P ops C oi v a→C w→
   wpAnyR P cx ops Q f (listed.setIfInBounds i true) (a.put oi.dst v) w→wpAnyR P cx ops Q (f+1) listed a w:=by
 intro f
 induction f with
 |zero=>
  intro listed a w _ _ hr hy hC h
  refine ⟨fun h0=>by rw [h0] at hr;simp at hr,fun j hj=> ?_⟩
  by_cases e:j=i
  ·subst e;exact hy.wpOp hi hC ⟨fun _=> .refl w,h⟩
  ·have:=ready_mono hj e
   rw [h.1] at this
   simp at this
 |succ f ih=>
  intro listed a w hl hfree hr hy hC h
  refine ⟨fun h0=>by rw [h0] at hr;simp at hr,fun j hj=> ?_⟩
  by_cases e:j=i
  ·subst e;exact hy.wpOp hi hC ⟨fun _=> .refl w,h⟩
  ·have h1:=h.2 j (ready_mono hj e)
   obtain ⟨hun,oj,hoj,hall⟩:=mem_ready.1 hj
   have hnl:j∉late:=by
    intro hjl
    obtain ⟨o,ho,ed,hed,hb,hon⟩:=hlate j hjl e
    rw [hoj] at ho
    obtain rfl:=Option.some.inj ho
    have h2:=hall ed hed hb
    have h3:=hl ed.on hon
    rcases Nat.lt_or_ge ed.on listed.size with hlt|hge
    ·simp [hlt] at h2 h3;rw [h3] at h2;contradiction
    ·simp [Array.getElem?_eq_none hge] at h2
   obtain ⟨hap,hkeep⟩:=hfree j oj hoj e hun hnl
   have h2:=wpOp_putIf hoj hap (fun cs b=>hsel i oi cs b hi) (fun cs b=>hsel j oj cs b hoj) (fun c a w hq=>absurd hq (hQ c _ w)) hy h1
   refine wpOp_mono (fun a' w' k=>⟨k.2.1,?_⟩) h2
   have hC':C w':=hkeep w w' hC (fun hs=>k.2.1 (fun o ho=>by rw [hoj] at ho;obtain rfl:=Option.some.inj ho;exact hs))
   refine ih (listed.setIfInBounds j true) a' w' ?_ ?_ (ready_mono hr (Ne.symm e)) k.1 hC' ?_
   ·intro k' hk'
    rw [getD_set_ne true (show j≠k' from fun h=>hnl (by rw [h];exact hk'))]
    exact hl k' hk'
   ·intro k' ok hk hki hunk hno
    refine hfree k' ok hk hki ?_ hno
    by_cases hjk:j=k'
    ·subst hjk;exact hun
    ·rw [getD_set_ne true hjk] at hunk;exact hunk
   ·rw [Array.setIfInBounds_comm _ _ e]
    exact k.2.2
def freeL (cx:Cx) (ops:Array Oper) (listed:Array Bool) (late:List Nat) (i:Nat) (oi:Oper) (ld:Bool):Bool:=lateOk ops late i&&late.all (fun k=> !listed.getD k true)&&(List.range ops.size).all fun j=>
 Nat.beq j i||listed.getD j true||mem late j||(match ops[j]? with
  |some o=>oi.apart ops o&&(!ld||Nat.ble (sort cx o) 2)
  |none=>true)
theorem AfD {listed:Array Bool} {late:List Nat} {i:Nat} {oi:Oper} {ld:Bool} (h:freeL cx ops listed late i oi ld=true):
  (∀k∈late,k≠i→ ∃o,ops[k]?=some o∧ ∃e∈o.after,Region.binds .any e=true∧e.on∈late)∧(∀k∈late,listed.getD k true=false)∧
  ∀(j:Nat) oj,ops[j]?=some oj→j≠i→listed.getD j true=false→j∉late→oi.apart ops oj=true∧(ld=true→sort cx oj≤2):=by
 unfold freeL at h
 simp only [Bool.and_eq_true] at h
 refine ⟨AiY h.1.1,fun k hk=> ?_,?_⟩
 ·have:=List.all_eq_true.1 h.1.2 k hk
  simpa using this
 intro j oj hj hne hl hno
 have hlt:=(Array.getElem?_eq_some_iff.1 hj).1
 have:=List.all_eq_true.1 h.2 j (List.mem_range.2 hlt)
 simp only [hl,hj,Bool.or_eq_true,Bool.or_false] at this
 rcases this with (this|this)|this
 ·exact absurd (Nat.eq_of_beq_eq_true this) hne
 ·exact absurd (mem_iff.1 this) hno
 ·simp only [Bool.and_eq_true,Bool.or_eq_true] at this
  refine ⟨this.1,fun hld=> ?_⟩
  rcases this.2 with h|h
  ·rw [hld] at h;simp at h
  ·exact Nat.le_of_ble_eq_true h
def isOne (l:List Nat) (i:Nat):Bool:=match l with
 | [x]=>Nat.beq x i
 |_=>false
def isTwo (l:List Nat) (i j:Nat):Bool:=match l with
 | [x,y]=>Nat.beq x i&&Nat.beq y j
 |_=>false
def okTo (cx:Cx) (ops:Array Oper) (fin:Nat→Array Bool→Bool):Ord→Nat→Array Bool→List Nat→Bool
 | .done,f,listed,ex=>ex.isEmpty&&fin f listed
 | .one _ _,0,_,_=>false
 | .one i r,f+1,listed,ex=>(match ops[i]? with
  |some o=>match ex with
   | []=>(Region.ready .any ops listed).contains i&&(match sort cx o with
    |0=>freeL cx ops listed (lateOf ops (List.range ops.size) [i]) i o false
    |1=>freeL cx ops listed (lateOf ops (List.range ops.size) [i]) i o true
    |_=>isOne (Region.ready .any ops listed) i)
   |ex=>isOne ((Region.ready .any ops listed).filter fun k=> !mem ex k) i
  |none=>false)&&okTo cx ops fin r f (listed.setIfInBounds i true) []
 | .two _ _ _ _,0,_,_=>false
 | .two i r j s,f+1,listed,ex=>ex.isEmpty&&(isTwo (Region.ready .any ops listed) i j&&okTo cx ops fin r f (listed.setIfInBounds i true) []&&okTo cx ops fin s f (listed.setIfInBounds j true) [])
 | .alt _ _ _,0,_,_=>false
 | .alt i r s,f+1,listed,ex=>(Region.ready .any ops listed).contains i&&(okTo cx ops fin r f (listed.setIfInBounds i true) []&&okTo cx ops fin s (f+1) listed (i::ex))
def okEnd (ops:Array Oper) (_:Nat) (listed:Array Bool):Bool:=(Region.ready .any ops listed).isEmpty
def okOrd (cx:Cx) (ops:Array Oper) (d:Ord) (f:Nat) (listed:Array Bool) (ex:List Nat):Bool:=okTo cx ops (okEnd ops) d f listed ex
variable {S:Task→(Res→Prop)→Prop} {n:Nat}
theorem Age {l:List Nat} {i:Nat} (h:isOne l i=true):l= [i]:=by
 unfold isOne at h
 split at h
 ·rename_i x;rw [Nat.eq_of_beq_eq_true h]
 ·contradiction
theorem Ai5 (hc:CxTy P cx) (hcal:Callable P cx) (hS: ∀f az H R,S (.call f az H) R→CallS P f az H R) (hfit: ∀o∈ops.toList,fitO cx n o=true) (hsel:Region.noSelect ops=true) (hQ: ∀c a w,¬Q (.panic c) a w) {fin:Nat→Array Bool→Bool}: ∀(d:Ord) (f:Nat) (listed:Array Bool) (ex:List Nat) {ι:Io} {F:Nat→Prop} {w:World} {H:Heap} {e:Env} {a:Act} {R:Env×Heap→Prop},
  okTo cx ops fin d f listed ex=true→In n ι F w H e a→wpQ S (ordQ cx ops.toList d e H) R→(∀f listed,fin f listed=true→ ∀a' w',NextOk n ι F w H R a' w'→wpAnyR P cx ops Q f listed a' w')→(ex= []→wpAnyR P cx ops Q f listed a w)∧
   ∀g,f=g+1→ ∀k∈Region.ready .any ops listed,k∉ex→wpOp P ops Q k (fun a' w'=>((∀o,ops[k]?=some o→sort cx o≤2)→OldSame w w')∧wpAnyR P cx ops Q g (listed.setIfInBounds k true) a' w') a w:=by
 intro d
 have fit: ∀ {i:Nat} {o:Oper},ops[i]?=some o→fitO cx n o=true:=by
  intro i o ho
  obtain ⟨hlt,rfl⟩:=Array.getElem?_eq_some_iff.1 ho
  exact hfit _ (by simp)
 have both: ∀ {f:Nat} {listed:Array Bool} {a:Act} {w:World} {ex:List Nat},ex= []→wpAnyR P cx ops Q f listed a w→(ex= []→wpAnyR P cx ops Q f listed a w)∧
   ∀g,f=g+1→ ∀k∈Region.ready .any ops listed,k∉ex→wpOp P ops Q k (fun a' w'=>((∀o,ops[k]?=some o→sort cx o≤2)→OldSame w w')∧wpAnyR P cx ops Q g (listed.setIfInBounds k true) a' w') a w:=by
  intro f listed a w ex _ h
  exact ⟨fun _=>h,fun g hg k hk _=>by subst hg;exact h.2 k hk⟩
 have go: ∀(i:Nat) (o:Oper) (r:Ord) (f:Nat) (listed:Array Bool) {ι:Io} {F:Nat→Prop} {w:World} {H:Heap} {e:Env} {a:Act} {R:Env×Heap→Prop},In n ι F w H e a→(∀f listed,fin f listed=true→ ∀a' w',NextOk n ι F w H R a' w'→wpAnyR P cx ops Q f listed a' w')→ops[i]?=some o→okTo cx ops fin r f (listed.setIfInBounds i true) []=true→(∀(f:Nat) (listed:Array Bool) (ex:List Nat) {ι:Io} {F:Nat→Prop} {w:World} {H:Heap} {e:Env} {a:Act} {R:Env×Heap→Prop},
   okTo cx ops fin r f listed ex=true→In n ι F w H e a→wpQ S (ordQ cx ops.toList r e H) R→(∀f listed,fin f listed=true→ ∀a' w',NextOk n ι F w H R a' w'→wpAnyR P cx ops Q f listed a' w')→(ex= []→wpAnyR P cx ops Q f listed a w)∧
   ∀g,f=g+1→ ∀k∈Region.ready .any ops listed,k∉ex→wpOp P ops Q k (fun a' w'=>((∀o,ops[k]?=some o→sort cx o≤2)→OldSame w w')∧wpAnyR P cx ops Q g (listed.setIfInBounds k true) a' w') a w)→wpQ S ((stepQ cx ops.toList o e H).bind fun (e,H)=>ordQ cx ops.toList r e H) R→
   wpOp P ops Q i (fun a' w'=>((∀o,ops[i]?=some o→sort cx o≤2)→OldSame w w')∧wpAnyR P cx ops Q f (listed.setIfInBounds i true) a' w') a w:=by
  intro i o r f listed ι F w H e a R hi hq ho hokr ih h
  have h1:=Aaa _ _ _ h
  have next: ∀a' w',NextOk n ι F w H (fun x=>wpQ S (ordQ cx ops.toList r x.1 x.2) R) a' w'→wpAnyR P cx ops Q f (listed.setIfInBounds i true) a' w':=by
   rintro a' w' ⟨e',H',ι',F',k1,k2,k3⟩
   refine (ih f _ [] hokr k2 k1 ?_).1 rfl
   rintro f' listed' hfin a'' w'' ⟨e'',H'',ι'',F'',q1,q2,q3⟩
   exact hq f' listed' hfin a'' w'' ⟨e'',H'',ι'',F'',q1,q2,k3.trans q3⟩
  by_cases hs:sort cx o≤2
  ·exact wpOp_mono (fun a' w' k=>⟨fun _=>k.2,next a' w' k.1⟩) (Agu hc hcal hS ho hi (fit ho) hs h1)
  ·exact wpOp_mono (fun a' w' k=>⟨fun hh=>absurd (hh o ho) hs,next a' w' k⟩) (AhM hc hcal hS ho hi (fit ho) h1)
 induction d with
 |done=>
  intro f listed ex ι F w H e a R hok hi h hq
  simp only [okTo,Bool.and_eq_true] at hok
  have hex:ex= []:=by simpa using hok.1
  exact both hex (hq f listed hok.2 a w ⟨e,H,ι,F,h,hi,.refl ι F H w⟩)
 |one i r ih=>
  intro f listed ex ι F w H e a R hok hi h hq
  cases f with
  |zero=>simp [okTo] at hok
  |succ f=>
   simp only [okTo,Bool.and_eq_true] at hok
   obtain ⟨hok1,hok2⟩:=hok
   unfold ordQ at h
   rw [Aae] at h
   simp only [Array.getElem?_toList] at h
   split at hok1
   ·rename_i o ho
    rw [ho] at h
    simp only at h
    split at hok1
    ·refine both rfl ?_
     have h1:=Aaa _ _ _ h
     simp only [Bool.and_eq_true,List.contains_eq_mem,decide_eq_true_eq] at hok1
     obtain ⟨hrd,hok1⟩:=hok1
     have next: ∀a' w',NextOk n ι F w H (fun x=>wpQ S (ordQ cx ops.toList r x.1 x.2) R) a' w'→wpAnyR P cx ops Q f (listed.setIfInBounds i true) a' w':=by
      rintro a' w' ⟨e',H',ι',F',k1,k2,k3⟩
      refine (ih f _ [] hok2 k2 k1 ?_).1 rfl
      rintro f' listed' hfin a'' w'' ⟨e'',H'',ι'',F'',q1,q2,q3⟩
      exact hq f' listed' hfin a'' w'' ⟨e'',H'',ι'',F'',q1,q2,k3.trans q3⟩
     have hty:opTy cx o=true:=by have:=fit ho;unfold fitO at this;simp only [Bool.and_eq_true] at this;exact this.1
     split at hok1
     ·rename_i hs
      obtain ⟨v,k1,k2⟩:=Ad5 (P:=P) (ops:=ops) (C:=Any) hi (fit ho) (fun hi' h'=>Af0 hc hi'.good hi'.sim hty hs h') h1
      obtain ⟨q1,q2,q3⟩:=AfD hok1
      exact AdB ho (Region.noSelect_spec hsel) hQ q1 f listed a w q2 (fun j oj hj hne hl hno=>⟨(q3 j oj hj hne hl hno).1,fun _ _ _ _=>trivial⟩) hrd k1 trivial (next _ _ k2)
     ·rename_i hs
      obtain ⟨q1,q2,q3⟩:=AfD hok1
      obtain ⟨v,k1,k2⟩:=Ad5 (P:=P) (ops:=ops) (C:=OldSame w) hi (fit ho) (fun hi' h'=>AfU hc hi'.good hi'.sim hty (by omega) h') h1
      exact AdB ho (Region.noSelect_spec hsel) hQ q1 f listed a w q2 (fun j oj hj hne hl hno=>⟨(q3 j oj hj hne hl hno).1,fun w1 w2 hw1 hk=>hw1.trans (hk ((q3 j oj hj hne hl hno).2 rfl))⟩) hrd k1 (.refl w) (next _ _ k2)
     ·have hone:=Age hok1
      refine ⟨fun h0=>by rw [hone] at h0;simp at h0,fun j hj=> ?_⟩
      rw [hone] at hj
      simp only [List.mem_singleton] at hj
      subst hj
      exact go _ o r f listed hi hq ho hok2 ih h
    ·rename_i hex
     refine ⟨fun e=>absurd e hex,fun g hg k hk hne=> ?_⟩
     obtain rfl:f=g:=by omega
     have hone:=Age hok1
     have:k∈(Region.ready .any ops listed).filter fun k=> !mem ex k:=by
      rw [List.mem_filter]
      refine ⟨hk,?_⟩
      cases hm:mem ex k with
      |false=>rfl
      |true=>exact absurd (mem_iff.1 hm) hne
     rw [hone] at this
     simp only [List.mem_singleton] at this
     subst this
     exact go _ o r f listed hi hq ho hok2 ih h
   ·contradiction
 |two i r j s ihr ihs=>
  intro f listed ex ι F w H e a R hok hi h hq
  cases f with
  |zero=>simp [okTo] at hok
  |succ f=>
   simp only [okTo,Bool.and_eq_true] at hok
   obtain ⟨hex,⟨hok1,hokr⟩,hoks⟩:=hok
   refine both (by simpa using hex) ?_
   have htwo:Region.ready .any ops listed= [i,j]:=by
    unfold isTwo at hok1
    split at hok1
    ·rename_i x y hx
     simp only [Bool.and_eq_true] at hok1
     rw [hx,Nat.eq_of_beq_eq_true hok1.1,Nat.eq_of_beq_eq_true hok1.2]
    ·contradiction
   unfold ordQ at h
   rw [Aae,Aae] at h
   simp only [Array.getElem?_toList] at h
   split at h
   ·rename_i o p ho hp
    obtain ⟨h1,h2⟩:=h
    refine ⟨fun h0=>by rw [htwo] at h0;simp at h0,fun k hk=> ?_⟩
    rw [htwo] at hk
    simp only [List.mem_cons,List.not_mem_nil,or_false] at hk
    rcases hk with rfl|rfl
    ·exact go _ o r f listed hi hq ho hokr ihr h1
    ·exact go _ p s f listed hi hq hp hoks ihs h2
   ·exact h.elim
 |alt i r s ihr ihs=>
  intro f listed ex ι F w H e a R hok hi h hq
  cases f with
  |zero=>simp [okTo] at hok
  |succ f=>
   simp only [okTo,Bool.and_eq_true,List.contains_eq_mem,decide_eq_true_eq] at hok
   obtain ⟨hrd,hokr,hoks⟩:=hok
   unfold ordQ at h
   rw [Aae] at h
   simp only [Array.getElem?_toList] at h
   split at h
   ·rename_i o ho
    obtain ⟨h1,h2⟩:=h
    have key: ∀k∈Region.ready .any ops listed,k∉ex→wpOp P ops Q k (fun a' w'=>((∀o,ops[k]?=some o→sort cx o≤2)→OldSame w w')∧wpAnyR P cx ops Q f (listed.setIfInBounds k true) a' w') a w:=by
     intro k hk hne
     by_cases hki:k=i
     ·subst hki
      exact go _ o r f listed hi hq ho hokr ihr h1
     ·exact (ihs (f+1) listed (i::ex) hoks hi h2 hq).2 f rfl k hk (by simp [hki,hne])
    refine ⟨fun hex=>⟨fun h0=>by rw [h0] at hrd;simp at hrd,fun k hk=>key k hk (by rw [hex];simp)⟩,fun g hg k hk hne=> ?_⟩
    obtain rfl:f=g:=by omega
    exact key k hk hne
   ·exact h.elim
theorem AiM (hc:CxTy P cx) (hcal:Callable P cx) (hS: ∀f az H R,S (.call f az H) R→CallS P f az H R) (hfit: ∀o∈ops.toList,fitO cx n o=true) (hsel:Region.noSelect ops=true) (hQ: ∀c a w,¬Q (.panic c) a w) {d:Ord} {id:Nat} {ι:Io} {F:Nat→Prop} {w:World} {H:Heap} {e:Env} {a:Act} {R:Env×Heap→Prop}
  (hok:okOrd cx ops d ops.size (Array.replicate ops.size false) []=true) (hi:In n ι F w H e a) (h:wpQ S (ordQ cx ops.toList d e H) R) (hq: ∀a' w',NextOk n ι F w H R a' w'→Q .normal a' w'):(Code.region id ops true).wp P Q a w:=by
 refine wp_region_any hc.orders (Aej (cx:=cx) _ _ _ _ ?_)
 obtain ⟨d1,d2⟩:=Ab6 hi.good
 have hi':In n ι F {w with drawn:=w.drawn+1} H e a:=⟨d1,fun t=>d2.vr hi.good (hi.sim t),hi.size,hi.defers⟩
 refine (Ai5 hc hcal hS hfit hsel hQ d _ _ [] hok hi' h ?_).1 rfl
 rintro f listed hfin a' w' ⟨e',H',ι',F',q1,q2,q3⟩
 have hr:Region.ready .any ops listed= []:=by simpa [okEnd] using hfin
 have hQ1:=hq a' w' ⟨e',H',ι',F',q1,q2,d2.trans q3⟩
 cases f with
 |zero=>exact ⟨hr,hQ1⟩
 |succ f=>exact ⟨fun _=>hQ1,by rw [hr];simp⟩
end
end Go.Eva
namespace Go.Eva
open Go.RowKit
def exEq:Exit→Ex→Prop
 | .normal,.normal=>True
 | .exit i,.exit j=>i=j
 | .ret,.ret=>True
 |_,_=>False
def LoopWp (P:Program) (c:Code) (Q:Exit→Act→World→Prop) (a:Act) (w:World):Prop:=
 ∀(b:Frame) (k:List Item) (cs:List Frame),∃e a' w',Q e a' w'∧Arrives P (lone (b.at a (.code c:: .inLoop c::k)) cs w) b k cs e a' w'
theorem LoopWp.wp {P:Program} {c:Code} {Q:Exit→Act→World→Prop} {a:Act} {w:World} (h:LoopWp P c Q a w):(Code.loop c).wp P Q a w:=fun b k cs=>
 let ⟨e,a',w',q,r⟩:=h b k cs;⟨e,a',w',q,.of_steps (.one step_loop) r⟩
theorem LoopWp.round {P:Program} {c:Code} {Q:Exit→Act→World→Prop} {a:Act} {w:World} (h:c.wp P (Exit.then (LoopWp P c Q) Q) a w):LoopWp P c Q a w:=by
 intro b k cs
 obtain ⟨e,a₁,w₁,hq,harr⟩:=h b (.inLoop c::k) cs
 cases e with
 |normal=>
  obtain ⟨e₂,a₂,w₂,hq₂,harr₂⟩:=hq b k cs
  exact ⟨e₂,a₂,w₂,hq₂,.of_steps (Steps.trans harr (.one step_inLoop)) harr₂⟩
 |exit id=>exact ⟨_,a₁,w₁,hq,.pass (x:= .inLoop c) rfl (fun _ _=> .inl (by simp)) harr⟩
 |goto l=>exact ⟨_,a₁,w₁,hq,.pass (x:= .inLoop c) rfl (fun _ _=> .inl (by simp)) harr⟩
 |ret=>exact ⟨_,a₁,w₁,hq,.pass (x:= .inLoop c) rfl (fun _ _=> .inl (by simp)) harr⟩
 |panic ch=>exact ⟨_,a₁,w₁,hq,.pass (x:= .inLoop c) rfl (fun _ _=> .inl (by simp)) harr⟩
 |outgrown=>exact ⟨_,a₁,w₁,hq,.pass (x:= .inLoop c) rfl (fun _ _=> .inl (by simp)) harr⟩
def fitC (cx:Cx) (fi:FI) (n:Nat):Code→Bool
 | .region id ops draw=>ops.toList.all (fitO cx n)&&(match draw with
  |false=>true
  |true=>Region.noSelect ops&&(match drawAt fi.draws id with
   |some d=>okOrd cx ops d ops.size (Array.replicate ops.size false) []
   |none=>true))
 | .seq a b=>fitC cx fi n a&&fitC cx fi n b
 | .cond _ a b=>fitC cx fi n a&&fitC cx fi n b
 | .block _ a=>fitC cx fi n a
 | .loop a=>fitC cx fi n a
 |_=>true
theorem Ajc {cx:Cx} {n m:Nat} {o:Oper} (h:fitO cx n o=true) (hnm:n≤m):fitO cx m o=true:=by
 unfold fitO at*
 simp only [Bool.and_eq_true] at*
 refine ⟨h.1,?_⟩
 cases hd:o.dst with
 |none=>rfl
 |some d=>
  rw [hd] at h
  have:d<n:=by simpa using h.2
  simpa using Nat.lt_of_lt_of_le this hnm
theorem AiR {cx:Cx} {fi:FI} {n m:Nat} (hnm:n≤m): ∀ {c:Code},fitC cx fi n c=true→fitC cx fi m c=true:=by
 intro c
 induction c with
 |region id ops draw=>
  intro h
  simp only [fitC,Bool.and_eq_true] at*
  refine ⟨List.all_eq_true.2 fun o ho=>Ajc (List.all_eq_true.1 h.1 o ho) hnm,h.2⟩
 |seq a b iha ihb=>intro h;simp only [fitC,Bool.and_eq_true] at*;exact ⟨iha h.1,ihb h.2⟩
 |cond c a b iha ihb=>intro h;simp only [fitC,Bool.and_eq_true] at*;exact ⟨iha h.1,ihb h.2⟩
 |block id a ih=>intro h;simp only [fitC] at*;exact ih h
 |loop a ih=>intro h;simp only [fitC] at*;exact ih h
 |_=>intro _;rfl
def rvOf:ResultVar→RV
 | .tmp t=> .tmp t
 | .cell a t=> .cell a t
def rvTy (cx:Cx):RV→Bool
 | .tmp _=>true
 | .cell _ t=>(cx.ti.get t).isSome
structure FnOK (P:Program) (cx:Cx) (f:Nat) (fi:FI) (fn:Func):Prop where
 at_:P.funcs[f]?=some fn
 name : fn.name ≠ "runtime.NumGoroutine"
 body:fn.body=some fi.code
 res:fn.results.toList.map rvOf=fi.res
 resTy:fi.res.all (rvTy cx)=true
 fit:fitC cx fi fn.ntmps fi.code=true
def FnsOK (P:Program) (cx:Cx):Prop:= ∀f fi,cx.fn.get f=some (some fi)→ ∃fn,FnOK P cx f fi fn
theorem FnsOK.callable {P:Program} {cx:Cx} (h:FnsOK P cx):Callable P cx:=by
 intro f fi hf
 obtain ⟨fn,k⟩:=h f fi hf
 exact ⟨fn,k.at_,k.name,by rw [k.body];simp⟩
def LoopS (P:Program) (cx:Cx) (f:Nat) (p:List Nat) (keep:Nat) (vs:List V) (H:Heap) (R:Res→Prop):Prop:=
 ∀fi c live n,cx.fn.get f=some (some fi)→subAt fi.code p=some (.loop c)→liveAt fi.live p=some live→fitC cx fi n fi.code=true→
  ∀(w:World) (ι:Io) (F:Nat→Prop) (a:Act),In n ι F w H (zipE live vs) a→
   LoopWp P c (fun ex a' w'=> ∃x ι' F',R x∧exEq ex x.e∧In n ι' F' w' x.H (zipE live x.vs) a'∧Ext keep ι F H w ι' F' x.H w') a w
def TaskS (P:Program) (cx:Cx):Task→(Res→Prop)→Prop
 | .call f az H,R=>CallS P f az H R
 | .loop f p keep vs H,R=>LoopS P cx f p keep vs H R
theorem Ah9 {cx:Cx} {fi:FI} {n:Nat} {c:Code} (h:fitC cx fi n c=true): ∀ {p:List Nat} {d:Code},subAt c p=some d→fitC cx fi n d=true:=by
 intro p
 induction p with
 |nil=>intro d hd;simp [subAt] at hd;subst hd;exact h
 |cons k p ih=>
  intro d hd
  simp only [subAt] at hd
  split at hd
  ·rename_i a b hs
   have:=ih hs
   simp only [fitC,Bool.and_eq_true] at this
   split at hd<;>(simp at hd;subst hd)
   ·exact this.1
   ·exact this.2
  ·rename_i a b hs
   have:=ih hs
   simp only [fitC,Bool.and_eq_true] at this
   split at hd<;>(simp at hd;subst hd)
   ·exact this.1
   ·exact this.2
  ·rename_i a hs
   have:=ih hs
   simp only [fitC] at this
   simp at hd;subst hd;exact this
  ·rename_i a hs
   have:=ih hs
   simp only [fitC] at this
   simp at hd;subst hd;exact this
  ·contradiction
section
variable {P:Program} {cx:Cx} {S:Task→(Res→Prop)→Prop} {n:Nat}
def slots (a:Act) (live:List Nat):List Value:=live.map fun t=>a.tmps.getD t undef
theorem Ace {ι:Io} {F:Nat→Prop} {w:World} {H:Heap} {e:Env} {a:Act} (hi:In n ι F w H e a): ∀ {live:List Nat} {R:List V→Prop},wpQ S (looks e live) R→ ∃vs,R vs∧VRs ι F w H vs (slots a live)
 | [],R,h=>⟨[],h,rfl,by simp⟩
 |t::live,R,h=>by
  have h1:=Aak (Aaa _ _ _ h)
  obtain ⟨vs,h2,h3,h4⟩:=Ace hi (Aaa _ _ _ h1)
  refine ⟨_::vs,h2,by simp [slots,h3],?_⟩
  intro i v u hv hu
  cases i with
  |zero=>simp [slots] at hv hu;subst hv;subst hu;simpa using hi.sim t
  |succ i=>simp [slots] at hv hu;exact h4 i v u hv (by simpa [slots] using hu)
theorem Aa0 {ι:Io} {F:Nat→Prop} {w:World} {H:Heap} {a:Act}: ∀ {live:List Nat} {vs:List V},VRs ι F w H vs (slots a live)→Sim ι F w H (zipE live vs) a
 | [],vs,_,t=>by cases vs<;>exact .t _ _ (.any _)
 |_::_,[],_,t=> .t _ _ (.any _)
 |x::live,v::vs,h,t=>by
  simp only [zipE,look]
  split
  ·rename_i hb
   obtain rfl:=Nat.eq_of_beq_eq_true hb
   exact h.2 0 v _ rfl rfl
  ·exact Aa0 (live:=live) (vs:=vs) ⟨by have:=h.1;simpa [slots] using this,fun i v u h1 h2=>h.2 (i+1) v u (by simpa using h1) (by simpa [slots] using h2)⟩ t
def ExecQ (n keep:Nat) (ι:Io) (F:Nat→Prop) (H:Heap) (w:World) (R:Ex×Env×Heap→Prop) (ex:Exit) (a':Act) (w':World):Prop:=
 ∃x e' H' ι' F',exEq ex x∧R (x,e',H')∧In n ι' F' w' H' e' a'∧Ext keep ι F H w ι' F' H' w'
theorem AgV (hc:CxTy P cx) (hfn:FnsOK P cx) (hS: ∀t R,S t R→TaskS P cx t R) {f:Nat} {fi:FI} (hf:cx.fn.get f=some (some fi)) (hfit:fitC cx fi n fi.code=true) (keep:Nat):
  ∀(c:Code) (p:List Nat),subAt fi.code p=some c→ ∀ {ι:Io} {F:Nat→Prop} {w:World} {H:Heap} {e:Env} {a:Act} {R:Ex×Env×Heap→Prop},In n ι F w H e a→wpQ S (exec cx f fi keep p c e H) R→c.wp P (ExecQ n keep ι F H w R) a w:=by
 have hSc: ∀f az H R,S (.call f az H) R→CallS P f az H R:=fun f az H R h=>hS _ _ h
 have hcal:=hfn.callable
 have nop: ∀ {ι:Io} {F:Nat→Prop} {w:World} {H:Heap} {R:Ex×Env×Heap→Prop} c a w',¬ExecQ n keep ι F H w R (.panic c) a w':=by
  rintro ι F w H R c a w' ⟨x,_,_,_,_,hx,_⟩
  cases x<;>exact hx
 have same: ∀ {ι:Io} {F:Nat→Prop} {w:World} {H:Heap},Ext keep ι F H w ι F H w:=fun {ι F w H}=>(Step.refl ι F H w).ext keep
 have nextQ: ∀ {ι:Io} {F:Nat→Prop} {w:World} {H:Heap} {R:Ex×Env×Heap→Prop} a' w',NextOk n ι F w H (fun x=>R (.normal,x.1,x.2)) a' w'→ExecQ n keep ι F H w R .normal a' w':=by
  rintro ι F w H R a' w' ⟨e',H',ι',F',k1,k2,k3⟩
  exact ⟨.normal,e',H',ι',F',trivial,k1,k2,k3.ext keep⟩
 intro c
 induction c with
 |skip=>intro p _ ι F w H e a R hi h;exact wp_skip ⟨.normal,e,H,ι,F,trivial,h,hi,same⟩
 |region id ops draw=>
  intro p hp ι F w H e a R hi h
  have hfr:=Ah9 hfit hp
  simp only [fitC,Bool.and_eq_true] at hfr
  have hall:=fun o ho=>List.all_eq_true.1 hfr.1 o ho
  cases draw with
  |false=>
   simp only [exec] at h
   exact Adm hc hcal hSc hall hi (Aaa _ _ _ h) nextQ
  |true=>
   simp only [exec] at h
   split at h
   ·rename_i d hd
    have hfr2:=hfr.2
    rw [hd] at hfr2
    simp only [Bool.and_eq_true] at hfr2
    exact AiM hc hcal hSc hall hfr2.1 nop hfr2.2 hi (Aaa _ _ _ h) nextQ
   ·exact h.elim
 |seq x y ihx ihy=>
  intro p hp ι F w H e a R hi h
  simp only [exec] at h
  refine wp_seq (wp_mono (ihx (0::p) (by simp [subAt,hp]) hi (Aaa _ _ _ h)) ?_)
  rintro ex a' w' ⟨x',e',H',ι',F',hx,hr,hi',he⟩
  cases ex<;>cases x'<;>simp only [exEq] at hx
  ·simp only [Exit.then]
   refine wp_mono (ihy (1::p) (by simp [subAt,hp]) hi' hr) ?_
   rintro ex2 a2 w2 ⟨x2,e2,H2,ι2,F2,hx2,hr2,hi2,he2⟩
   exact ⟨x2,e2,H2,ι2,F2,hx2,hr2,hi2,he.trans he2⟩
  ·exact ⟨.exit _,e',H',ι',F',hx,hr,hi',he⟩
  ·exact ⟨.ret,e',H',ι',F',trivial,hr,hi',he⟩
 |cond co x y ihx ihy=>
  intro p hp ι F w H e a R hi h
  simp only [exec] at h
  split at h
  ·rename_i t ht
   have hev:=Aaf hi.sim co
   rw [ht] at hev
   have hev:=hev.t_inv.bool_inv
   simp only [wpQ] at h
   refine wp_cond (t:=t) hev ?_
   cases t with
   |true=>exact ihx (0::p) (by simp [subAt,hp]) hi h
   |false=>exact ihy (1::p) (by simp [subAt,hp]) hi h
  ·exact h.elim
 |block id x ih=>
  intro p hp ι F w H e a R hi h
  simp only [exec] at h
  refine wp_block (wp_mono (ih (0::p) (by simp [subAt,hp]) hi (Aaa _ _ _ h)) ?_)
  rintro ex a' w' ⟨x',e',H',ι',F',hx,hr,hi',he⟩
  cases ex<;>cases x'<;>simp only [exEq] at hx
  ·exact ⟨.normal,e',H',ι',F',trivial,hr,hi',he⟩
  ·rename_i i j
   subst hx
   simp only [Exit.inBlock]
   simp only at hr
   by_cases hij:i=id
   ·subst hij
    rw [if_pos rfl]
    have:Nat.beq i i=true:=by simp
    rw [this] at hr
    exact ⟨.normal,e',H',ι',F',trivial,hr,hi',he⟩
   ·rw [if_neg hij]
    have:Nat.beq i id=false:=by
     cases hb:Nat.beq i id with
     |false=>rfl
     |true=>exact absurd (Nat.eq_of_beq_eq_true hb) hij
    rw [this] at hr
    exact ⟨.exit i,e',H',ι',F',rfl,hr,hi',he⟩
  ·exact ⟨.ret,e',H',ι',F',trivial,hr,hi',he⟩
 |loop x ih=>
  intro p hp ι F w H e a R hi h
  simp only [exec] at h
  split at h
  ·rename_i live hlive
   obtain ⟨vs,h1,h2⟩:=Ace hi (Aaa _ _ _ h)
   obtain ⟨vs1,H1,ι1,h1,hg1,hs1,h2⟩:=AhJ hi.good (Aaa _ _ _ h1) h2
   obtain ⟨H2,ι2,h1,hg2,hs2⟩:=Acq hg1 (Aaa _ _ _ h1)
   replace h2:=Abh hg1 hs2 h2
   obtain ⟨g,ιg,h3,_,_,_,hgg,hgv,hge⟩:=gc_ok hg2 (Aaa _ _ _ h1) h2
   replace hge:=((hs1.trans hs2).ext keep).trans hge
   obtain ⟨R',hR',_,h4⟩:=h3
   have hig:In n ιg F w g.H (zipE live g.vs) a:=⟨hgg,Aa0 hgv,hi.size,hi.defers⟩
   have hloop:=hS _ _ hR' fi x live n hf hp hlive hfit w ιg F a hig
   refine wp_mono hloop.wp ?_
   rintro ex a' w' ⟨r,ι',F',hr,hx,hi',he⟩
   exact ⟨r.e,zipE live r.vs,r.H,ι',F',hx,h4 r hr,hi',hge.trans he⟩
  ·exact h.elim
 |exit id=>intro p _ ι F w H e a R hi h;exact wp_exit ⟨.exit id,e,H,ι,F,rfl,h,hi,same⟩
 |ret=>intro p _ ι F w H e a R hi h;exact wp_ret ⟨.ret,e,H,ι,F,trivial,h,hi,same⟩
 |rangeFunc f ps az b _ _=>intro p _ ι F w H e a R hi h;exact h.elim
 |scope b _=>intro p _ ι F w H e a R hi h;exact h.elim
 |label l=>intro p _ ι F w H e a R hi h;exact h.elim
 |goto l=>intro p _ ι F w H e a R hi h;exact h.elim
 |refuse s=>intro p _ ι F w H e a R hi h;exact h.elim
end
end Go.Eva
namespace Go.Eva
open Go.RowKit
theorem LoopWp.mono {P:Program} {c:Code} {Q Q':Exit→Act→World→Prop} {a:Act} {w:World} (h:LoopWp P c Q a w) (hq: ∀e a w,Q e a w→Q' e a w):LoopWp P c Q' a w:=
 fun b k cs=>let ⟨e,a',w',q,r⟩:=h b k cs;⟨e,a',w',hq _ _ _ q,r⟩
theorem Afk {ι:Io} {F:Nat→Prop} {w:World} {H:Heap} {vs:List V} {us:List Value} (h:VRs ι F w H vs us):ResR ι F w H vs (if h:us.toArray.size=1 then us.toArray[0] else .tuple us.toArray):=by
 match vs,us,h.1 with
 | [v],[u],_=>exact h.2 0 v u rfl rfl
 | [],[],_=>exact ⟨#[],rfl,rfl,by simp⟩
 |v::v'::r,u::u'::r',hl=>
  refine ⟨(u::u'::r').toArray,?_,by simpa using h.1,fun i x c hx hc=>h.2 i x c hx (by simpa using hc)⟩
  rw [dif_neg (by simp)]
def rvSem (tmps:Array Value):ResultVar→Sem Value
 | .tmp t=>pure (tmps.getD t undef)
 | .cell x t=>do loadVar t (←asAddr (tmps.getD x undef))
def Ev (cx:Cx) (t:Task) (R:Res→Prop):Prop:= ∀P,CxTy P cx→FnsOK P cx→TaskS P cx t R
section
variable {P:Program} {cx:Cx} {S:Task→(Res→Prop)→Prop}
theorem AgX (hc:CxTy P cx) {n:Nat} {ι:Io} {F:Nat→Prop} {w:World} {H:Heap} {e:Env} {a:Act} (hi:In n ι F w H e a): ∀ {rs:List ResultVar} {R:List V→Prop},(rs.map rvOf).all (rvTy cx)=true→wpQ S (resV cx e H (rs.map rvOf)) R→
  ∃vs us,R vs∧VRs ι F w H vs us∧(rs.mapM (rvSem a.tmps)).run P w= .ok us w
 | [],R,_,h=>⟨[],[],h,⟨rfl,by simp⟩,rfl⟩
 |r::rs,R,ht,h=>by
  simp only [List.map_cons,List.all_cons,Bool.and_eq_true] at ht
  have fin: ∀ {v:V} {u:Value},wpQ S ((resV cx e H (rs.map rvOf)).bind fun l=> .ret (v::l)) R→VR ι F w H v u→(rvSem a.tmps r).run P w= .ok u w→
    ∃vs us,R vs∧VRs ι F w H vs us∧((r::rs).mapM (rvSem a.tmps)).run P w= .ok us w:=by
   intro v u h hv hr
   obtain ⟨vs,us,h1,h2,h3⟩:=AgX hc hi ht.2 (Aaa _ _ _ h)
   refine ⟨v::vs,u::us,h1,⟨by simp [h2.1],?_⟩,?_⟩
   ·intro i x c hx hcc
    cases i with
    |zero=>simp at hx hcc;subst hx;subst hcc;exact hv
    |succ i=>simp at hx hcc;exact h2.2 i x c hx hcc
   ·rw [List.mapM_cons,Sem.run_bind,hr]
    simp only [Result.andThen_ok,Sem.run_bind,h3,Sem.run_pure]
  cases r with
  |tmp t=>
   have h1:=Aak (Aaa _ _ _ h)
   exact fin h1 (hi.sim t) rfl
  |cell x t=>
   obtain ⟨i,hti⟩:=Option.isSome_iff_exists.1 ht.1
   obtain ⟨v,u,h1,h2,_,ad,h3,h4⟩:=Aeu (P:=P) hc hi.good hti (Aaa _ _ _ h) (hi.sim x)
   refine fin h1 h2 ?_
   simp [rvSem,h3,asAddr,h4 w (.refl w)]
theorem AiK (hc:CxTy P cx) (hfn:FnsOK P cx) (hS: ∀t R,S t R→TaskS P cx t R) {t:Task} {R:Res→Prop} (h:wpQ S (body cx t) R):TaskS P cx t R:=by
 cases t with
 |call f az H=>
  intro w ι F vals hg hv
  simp only [body] at h
  split at h
  ·rename_i fi hf
   obtain ⟨fn,hok⟩:=hfn f fi hf
   refine calls_of_wp hok.at_ hok.body ?_
   have hfit:=AiR (Nat.le_trans (Nat.le_max_left fn.ntmps vals.size) (Nat.le_of_eq (show max fn.ntmps vals.size=vals.size+(fn.ntmps-vals.size) by omega))) hok.fit
   generalize ha:({tmps:=vals++Array.replicate (fn.ntmps-vals.size) undef,defers:= []}:Act)=a
   have hi:In (vals.size+(fn.ntmps-vals.size)) ι F w H (zipE (upto 0 az.length) az) a:=by
    refine ⟨hg,Aa0 ?_,by rw [←ha];simp,by rw [←ha]⟩
    have:slots a (upto 0 az.length)=vals.toList:=by
     have hl:az.length=vals.size:=by simpa using hv.1
     apply List.ext_getElem?
     intro i
     unfold slots
     rw [List.getElem?_map]
     by_cases h:i<az.length
     ·rw [AcP _ _ _ h,←ha]
      have h':i<vals.size:=by omega
      simp [h',Array.getElem?_append_left h']
     ·rw [List.getElem?_eq_none (by rw [AdT];omega),List.getElem?_eq_none (by simp;omega)]
      rfl
    rw [this]
    exact hv
   refine wp_mono (AgV hc hfn hS hf hfit H.length fi.code [] rfl hi (Aaa _ _ _ h)) ?_
   rintro ex a' w' ⟨x,e',H',ι',F',hx,hr,hi',he⟩
   have key:wpQ S ((resV cx e' H' fi.res).bind fun vs=>match fi.mode with
    | .pure=>match H with
     | []=>(forceN (reach H' 200 (idss vs) [])).bind fun l=>(fzArgs l H' vs).bind fun ts=> .ret ⟨.ret,ts.map .t,[]⟩
     |_=> .fail
    | .fresh=>match H with
     | []=>(tidyR fi.tidy vs H').bind fun x=>(foldR fi.fold 0 x.1 x.2).bind fun H'=>(gc 0 x.1 H').bind fun g=> .ret ⟨.ret,g.vs,g.H⟩
     |_=> .fail
    | .inout=>(tidyR fi.tidy vs H').bind fun x=>(foldR fi.fold H.length x.1 (killR fi.tidy H.length x.2)).bind fun H'=>(gc H.length x.1 H').bind fun g=> .ret ⟨.ret,g.vs,g.H⟩) R→
     a'.defers= []∧ ∃v,(results fn a'.tmps).run P w'= .ok v w'∧ ∃x v' ι' F',Ending.returned v= .returned v'∧R x∧x.e= .ret∧Good ι' F' w' x.H∧ResR ι' F' w' x.H x.vs v'∧Ext H.length ι F H w ι' F' x.H w':=by
    intro h
    refine ⟨hi'.defers,?_⟩
    rw [←hok.res] at h
    obtain ⟨vs,us,h1,h2,h3⟩:=AgX (P:=P) hc hi' (by rw [hok.res];exact hok.resTy) (Aaa _ _ _ h)
    have hres:(results fn a'.tmps).run P w'= .ok (if h:us.toArray.size=1 then us.toArray[0] else .tuple us.toArray) w':=by
     have hr:results fn a'.tmps=(do let vs←fn.results.mapM (rvSem a'.tmps);pure (if h:vs.size=1 then vs[0] else .tuple vs)):=rfl
     rw [hr,Array.mapM_eq_mapM_toList]
     simp only [Sem.run_bind,Sem.run_map,h3]
     rfl
    refine ⟨_,hres,?_⟩
    split at h1
    ·split at h1
     ·replace h1:=Aa7 (Aaa _ _ _ h1)
      generalize reach H' 200 (idss vs) []=l at h1
      obtain ⟨ts,k1,k2,k3⟩:=Acb hi'.good l (Aaa _ _ _ h1) h2
      have hfin: ∀b,(F' b∨Fl ι' H' l b)→b<w'.heap.size:=fun b hb=>hb.elim (hi'.good.fin b) (fl_lt hi'.good)
      refine ⟨_,_,ι',fun b=>F' b∨Fl ι' H' l b,rfl,k1,rfl,AcN hfin,?_,?_⟩
      ·refine Afk ⟨by simp [k2],?_⟩
       intro i x c hx hcc
       simp only [List.getElem?_map] at hx
       obtain ⟨t,ht,rfl⟩:=Option.map_eq_some_iff.1 hx
       exact .t _ _ (k3 i t c ht hcc)
      ·refine ⟨he.os,he.tape,he.output,he.size,he.same,fun b _ h=>(AbP h).elim,fun b hb=> .inl (he.fsub b hb),?_,fun id o hid=>absurd hid (by simp),fun b _ h=>by obtain ⟨i,o,h1,_⟩:=h;simp at h1⟩
       rintro b hb (hf|⟨i,o,_,q1,q2,q3⟩)
       ·exact he.ffr b hb hf
       ·obtain ⟨i',o',q4,_⟩:=he.live b hb ⟨i,o,q1,q2,.inl q3⟩
        simp at q4
     ·exact h1.elim
    ·split at h1
     ·obtain ⟨vs1,H1,ι1,h1,hg1,hs1,h2⟩:=Agd hi'.good (Aaa _ _ _ h1) h2
      obtain ⟨H3,ι3,h1,hg3,hs3⟩:=Acq hg1 (Aaa _ _ _ h1)
      replace h2:=Abh hg1 hs3 h2
      obtain ⟨g,ιg,h3,_,_,_,hgg,hgv,hge⟩:=gc_ok hg3 (Aaa _ _ _ h1) h2
      exact ⟨_,_,ιg,F',rfl,h3,rfl,hgg,Afk hgv,(he.trans ((hs1.trans hs3).ext _)).trans hge⟩
     ·exact h1.elim
    ·obtain ⟨vs1,H1,ι1,h1,hg1,hs1,h2⟩:=Agd hi'.good (Aaa _ _ _ h1) h2
     obtain ⟨hg2,hs2,h2⟩:=Aif (b:=fi.tidy) (n:=H.length) hg1 h2
     obtain ⟨H3,ι3,h1,hg3,hs3⟩:=Acq hg2 (Aaa _ _ _ h1)
     replace h2:=Abh hg2 hs3 h2
     obtain ⟨g,ιg,h3,_,_,_,hgg,hgv,hge⟩:=gc_ok hg3 (Aaa _ _ _ h1) h2
     exact ⟨_,_,ιg,F',rfl,h3,rfl,hgg,Afk hgv,((he.trans (hs1.ext _)).trans ((hs2.trans hs3).ext _)).trans hge⟩
   cases ex<;>cases x<;>simp only [exEq] at hx
   ·exact key hr
   ·exact hr.elim
   ·exact key hr
  ·exact h.elim
 |loop f p keep vs H=>
  intro fi c live n hf hp hlive hfit w ι F a hi
  simp only [body] at h
  rw [hf] at h
  simp only [hp,hlive] at h
  refine LoopWp.round (wp_mono (AgV hc hfn hS hf hfit keep c (0::p) (by simp [subAt,hp]) hi (Aaa _ _ _ h)) ?_)
  rintro ex a' w' ⟨x,e',H',ι',F',hx,hr,hi',he⟩
  obtain ⟨vs',h1,h2⟩:=Ace hi' (Aaa _ _ _ hr)
  obtain ⟨vs1,H1,ι1,h1,hg1,hs1,h2⟩:=AhJ hi'.good (Aaa _ _ _ h1) h2
  obtain ⟨H2,ι2,h1,hg2,hs2⟩:=Acq hg1 (Aaa _ _ _ h1)
  replace h2:=Abh hg1 hs2 h2
  obtain ⟨g,ιg,h3,_,_,_,hgg,hgv,hge⟩:=gc_ok hg2 (Aaa _ _ _ h1) h2
  replace hge:=((hs1.trans hs2).ext keep).trans hge
  have hig:In n ιg F' w' g.H (zipE live g.vs) a':=⟨hgg,Aa0 hgv,hi'.size,hi'.defers⟩
  cases ex<;>cases x<;>simp only [exEq] at hx
  ·obtain ⟨R',hR',_,h4⟩:=h3
   simp only [Exit.then]
   refine LoopWp.mono (hS _ _ hR' fi c live n hf hp hlive hfit w' ιg F' a' hig) ?_
   rintro ex2 a2 w2 ⟨r,ι2,F2,hr2,hx2,hi2,he2⟩
   exact ⟨r,ι2,F2,h4 r hr2,hx2,hi2,(he.trans hge).trans he2⟩
  ·exact ⟨_,ιg,F',h3,hx,hig,he.trans hge⟩
  ·exact ⟨_,ιg,F',h3,trivial,hig,he.trans hge⟩
theorem Ev.mk {t:Task} {R:Res→Prop} (h:wpQ (Ev cx) (body cx t) R):Ev cx t R:=fun P hc hfn=>
 AiK hc hfn (fun _ _ h=>h) (Aei (fun _ _ h=>h P hc hfn) _ _ h)
theorem sound (hc:CxTy P cx) (hfn:FnsOK P cx) {t:Task} {R:Res→Prop} (h:Ev cx t R):TaskS P cx t R:=h P hc hfn
end
end Go.Eva
namespace Go.Eva
theorem wrap64 {n:Int} (h: -9223372036854775808≤n∧n≤9223372036854775807):IntKind.i64.wrap n=n:=by
 have h64:IntKind.i64.wrap n=if n%18446744073709551616≥9223372036854775808 then n%18446744073709551616-18446744073709551616 else n%18446744073709551616:=by
  simp [zp,IntKind.bits,IntKind.signed]
 rw [h64]
 split<;>omega
abbrev Is (cx:Cx) (t:Task) (x:Res):Prop:=Ev cx t (· =x)
abbrev Fn (cx:Cx) (f:Nat) (az:List T) (r:T):Prop:=Is cx (.call f (az.map .t) []) ⟨.ret,[.t r],[]⟩
end Go.Eva
namespace Go.Eva
open Go.RowKit
def allTr {α:Type} (p:Nat→α→Bool):(Nat→Nat)→Tr α→Bool
 |_,.z=>true
 |f,.n l v r=>p (f 0) v&&allTr p (fun k=>f (2*k+1)) l&&allTr p (fun k=>f (2*k+2)) r
 |f,.h l r=>true&&allTr p (fun k=>f (2*k+1)) l&&allTr p (fun k=>f (2*k+2)) r
theorem AbX {α:Type} {p:Nat→α→Bool}: ∀ {t:Tr α} {f:Nat→Nat},allTr p f t=true→ ∀i v,t.get i=some v→p (f i) v=true
 | .z,f,_,i,v,h=>by simp [Tr.get] at h
 | .n l x r,f,hp,i,v,h=>by
  simp only [allTr,Bool.and_eq_true] at hp
  simp only [Tr.get] at h
  split at h
  ·rename_i hb
   obtain rfl:=Nat.eq_of_beq_eq_true hb
   simp at h;subst h
   exact hp.1.1
  ·rename_i hb
   have hi:i≠0:=by
    intro e
    subst e
    simp at hb
   split at h
   ·rename_i hm
    have hm:=Nat.eq_of_beq_eq_true hm
    have:=AbX hp.1.2 _ _ h
    have e:2*(Nat.div i 2)+1=i:=by
     have h1:Nat.mod i 2=i%2:=rfl
     have h2:Nat.div i 2=i/2:=rfl
     omega
    rw [e] at this
    exact this
   ·rename_i hm
    have hm:i%2≠1:=by
     intro e
     have:Nat.beq (Nat.mod i 2) 1=true:=by
      have h1:Nat.mod i 2=i%2:=rfl
      rw [h1,e];rfl
     rw [this] at hm
     contradiction
    have:=AbX hp.2 _ _ h
    have e:2*(Nat.pred (Nat.div i 2))+2=i:=by
     have h2:Nat.div i 2=i/2:=rfl
     have h3:Nat.pred (Nat.div i 2)=i/2-1:=by rw [h2];rfl
     omega
    rw [e] at this
    exact this
 | .h l r,f,hp,i,v,h=>by
  simp only [allTr,Bool.and_eq_true] at hp
  simp only [Tr.get] at h
  split at h
  ·contradiction
  ·rename_i hb
   have hi:i≠0:=by
    intro e
    subst e
    simp at hb
   split at h
   ·rename_i hm
    have hm:=Nat.eq_of_beq_eq_true hm
    have:=AbX hp.1.2 _ _ h
    have e:2*(Nat.div i 2)+1=i:=by
     have h1:Nat.mod i 2=i%2:=rfl
     have h2:Nat.div i 2=i/2:=rfl
     omega
    rw [e] at this
    exact this
   ·rename_i hm
    have hm:i%2≠1:=by
     intro e
     have:Nat.beq (Nat.mod i 2) 1=true:=by
      have h1:Nat.mod i 2=i%2:=rfl
      rw [h1,e];rfl
     rw [this] at hm
     contradiction
    have:=AbX hp.2 _ _ h
    have e:2*(Nat.pred (Nat.div i 2))+2=i:=by
     have h2:Nat.div i 2=i/2:=rfl
     have h3:Nat.pred (Nat.div i 2)=i/2-1:=by rw [h2];rfl
     omega
    rw [e] at this
    exact this
mutual
def tvB:Nat→T→Value→Bool
 |0,_,_=>false
 |_+1,.int k n,.int k' n'=>decide (k=k')&&decide (n=n')
 |_+1,.bool b,.bool c=>b==c
 |_+1,.str s,.string s'=>Nat.beq s.data.size 0&&Nat.beq s'.data.size 0
 |_+1,.nilp,.pointer none=>true
 |_+1,.nilf,.nilFunc=>true
 |_+1,.nilm,.map none=>true
 |n+1,.agg vs,.agg cs=>tvsB n vs cs.toList
 |_,_,_=>false
def tvsB:Nat→List T→List Value→Bool
 |0,_,_=>false
 |_+1,[],[]=>true
 |n+1,x::xs,v::vs=>v.oneCell'&&tvB n x v&&tvsB n xs vs
 |_,_,_=>false
end
mutual
theorem tvB_ok {F:Nat→Prop} {w:World}: ∀(n:Nat) (x:T) (v:Value),tvB n x v=true→TR F w x v
 |0,_,_,h=>by simp [tvB] at h
 |n+1,x,v,h=>by
  unfold tvB at h
  split at h<;>try contradiction
  ·simp at h;obtain ⟨rfl,rfl⟩:=h;exact .int _ _
  ·simp at h;subst h;exact .bool _
  ·rename_i s s' _
   simp only [Bool.and_eq_true] at h
   have h1:=Nat.eq_of_beq_eq_true h.1
   have h2:=Nat.eq_of_beq_eq_true h.2
   have e1:s.data= #[]:=Array.eq_empty_of_size_eq_zero h1
   have e2:s'.data= #[]:=Array.eq_empty_of_size_eq_zero h2
   have:s=s':=by
    cases s;cases s'
    simp only at e1 e2
    rw [e1,e2]
   subst this
   exact .str _
  ·exact .nilp
  ·exact .nilf
  ·exact .nilm
  ·rename_i m vs cs heq
   cases heq
   obtain ⟨h1,h2⟩:=tvsB_ok (F:=F) (w:=w) _ vs cs.toList h
   exact .agg _ _ (by simpa using h1) (fun i c hc=>by
    have hlt:i<vs.length:=by have:=(Array.getElem?_eq_some_iff.1 hc).1;simp at h1;omega
    exact (h2 i _ c (List.getElem?_eq_getElem hlt) (by simpa using hc)).1) (fun i x c hx hc=>(h2 i x c hx (by simpa using hc)).2)
theorem tvsB_ok {F:Nat→Prop} {w:World}: ∀(n:Nat) (xs:List T) (vs:List Value),tvsB n xs vs=true→xs.length=vs.length∧ ∀(i:Nat) x v,xs[i]?=some x→vs[i]?=some v→v.oneCell'=true∧TR F w x v
 |0,_,_,h=>by simp [tvsB] at h
 |n+1,[],[],_=>⟨rfl,by simp⟩
 |n+1,[],_::_,h=>by simp [tvsB] at h
 |n+1,_::_,[],h=>by simp [tvsB] at h
 |n+1,x::xs,v::vs,h=>by
  simp only [tvsB,Bool.and_eq_true] at h
  obtain ⟨h1,h2⟩:=tvsB_ok (F:=F) (w:=w) n xs vs h.2
  refine ⟨by simp [h1],?_⟩
  intro i y u hy hu
  cases i with
  |zero=>simp at hy hu;subst hy;subst hu;exact ⟨h.1.1,tvB_ok n _ _ h.1.2⟩
  |succ i=>simp at hy hu;exact h2 i y u hy hu
end
def zv1:V→Value→Bool
 | .t x,v=>tvB 40 x v
 | .fit _ [],.slice none 0 0=>true
 |_,_=>false
theorem AiE {x:V} {v:Value} (h:zv1 x v=true) (ι:Io) (F:Nat→Prop) (w:World) (H:Heap):VR ι F w H x v:=by
 unfold zv1 at h
 split at h
 ·exact .t _ _ (tvB_ok _ _ _ h)
 ·exact .fit _ _ _ (.slN _ _ _)
 ·contradiction
def zvB (x:V) (v:Value):Bool:=match x,v with
 | .agg vs,.agg cs=>Nat.beq vs.length cs.size&&(vs.zip cs.toList).all fun p=>p.2.oneCell'&&zv1 p.1 p.2
 |x,v=>zv1 x v
theorem Ajf {x:V} {v:Value} (h:zvB x v=true) (ι:Io) (F:Nat→Prop) (w:World) (H:Heap):VR ι F w H x v:=by
 unfold zvB at h
 split at h
 ·rename_i vs cs
  simp only [Bool.and_eq_true] at h
  have hl:=Nat.eq_of_beq_eq_true h.1
  have hall:=List.all_eq_true.1 h.2
  have at_: ∀(i:Nat) x c,vs[i]?=some x→cs[i]?=some c→c.oneCell'=true∧zv1 x c=true:=by
   intro i x c hx hc
   have hm:(x,c)∈vs.zip cs.toList:=by
    refine List.mem_of_getElem? (i:=i) ?_
    rw [List.getElem?_zip_eq_some]
    exact ⟨hx,by simpa using hc⟩
   have:=hall _ hm
   simpa only [Bool.and_eq_true] using this
  refine .agg _ _ hl (fun i c hc=> ?_) (fun i x c hx hc=>AiE (at_ i x c hx hc).2 ι F w H)
  have hlt:i<vs.length:=by have:=(Array.getElem?_eq_some_iff.1 hc).1;omega
  exact (at_ i _ c (List.getElem?_eq_getElem hlt) hc).1
 ·exact AiE h ι F w H
def isAny:V→Bool
 | .t .any=>true
 |_=>false
def tyRB (cx:Cx):Ty→TypeDesc→Bool
 | .int k,.int k'=>decide (k'=k)
 | .bool,.bool=>true
 | .str,.string=>true
 | .ptr,.pointer _=>true
 | .slice e,.slice e'=>Nat.beq e' e&&(match cx.ti.get e with|some i=>Nat.blt 0 i.size|none=>false)
 | .struct fs, .struct fields => decide (fields.toList.map (fun f => (f.offset, f.type)) = fs) && fields.toList.all fun f => (f.name != "_") && (cx.ti.get f.type).isSome
 | .map k e,.map k' e'=>Nat.beq k' k&&Nat.beq e' e
 | .fn,d=>notAggB d
 | .other,d=>notAggB d
 |_,_=>false
where notAggB:TypeDesc→Bool
 | .struct _=>false
 | .array _ _=>false
 |_=>true
def tyB (P:Program) (cx:Cx) (t:Nat) (i:TI):Bool:=match P.info? t,P.underlying t with
 |some inf,some d=>Nat.beq inf.size i.size&&Nat.beq inf.bytes i.bytes&&tyRB cx i.ty d&&(!i.eq||(!P.stoodInHeld t&& !P.eqGuardType P.depth t))&&(match inf.zero with
  |some zv=>(Nat.beq i.bytes 0||(Nat.beq zv.cells.size i.size&&zv.cells.toList.all (fun c=>c.oneCell')))&&(match zeroV cx depth t with
   |some z=>(Nat.beq zv.cells.size i.size&&zv.cells.toList.all (fun c=>c.oneCell'))&&zvB z zv&& !isAny z&&Nat.beq z.size i.size
   |none=>true)
  |none=>false)
 |_,_=>false
theorem Aip {v:V} (h:isAny v=false):v≠ .t .any:=by rintro rfl;simp [isAny] at h
theorem AiT {cx:Cx} {ty:Ty} {d:TypeDesc} (h:tyRB cx ty d=true):TyR cx ty d:=by
 have na: ∀d,tyRB.notAggB d=true→notAgg d:=by
  intro d h
  cases d<;>simp [tyRB.notAggB,notAgg] at*
 unfold tyRB at h
 split at h<;>try contradiction
 ·have:_=_:=of_decide_eq_true h;subst this;rfl
 ·rfl
 ·rfl
 ·exact ⟨_,rfl⟩
 ·rename_i e e'
  simp only [Bool.and_eq_true] at h
  obtain rfl:=Nat.eq_of_beq_eq_true h.1
  have h2:=h.2
  split at h2
  ·rename_i i hi
   exact ⟨rfl,i,hi,by simpa using h2⟩
  ·contradiction
 ·rename_i fs fields
  simp only [Bool.and_eq_true] at h
  refine ⟨fields,rfl,of_decide_eq_true h.1,fun f hf=> ?_⟩
  have:=List.all_eq_true.1 h.2 f hf
  simp only [Bool.and_eq_true] at this
  exact ⟨by simpa using this.1,Option.isSome_iff_exists.1 this.2⟩
 ·simp only [Bool.and_eq_true] at h
  obtain rfl:=Nat.eq_of_beq_eq_true h.1
  obtain rfl:=Nat.eq_of_beq_eq_true h.2
  rfl
 ·exact na _ h
 ·exact na _ h
def ExAll (P:Program) (cx:Cx):List (Nat×Xf)→Prop
 | []=>True
 |(f,x)::r=>ExOK P cx f x∧ExAll P cx r
theorem Ags {P:Program} {cx:Cx}: ∀ {l:List (Nat×Xf)},ExAll P cx l→ ∀f x,exAt l f=some x→ExOK P cx f x
 | [],_,f,x,h=>by simp [exAt] at h
 |(g,y)::r,ha,f,x,h=>by
  unfold exAt at h
  split at h
  ·rename_i hb
   obtain rfl:=Nat.eq_of_beq_eq_true hb
   obtain rfl:=Option.some.inj h
   exact ha.1
  ·exact Ags ha.2 f x h
theorem AiS {P:Program} {cx:Cx} (h:allTr (tyB P cx) id cx.ti=true) (ho:P.follows .mixedOrders=true) (hx:ExAll P cx cx.ex):CxTy P cx:=by
 have key: ∀t i,cx.ti.get t=some i→tyB P cx t i=true:=fun t i hi=>AbX h t i hi
 refine ⟨?_,?_,ho,Ags hx⟩
 ·intro t i hi
  have:=key t i hi
  unfold tyB at this
  split at this
  ·rename_i inf d h1 h2
   simp only [Bool.and_eq_true,Bool.or_eq_true] at this
   obtain ⟨⟨⟨⟨a1,a2⟩,a3⟩,a4⟩,a5⟩:=this
   split at a5
   ·rename_i zv hz
    simp only [Bool.and_eq_true] at a5
    obtain ⟨_,b3⟩:=a5
    refine ⟨inf,d,h1,h2,Nat.eq_of_beq_eq_true a1,Nat.eq_of_beq_eq_true a2,AiT a3,fun he=> ?_,zv,hz,fun z hzz=> ?_⟩
    ·rw [he] at a4
     simpa using a4
    ·rw [hzz] at b3
     simp only [Bool.and_eq_true] at b3
     obtain ⟨⟨⟨⟨c1,c2⟩,c3⟩,c4⟩,c5⟩:=b3
     have hone: ∀(j:Nat) c,zv.cells[j]?=some c→c.oneCell'=true:=by
      intro j c hc
      exact List.all_eq_true.1 c2 c (by obtain ⟨hlt,rfl⟩:=Array.getElem?_eq_some_iff.1 hc;simp)
     exact ⟨Ajf c3,hone,Aip (by simpa using c4),Nat.eq_of_beq_eq_true c5,Nat.eq_of_beq_eq_true c1⟩
   ·contradiction
  ·contradiction
 ·intro t i inf zv hi hinf hz hby
  have:=key t i hi
  unfold tyB at this
  split at this
  ·rename_i inf' d h1 h2
   rw [hinf] at h1
   obtain rfl:=Option.some.inj h1
   simp only [Bool.and_eq_true] at this
   obtain ⟨_,a5⟩:=this
   rw [hz] at a5
   simp only [Bool.and_eq_true,Bool.or_eq_true] at a5
   rcases a5.1 with a6|a6
   ·have:=Nat.eq_of_beq_eq_true a6
    omega
   ·refine ⟨Nat.eq_of_beq_eq_true a6.1,fun j c hc=> ?_⟩
    exact List.all_eq_true.1 a6.2 c (by obtain ⟨hlt,rfl⟩:=Array.getElem?_eq_some_iff.1 hc;simp)
  ·contradiction
def AllTr {α:Type} (p:Nat→α→Prop):(Nat→Nat)→Tr α→Prop
 |_,.z=>True
 |f,.n l v r=>p (f 0) v∧AllTr p (fun k=>f (2*k+1)) l∧AllTr p (fun k=>f (2*k+2)) r
 |f,.h l r=>True∧AllTr p (fun k=>f (2*k+1)) l∧AllTr p (fun k=>f (2*k+2)) r
theorem AllTr.get {α:Type} {p:Nat→α→Prop}: ∀ {t:Tr α} {f:Nat→Nat},AllTr p f t→ ∀i v,t.get i=some v→p (f i) v
 | .z,f,_,i,v,h=>by simp [Tr.get] at h
 | .n l x r,f,hp,i,v,h=>by
  simp only [Tr.get] at h
  split at h
  ·rename_i hb
   obtain rfl:=Nat.eq_of_beq_eq_true hb
   simp at h;subst h
   exact hp.1
  ·rename_i hb
   have hi:i≠0:=by
    intro e
    subst e
    simp at hb
   split at h
   ·rename_i hm
    have hm:=Nat.eq_of_beq_eq_true hm
    have:=AllTr.get hp.2.1 _ _ h
    have e:2*(Nat.div i 2)+1=i:=by
     have h1:Nat.mod i 2=i%2:=rfl
     have h2:Nat.div i 2=i/2:=rfl
     omega
    rw [e] at this
    exact this
   ·rename_i hm
    have hm:i%2≠1:=by
     intro e
     have:Nat.beq (Nat.mod i 2) 1=true:=by
      have h1:Nat.mod i 2=i%2:=rfl
      rw [h1,e];rfl
     rw [this] at hm
     contradiction
    have:=AllTr.get hp.2.2 _ _ h
    have e:2*(Nat.pred (Nat.div i 2))+2=i:=by
     have h2:Nat.div i 2=i/2:=rfl
     have h3:Nat.pred (Nat.div i 2)=i/2-1:=by rw [h2];rfl
     omega
    rw [e] at this
    exact this
 | .h l r,f,hp,i,v,h=>by
  simp only [Tr.get] at h
  split at h
  ·contradiction
  ·rename_i hb
   have hi:i≠0:=by
    intro e
    subst e
    simp at hb
   split at h
   ·rename_i hm
    have hm:=Nat.eq_of_beq_eq_true hm
    have:=AllTr.get hp.2.1 _ _ h
    have e:2*(Nat.div i 2)+1=i:=by
     have h1:Nat.mod i 2=i%2:=rfl
     have h2:Nat.div i 2=i/2:=rfl
     omega
    rw [e] at this
    exact this
   ·rename_i hm
    have hm:i%2≠1:=by
     intro e
     have:Nat.beq (Nat.mod i 2) 1=true:=by
      have h1:Nat.mod i 2=i%2:=rfl
      rw [h1,e];rfl
     rw [this] at hm
     contradiction
    have:=AllTr.get hp.2.2 _ _ h
    have e:2*(Nat.pred (Nat.div i 2))+2=i:=by
     have h2:Nat.div i 2=i/2:=rfl
     have h3:Nat.pred (Nat.div i 2)=i/2-1:=by rw [h2];rfl
     omega
    rw [e] at this
    exact this
def EntOK (P:Program) (cx:Cx) (f:Nat) (o:Option FI):Prop:= ∀fi,o=some fi→ ∃fn,FnOK P cx f fi fn
theorem Aac {P:Program} {cx:Cx} (f:Nat):EntOK P cx f none:=fun _ h=>nomatch h
theorem Aab {P:Program} {cx:Cx} {f:Nat} {fi:FI} {fn:Func} (h:FnOK P cx f fi fn):EntOK P cx f (some fi):=fun _ e=>⟨fn,Option.some.inj e ▸ h⟩
theorem AhX {P:Program} {cx:Cx} (h:AllTr (EntOK P cx) id cx.fn):FnsOK P cx:=fun f fi hf=>AllTr.get h f _ hf fi rfl
end Go.Eva
namespace Go.Eva
open Go.RowKit
def Conf (cx:Cx):Nat→Nat→List T→Prop
 |0,_,_=>False
 |n+1,t,ts=>match cx.ti.get t with
  |some i=>match i.ty with
   | .int k=> ∃m,ts= [.int k m]∧(Lit.int k m).wf=true
   | .bool=> ∃b,ts= [.bool b]
   | .str=> ∃s,ts= [.str s]∧s.size≤reachBytes
   | .slice e=> ∃xs,ts= [.sl (sizeOf cx e) xs]∧xs.length≤maxLen∧xs.length*bytesOf cx e≤reachBytes∧ ∀x∈xs,x≠ .any∧(isStruct cx e=true→ ∃l,x= .agg l)∧(isStruct cx e=false→x.cells= [x])∧Conf cx n e x.cells
   | .struct fs=>ts.length=i.size∧ ∀p∈fs,Conf cx n p.2 ((ts.drop p.1).take (sizeOf cx p.2))
   |_=>False
  |none=>False
def contig (cx:Cx):Nat→List (Nat×Nat)→Option Nat
 |n,[]=>some n
 |n,(off,t)::r=>match Nat.beq off n with
  |true=>contig cx (n+sizeOf cx t) r
  |false=>none
def rdB (cx:Cx):Nat→Nat→Bool
 |0,_=>false
 |n+1,t=>match cx.ti.get t with
  |some i=>match i.ty with
   | .int _=>true
   | .bool=>true
   | .str=>true
   | .slice e=>rdB cx n e
   | .struct fs=>(fs.all fun p=>rdB cx n p.2)&&(match contig cx 0 fs with|some s=>Nat.beq s i.size|none=>false)
   |_=>false
  |none=>false
section
variable {P:Program} {cx:Cx} {H:Type} {enc:TypeId×Value→H} {w:World} {spare:Nat→Bool} {held:Bool}
theorem Acs (hc:CxTy P cx) {t:Nat} {i:TI} (h:cx.ti.get t=some i):P.cellsOf t=i.size∧sizeOf cx t=i.size:=by
 obtain ⟨inf,d,h1,h2,h3,_⟩:=hc.ty t i h
 exact ⟨by simp [Program.cellsOf,h1,h3],by simp [sizeOf,h]⟩
def Trees (w:World) (ts:List T) (cs:List Value):Prop:=ts.length=cs.length∧ ∀(i:Nat) a b,ts[i]?=some a→cs[i]?=some b→TR (· <w.heap.size) w a b∧b.oneCell'=true∧a≠ .any
theorem Trees.one {a:T} {b:Value} (h:TR (· <w.heap.size) w a b) (hb:b.oneCell'=true) (ha:a≠ .any):Trees w [a] [b]:=by
 refine ⟨rfl,fun i x y hx hy=> ?_⟩
 cases i with
 |zero=>simp at hx hy;subst hx;subst hy;exact ⟨h,hb,ha⟩
 |succ i=>simp at hx
theorem Trees.append {ts us:List T} {cs ds:List Value} (h:Trees w ts cs) (k:Trees w us ds):Trees w (ts++us) (cs++ds):=by
 refine ⟨by simp [h.1,k.1],fun i a b ha hb=> ?_⟩
 have hl:=h.1
 rcases Nat.lt_or_ge i ts.length with hi|hi
 ·rw [List.getElem?_append_left hi] at ha
  rw [List.getElem?_append_left (by omega)] at hb
  exact h.2 i a b ha hb
 ·rw [List.getElem?_append_right hi] at ha
  rw [List.getElem?_append_right (by omega)] at hb
  exact k.2 _ a b ha (by rw [hl];exact hb)
theorem Ae2 {cs:List Value} {Q:Nat→List T→Prop}: ∀(fs:List (Nat×Nat)) (pos s:Nat),contig cx pos fs=some s→s≤cs.length→(∀p∈fs,∃ts,Trees w ts ((cs.drop p.1).take (sizeOf cx p.2))∧Q p.2 ts)→
  pos≤s∧ ∃ts,Trees w ts ((cs.drop pos).take (s-pos))∧ ∀p∈fs,pos≤p.1∧Q p.2 ((ts.drop (p.1-pos)).take (sizeOf cx p.2))
 | [],pos,s,h,_,_=>by
  simp [contig] at h
  subst h
  exact ⟨Nat.le_refl _,[],⟨by simp,by simp⟩,by simp⟩
 |(off,t)::r,pos,s,h,hs,hq=>by
  simp only [contig] at h
  split at h
  ·rename_i hb
   obtain rfl:=Nat.eq_of_beq_eq_true hb
   obtain ⟨h1,us,h2,h3⟩:=Ae2 r (off+sizeOf cx t) s h hs (fun p hp=>hq p (List.mem_cons_of_mem _ hp))
   obtain ⟨ts,h4,h5⟩:=hq (off,t) (List.mem_cons_self ..)
   have hlt:ts.length=sizeOf cx t:=by have:=h4.1;simp at this;omega
   refine ⟨by omega,ts++us,?_,?_⟩
   ·have:=h4.append h2
    have e:(cs.drop off).take (sizeOf cx t)++(cs.drop (off+sizeOf cx t)).take (s-(off+sizeOf cx t))=(cs.drop off).take (s-off):=by
     rw [show s-off=sizeOf cx t+(s-(off+sizeOf cx t)) by omega,List.take_add,List.drop_drop]
    rw [e] at this
    exact this
   ·intro p hp
    rcases List.mem_cons.1 hp with rfl|hp
    ·refine ⟨Nat.le_refl _,?_⟩
     simp only [Nat.sub_self,List.drop_zero]
     rw [List.take_append_of_le_length (by omega),List.take_of_length_le (by omega)]
     exact h5
    ·obtain ⟨k1,k2⟩:=h3 p hp
     refine ⟨by omega,?_⟩
     have e:(ts++us).drop (p.1-off)=us.drop (p.1-(off+sizeOf cx t)):=by
      rw [List.drop_append,List.drop_of_length_le (by omega)]
      simp
      congr 1
      omega
     rw [e]
     exact k2
  ·contradiction
theorem Aho {a:Addr} {n:Nat} {l:List Value} (h:w.cells? 0 a n=some l):l.length=n∧ ∀j,j<n→w.cell? (a.add j)=l[j]?:=by
 unfold World.cells? at h
 rw [if_pos (Nat.zero_le _)] at h
 refine ⟨by simpa using mapM_some_length h,fun j hj=> ?_⟩
 exact mapM_some_get h j j (by simp [hj])
theorem Agk {m e:Nat} {ts:List T} (h:Conf cx m e ts) (hs:isStruct cx e=false): ∃x,ts= [x]∧x.cells= [x]∧x≠ .any:=by
 cases m with
 |zero=>exact h.elim
 |succ m=>
  unfold isStruct at hs
  simp only [Conf] at h
  cases hi:cx.ti.get e with
  |none=>rw [hi] at h;exact h.elim
  |some i=>
   rw [hi] at h hs
   cases i with
   |mk ty s b eq=>
    cases ty<;>simp only at h hs
    ·obtain ⟨v,rfl,_⟩:=h;exact ⟨_,rfl,rfl,by simp⟩
    ·obtain ⟨v,rfl⟩:=h;exact ⟨_,rfl,rfl,by simp⟩
    ·obtain ⟨v,rfl,_⟩:=h;exact ⟨_,rfl,rfl,by simp⟩
    ·obtain ⟨v,rfl,_⟩:=h;exact ⟨_,rfl,rfl,by simp⟩
    ·contradiction
theorem Adg {e:Nat}: ∀ {ds:List (DataW H)} {i:Nat} {d:DataW H},ds[i]?=some d→ ∀k∈d.weights P e,k∈DataW.weightsAll P e ds
 | [],i,d,h,_,_=>by simp at h
 |x::r,0,d,h,k,hk=>by
  simp at h;subst h
  simp only [DataW.weightsAll,List.mem_append]
  exact .inl hk
 |x::r,i+1,d,h,k,hk=>by
  simp only [DataW.weightsAll,List.mem_append]
  exact .inr (Adg (by simpa using h) k hk)
theorem Ajb (hc:CxTy P cx): ∀(m n t:Nat) (cs:List Value) (x:DataW H×List MemPlace),rdB cx m t=true→(∀k∈x.1.weights P t,k≤reachBytes)→DataW.trod enc P w 0 spare held n t cs=some x→ ∃ts,Trees w ts cs∧Conf cx m t ts:=by
 intro m
 induction m with
 |zero=>intro n t cs x h;simp [rdB] at h
 |succ m ih=>
  intro n t cs x hr hw h
  unfold rdB at hr
  split at hr
  ·rename_i i hi
   obtain ⟨inf,d,h1,h2,h3,h4,h5,_⟩:=hc.ty t i hi
   have conf: ∀ts,Conf cx (m+1) t ts=(match i.ty with
    | .int k=> ∃m,ts= [.int k m]∧(Lit.int k m).wf=true
    | .bool=> ∃b,ts= [.bool b]
    | .str=> ∃s,ts= [.str s]∧s.size≤reachBytes
    | .slice e=> ∃xs,ts= [.sl (sizeOf cx e) xs]∧xs.length≤maxLen∧xs.length*bytesOf cx e≤reachBytes∧ ∀x∈xs,x≠ .any∧(isStruct cx e=true→ ∃l,x= .agg l)∧(isStruct cx e=false→x.cells= [x])∧Conf cx m e x.cells
    | .struct fs=>ts.length=i.size∧ ∀p∈fs,Conf cx m p.2 ((ts.drop p.1).take (sizeOf cx p.2))
    |_=>False):=by
    intro ts
    simp only [Conf,hi]
   cases hty:i.ty with
   |int k=>
    rw [hty] at h5
    simp only [TyR] at h5
    subst h5
    obtain ⟨v,rfl,_,hwf⟩:=DataW.trod_int h2 h
    exact ⟨[.int k v],.one (.int _ _) rfl (by simp),by rw [conf,hty];exact ⟨v,rfl,hwf⟩⟩
   |bool=>
    rw [hty] at h5
    simp only [TyR] at h5
    subst h5
    obtain ⟨v,rfl,_⟩:=DataW.trod_bool h2 h
    exact ⟨[.bool v],.one (.bool _) rfl (by simp),by rw [conf,hty];exact ⟨v,rfl⟩⟩
   |str=>
    rw [hty] at h5
    simp only [TyR] at h5
    subst h5
    obtain ⟨v,rfl,rfl,_⟩:=DataW.trod_string h2 h
    exact ⟨[.str v],.one (.str _) rfl (by simp),by rw [conf,hty];exact ⟨v,rfl,by simpa [DataW.weights] using hw⟩⟩
   |slice e=>
    rw [hty] at h5 hr
    simp only [TyR] at h5
    obtain ⟨rfl,ie,hie,hpos⟩:=h5
    obtain ⟨c1,c2⟩:=Acs hc hie
    rcases DataW.trod_slice h2 h with ⟨rfl,_⟩|⟨a,len,cap,elems,rest,n',rfl,rfl,rfl,_,hl,hmx,hel,hall,_⟩
    ·exact ⟨[.sl (sizeOf cx e) []],.one (.slN _ _ _) rfl (by simp),by rw [conf,hty];exact ⟨[],rfl,Nat.zero_le _,by simp,by simp⟩⟩
    by_cases h0:len=0
    ·subst h0
     exact ⟨[.sl (sizeOf cx e) []],.one (.slN _ _ _) rfl (by simp),by rw [conf,hty];exact ⟨[],rfl,Nat.zero_le _,by simp,by simp⟩⟩
    have each: ∀i,∃x:T,i<len→ ∃l:List Value,x≠ .any∧(isStruct cx e=true→ ∃l,x= .agg l)∧(isStruct cx e=false→x.cells= [x])∧Conf cx m e x.cells∧x.cells.length=ie.size∧(∀j,j<ie.size→w.cell? ((a.add (i*ie.size)).add j)=l[j]?)∧Trees w x.cells l∧l.length=ie.size:=by
     intro i
     by_cases hi:i<len
     ·have:=hall i hi
      rw [List.getElem?_eq_getElem (by omega:i<elems.length),Option.bind_eq_some_iff,c1] at this
      obtain ⟨l,q1,q2⟩:=this
      obtain ⟨q3,q4⟩:=Aho q1
      obtain ⟨ts,k1,k2⟩:=ih n' e l _ hr (fun k hk=>hw k (by
       simp only [DataW.weights,h2,List.mem_cons,List.mem_append]
       exact .inr (.inl (Adg (i:=i) (by rw [List.getElem?_map,List.getElem?_eq_getElem (by omega:i<elems.length)];rfl) k hk)))) q2
      have hlen:ts.length=ie.size:=k1.1.trans q3
      by_cases hst:isStruct cx e=true
      ·exact ⟨.agg ts,fun _=>⟨l,by simp,fun _=>⟨ts,rfl⟩,fun h=>absurd (hst.symm.trans h) (by simp),k2,hlen,q4,k1,q3⟩⟩
      ·obtain ⟨x,rfl,hx,hne⟩:=Agk k2 (by simpa using hst)
       exact ⟨x,fun _=>⟨l,hne,fun h=>absurd h hst,fun _=>hx,by rw [hx];exact k2,by rw [hx];exact hlen,q4,by rw [hx];exact k1,q3⟩⟩
     ·exact ⟨.any,fun h=>absurd h hi⟩
    obtain ⟨f,hf⟩:=Classical.axiomOfChoice each
    have hpos':0<len:=by omega
    obtain ⟨blk,off,spot⟩:=a
    have hcell: ∀i j,i<len→j<ie.size→ ∃v,w.cell? ⟨blk,off+i*ie.size+j,none⟩=some v∧spot=none∧v.oneCell'=true∧(∀t,(f i).cells[j]?=some t→TR (· <w.heap.size) w t v):=by
     intro i j hi hj
     obtain ⟨l,_,_,_,_,q1,q2,q3,q4⟩:=hf i hi
     have hlj:l[j]?=some l[j]:=List.getElem?_eq_getElem (by omega)
     have hcj:=q2 j hj
     rw [hlj] at hcj
     have hz:w.cell? ((⟨blk,off,spot⟩:Addr).add (0*ie.size)|>.add 0)≠none:=by
      obtain ⟨l0,_,_,_,_,_,p2,_,p4⟩:=hf 0 hpos'
      rw [p2 0 hpos,List.getElem?_eq_getElem (by omega)]
      simp
     have hspot:spot=none:=by
      cases spot with
      |none=>rfl
      |some z=>
       exfalso
       apply hz
       simp only [Nat.zero_mul,Addr.add,if_true,World.cell?]
       split<;>simp
     subst hspot
     rw [Aa4,Aa4] at hcj
     refine ⟨l[j],hcj,rfl,?_,fun t ht=>(q3.2 j t _ ht hlj).1⟩
     have hjt:j<(f i).cells.length:=by omega
     exact (q3.2 j _ _ (List.getElem?_eq_getElem hjt) hlj).2.1
    have hsp:spot=none:=(hcell 0 0 hpos' hpos).elim fun v h=>h.2.1
    subst hsp
    have hget: ∀(i:Nat) x,((List.range len).map f)[i]?=some x→i<len∧x=f i:=by
     intro i x hx
     rw [List.getElem?_map] at hx
     obtain ⟨k,hk,rfl⟩:=Option.map_eq_some_iff.1 hx
     have hi:i<len:=by have:=(List.getElem?_eq_some_iff.1 hk).1;simpa using this
     rw [List.getElem?_range hi] at hk
     obtain rfl:=Option.some.inj hk
     exact ⟨hi,rfl⟩
    have hblk:blk<w.heap.size:=by
     obtain ⟨v,hv,_⟩:=hcell 0 0 hpos' hpos
     rcases Nat.lt_or_ge blk w.heap.size with hb|hb
     ·exact hb
     ·have:w.heap[blk]?=none:=Array.getElem?_eq_none hb
      simp [World.cell?,this] at hv
    refine ⟨[.sl (sizeOf cx e) ((List.range len).map f)],.one ?_ rfl (by simp),?_⟩
    ·have:=TR.slC (F:=(· <w.heap.size)) (w:=w) (sizeOf cx e) ((List.range len).map f) blk off cap (fun i j=>(w.cell? ⟨blk,off+i*ie.size+j,none⟩).getD undef) (by intro hh;have:=congrArg zq hh;simp at this;omega) (by simpa using hl) hblk ?_ ?_ ?_
     ·simpa using this
     ·intro i j hi hj
      rw [c2] at hj⊢
      simp only [List.length_map,List.length_range] at hi
      obtain ⟨v,hv,_,hone,_⟩:=hcell i j hi hj
      simp only [hv,Option.getD_some]
      exact ⟨trivial,hone⟩
     ·intro i x hx _
      obtain ⟨hi,rfl⟩:=hget i x hx
      obtain ⟨l,_,_,_,_,q1,_⟩:=hf i hi
      rw [c2];exact q1
     ·intro i j x t hx _ ht
      obtain ⟨hi,rfl⟩:=hget i x hx
      obtain ⟨l,_,_,_,_,q1,_⟩:=hf i hi
      have hj:j<ie.size:=by have:=(List.getElem?_eq_some_iff.1 ht).1;omega
      obtain ⟨v,hv,_,_,htr⟩:=hcell i j hi hj
      simp only [hv,Option.getD_some]
      exact htr t ht
    ·rw [conf,hty]
     have hby:len*bytesOf cx e≤reachBytes:=by
      have:=hw ((elems.map (·.1)).length+(rest.map (·.1)).length|>(· *P.bytesOf e)) (by simp [DataW.weights,h2])
      obtain ⟨infe,de,b1,b2,b3,b4,_⟩:=hc.ty e ie hie
      have hb:P.bytesOf e=bytesOf cx e:=by simp [Program.bytesOf,b1,b4,bytesOf,hie]
      simp only [List.length_map,hb] at this
      have hle:len*bytesOf cx e≤(elems.length+rest.length)*bytesOf cx e:=Nat.mul_le_mul_right _ (by omega)
      omega
     refine ⟨_,rfl,by simp;omega,by simpa using hby,fun x hx=> ?_⟩
     obtain ⟨i,hi,rfl⟩:=List.mem_map.1 hx
     obtain ⟨l,k1,k2,k3,k4,_⟩:=hf i (by simpa using hi)
     exact ⟨k1,k2,k3,k4⟩
   |struct fs=>
    rw [hty] at h5 hr
    simp only [TyR] at h5
    obtain ⟨fields,rfl,hm,hall⟩:=h5
    simp only [Bool.and_eq_true] at hr
    obtain ⟨hr1,hr2⟩:=hr
    split at hr2
    ·rename_i s hs
     obtain rfl:=Nat.eq_of_beq_eq_true hr2
     obtain ⟨xs,n',rfl,rfl,hl,hxl,hf⟩:=DataW.trod_struct h2 h
     obtain ⟨c1,c2⟩:=Acs hc hi
     obtain ⟨_,ts,k1,k2⟩:=Ae2 (w:=w) (cs:=cs) (Q:=fun t ts=>Conf cx m t ts) fs 0 i.size hs (by omega) (by
      intro p hp
      rw [←hm] at hp
      simp only [List.mem_map] at hp
      obtain ⟨f,hfm,rfl⟩:=hp
      obtain ⟨j,hj,rfl⟩:=List.getElem_of_mem hfm
      have hj':j<fields.size:=by simpa using hj
      have hfj:fields[j]?=some fields[j]:=by simp [hj']
      have:=hf j _ hfj
      have hxj:xs[j]?=some xs[j]:=List.getElem?_eq_getElem (by omega)
      rw [hxj] at this
      obtain ⟨_,i',hi'⟩:=hall fields[j] (by simp)
      obtain ⟨e1,e2⟩:=Acs hc hi'
      rw [e1,←e2] at this
      simp only [Array.getElem_toList]
      exact ih n' _ _ _ (List.all_eq_true.1 hr1 (fields[j].offset,fields[j].type) (by rw [←hm];exact List.mem_map.2 ⟨fields[j],by simp,rfl⟩)) (fun k hk=>hw k (by
       simp only [DataW.weights,h2]
       exact DataW.weights_mem_each (j:=j) (by simp [hj']) (by rw [List.getElem?_map,hxj];rfl) k hk)) this)
     refine ⟨ts,by simpa [List.take_of_length_le (show cs.length≤i.size by omega)] using k1,?_⟩
     rw [conf,hty]
     refine ⟨by have:=k1.1;simp at this;omega,fun p hp=> ?_⟩
     simpa using (k2 p hp).2
    ·contradiction
   |_=>rw [hty] at hr;contradiction
  ·contradiction
end
end Go.Eva
namespace Go.Eva
open Go.RowKit Go.ChangeShapes Go.WideShapes
def Arg (cx:Cx) (m t:Nat) (x:T):Prop:=x≠ .any∧(isStruct cx t=true→ ∃l,x= .agg l)∧(isStruct cx t=false→x.cells= [x])∧Conf cx m t x.cells
def Args (cx:Cx) (m:Nat):List Nat→List T→Prop
 | [],[]=>True
 |t::ts,x::xs=>Arg cx m t x∧Args cx m ts xs
 |_,_=>False
theorem AcT {cx:Cx} {m t:Nat} {ts:List Nat} {xs:List T} (h:Args cx m (t::ts) xs): ∃x ys,xs=x::ys∧Arg cx m t x∧Args cx m ts ys:=by
 cases xs with
 |nil=>exact h.elim
 |cons x ys=>exact ⟨x,ys,rfl,h.1,h.2⟩
theorem Aid {cx:Cx} {m:Nat} {xs:List T} (h:Args cx m [] xs):xs= []:=by
 cases xs with
 |nil=>rfl
 |cons x ys=>exact h.elim
section
variable {P:Program} {cx:Cx} {H:Type} {enc:TypeId×Value→H} {W:World} {spare:Nat→Bool} {held:Bool} {base:Nat}
theorem Ajo (hc:CxTy P cx) {m t:Nat} {v:Value} {d:DataW H} {p:List MemPlace} (hr:rdB cx m t=true) (hval:Value.okWide P W .any base t v) (hw: ∀k∈d.weights P t,k≤reachBytes)
  (h:DataW.Trod enc P W 0 spare held t v d p): ∃x,TR (· <W.heap.size) W x v∧Arg cx m t x:=by
 obtain ⟨fuel,hf⟩:=h
 obtain ⟨ts,h1,h2⟩:=Ajb hc m fuel t _ (d,p) hr hw hf
 cases m with
 |zero=>exact h2.elim
 |succ m=>
  cases hi:cx.ti.get t with
  |none=>simp [Conf,hi] at h2
  |some i=>
   obtain ⟨inf,dd,e1,e2,e3,e4,e5,_⟩:=hc.ty t i hi
   obtain ⟨ty,isz,ib,ieq⟩:=i
   simp only at e3 e4 e5
   by_cases hs:isStruct cx t=true
   ·cases ty with
    |struct fs=>
     simp only [TyR] at e5
     obtain ⟨fields,rfl,_⟩:=e5
     obtain ⟨cs,rfl,hcs⟩:=okWide_struct e2 hval
     refine ⟨.agg ts,.agg _ _ (by simpa [Value.cells] using h1.1) ?_ ?_,by simp,fun _=>⟨ts,rfl⟩,fun h=>absurd (hs.symm.trans h) (by simp),h2⟩
     ·intro i c hic
      have hlt:i<ts.length:=by have:=(Array.getElem?_eq_some_iff.1 hic).1;have:=h1.1;simp [Value.cells] at this;omega
      exact (h1.2 i _ c (List.getElem?_eq_getElem hlt) (by simpa [Value.cells] using hic)).2.1
     ·intro i x c hx hic
      exact (h1.2 i x c hx (by simpa [Value.cells] using hic)).1
    |_=>simp [isStruct,hi] at hs
   ·have hs':isStruct cx t=false:=by simpa using hs
    obtain ⟨x,rfl,hx,hne⟩:=Agk h2 hs'
    have hv:v.cells= #[v]:=by
     unfold rdB at hr
     rw [hi] at hr
     cases ty with
     |int k=>simp only [TyR] at e5;subst e5;obtain ⟨n,rfl⟩:=okWide_int e2 hval;rfl
     |bool=>simp only [TyR] at e5;subst e5;obtain ⟨n,rfl⟩:=okWide_bool e2 hval;rfl
     |str=>simp only [TyR] at e5;subst e5;obtain ⟨n,rfl⟩:=okWide_string e2 hval;rfl
     |slice e=>simp only [TyR] at e5;obtain ⟨rfl,_⟩:=e5;obtain ⟨a,b,c,rfl⟩:=okWide_slice e2 hval;rfl
     |struct fs=>simp [isStruct,hi] at hs'
     |_=>simp at hr
    rw [hv] at h1
    exact ⟨x,(h1.2 0 x v rfl rfl).1,hne,fun h=>absurd h hs,fun _=>hx,by rw [hx];exact h2⟩
theorem AdJ (hc:CxTy P cx) {m:Nat}: ∀ {pts:List Nat} {vs:List Value} {ds:List (DataW H)} {ps:List MemPlace},DataW.TrodAll enc P W 0 spare held pts vs ds ps→pts.all (rdB cx m)=true→
  (∀k∈DataW.weightsEach P pts ds,k≤reachBytes)→(∀(j:Nat) t v,pts[j]?=some t→vs[j]?=some v→Value.okWide P W .any base t v)→
  ∃xs,VRs ⟨fun _=>none,fun _=> []⟩ (· <W.heap.size) W [] (xs.map .t) vs∧Args cx m pts xs
 | [],vs,ds,ps,h,_,_,_=>by
  obtain ⟨rfl,rfl,rfl⟩:=trodAll_nil h
  exact ⟨[],⟨rfl,by simp⟩,trivial⟩
 |t::pts,vs,ds,ps,h,hr,hw,hv=>by
  obtain ⟨v,vs',d,ds',p,q,rfl,rfl,rfl,h1,h2⟩:=trodAll_cons h
  simp only [List.all_cons,Bool.and_eq_true] at hr
  obtain ⟨x,k1,k2⟩:=Ajo (base:=base) hc hr.1 (hv 0 t v rfl rfl) (fun k hk=>hw k (by simp only [DataW.weightsEach,List.mem_append];exact .inl hk)) h1
  obtain ⟨xs,k3,k4⟩:=AdJ hc h2 hr.2 (fun k hk=>hw k (by simp only [DataW.weightsEach,List.mem_append];exact .inr hk)) (fun j t v ht hv'=>hv (j+1) t v ht hv')
  refine ⟨x::xs,⟨by have:=k3.1;simp at this;simp [this],?_⟩,k2,k4⟩
  intro i y u hy hu
  cases i with
  |zero=>simp at hy hu;subst hy;subst hu;exact .t _ _ k1
  |succ i=>exact k3.2 i y u (by simpa using hy) (by simpa using hu)
theorem AgZ (hl:laidOutB P=true) {W':World} (bel:Below W.heap.size W W'): ∀ {pts:List Nat} {vs:List Value} {ds:List (DataW H)} {ps:List MemPlace},DataW.TrodAll enc P W 0 (fun _=>true) true pts vs ds ps→
  (pts.all fun t=>P.readableRec t&&decide (t<P.types.size))=true→DataW.TrodAll enc P W' 0 (fun b=>decide (b<W.heap.size)) true pts vs ds ps
 | [],vs,ds,ps,h,_=>by
  obtain ⟨rfl,rfl,rfl⟩:=trodAll_nil h
  exact trodAll_mk0
 |t::pts,vs,ds,ps,h,hr=>by
  obtain ⟨v,vs',d,ds',p,q,rfl,rfl,rfl,h1,h2⟩:=trodAll_cons h
  simp only [List.all_cons,Bool.and_eq_true,decide_eq_true_eq] at hr
  refine trodAll_cons_mk (Below.trod hl hr.1.1 hr.1.2 h1 bel ?_) (AgZ hl bel h2 hr.2)
  obtain ⟨m,hm⟩:=h1
  exact DataW.trod_lt m _ _ _ hm
theorem Aga: ∀ {pts:List Nat} {vs:List Value} {ds:List (DataW H)} {ps:List MemPlace},DataW.TrodAll enc P W 0 spare held pts vs ds ps→ds.length=pts.length
 | [],vs,ds,ps,h=>by
  obtain ⟨rfl,rfl,rfl⟩:=trodAll_nil h
  rfl
 |t::pts,vs,ds,ps,h=>by
  obtain ⟨v,vs',d,ds',p,q,rfl,rfl,rfl,h1,h2⟩:=trodAll_cons h
  simp [Aga h2]
theorem Ahe (hc:CxTy P cx) (hfn:FnsOK P cx) {f:Nat} {xs:List T} (h:Ev cx (.call f (xs.map .t) []) (· =⟨.ret,[.t (.bool true)],[]⟩)) {vals:Array Value}
  (hv:VRs ⟨fun _=>none,fun _=> []⟩ (· <W.heap.size) W [] (xs.map .t) vals.toList):Calls P f vals W fun e W'=>e= .returned (.bool true)∧Below W.heap.size W W':=by
 have:=sound hc hfn h
 refine (this W ⟨fun _=>none,fun _=> []⟩ (· <W.heap.size) vals (AcN fun b hb=>hb) hv).mono ?_
 rintro e W' ⟨x,v,ι',F',rfl,rfl,_,_,hr,he⟩
 refine ⟨?_,he.os,he.tape,he.output,he.size,fun k hk=>he.same k hk (fun h=>AbP h)⟩
 have:VR ι' F' W' [] (.t (.bool true)) v:=hr
 cases this with
 |t x v h=>cases h;rfl
end
end Go.Eva
namespace Go.Eva
inductive Hd where
 |fail|ret
 |ask (t:Task)|test (b:Bool)|num (k:IntKind) (n:Int)|get (xs:List T) (i:Nat)|norm (x:T)|nat (n:Nat)|cap (lo:Nat)|want (p:Prop)|both|find (kd:IntKind) (n:Int) (ks:List T)
inductive An where
 |b (c:Bool)|i (n:Int)|t (x:T)|n (m:Nat)|r (x:Res)|o|f (x:Option Nat)
def hd {α:Type}:Q α→Hd
 | .fail=> .fail
 | .ret _=> .ret
 | .ask t _=> .ask t
 | .test b _=> .test b
 | .num k n _=> .num k n
 | .get xs i _=> .get xs i
 | .norm x _=> .norm x
 | .nat n _=> .nat n
 | .cap lo _=> .cap lo
 | @Q.want _ p _ _=> .want p
 | .both _ _=> .both
 | .find kd n ks _=> .find kd n ks
def nx {α:Type}:Q α→An→Q α
 | .ask _ k,.r x=>k x
 | .test _ k,.b c=>k c
 | .num _ _ k,.i n=>k n
 | .get _ _ k,.t x=>k x
 | .norm _ k,.t x=>k x
 | .nat _ k,.n m=>k m
 | .cap _ k,.n m=>k m
 | @Q.want _ _ _ q,.o=>q
 | .both p _,.b true=>p
 | .both _ q,.b false=>q
 | .find _ _ _ k,.f x=>k x
 |_,_=> .fail
def out {α:Type}:Q α→Option α
 | .ret a=>some a
 |_=>none
def Ok (S:Task→(Res→Prop)→Prop):Hd→An→Prop
 | .ask t,.r x=>S t (· =x)
 | .test b,.b c=>b=c
 | .num k n,.i m=>k.wrap n=m
 | .get xs i,.t x=>xs[i]?=some x∧x≠ .any
 | .norm x,.t y=>x=y
 | .nat n,.n m=>n=m
 | .want p,.o=>p
 | .find kd n ks,.f x=>keysB kd ks=true∧findIx kd n ks=x
 |_,_=>False
def nxs {α:Type}:Q α→List An→Q α
 |q,[]=>q
 |q,a::az=>nxs (nx q a) az
def hds {α:Type}:Q α→List An→List Hd
 |_,[]=> []
 |q,a::az=>hd q::hds (nx q a) az
def Oks (S:Task→(Res→Prop)→Prop):List Hd→List An→Prop
 | [],[]=>True
 | [h],[a]=>Ok S h a
 |h::hs,a::az=>Ok S h a∧Oks S hs az
 |_,_=>False
abbrev ti (n:Int):T:= .int .i64 n
abbrev vi (n:Int):V:= .t (.int .i64 n)
abbrev vb (b:Bool):V:= .t (.bool b)
def gt {α:Type} [Inhabited α] (l:List α) (i:Nat):α:=l[i]?.getD default
section
variable {S:Task→(Res→Prop)→Prop}
theorem o_w {p:Prop} (h:p):Ok S (.want p) .o:=h
theorem o_n {n m:Nat} (h:n=m):Ok S (.nat n) (.n m):=h
theorem o_i {k:IntKind} {n m:Int} (h:k.wrap n=m):Ok S (.num k n) (.i m):=h
theorem o_t {x y:T} (h:x=y):Ok S (.norm x) (.t y):=h
theorem o_l {s:Nat} {xs ys:List T} (h:xs=ys):Ok S (.norm (.sl s xs)) (.t (.sl s ys)):=congrArg (qp s) h
theorem o_g {xs:List T} {i:Nat} {x:T} (h:xs[i]?=some x) (hx:x≠ .any):Ok S (.get xs i) (.t x):=⟨h,hx⟩
theorem o_gm {α:Type} {f:α→T} {l:List α} {xs:List T} {i:Nat} {e:α} (h:xs=l.map f) (he:l[i]?=some e) (hx:f e≠ .any):Ok S (.get xs i) (.t (f e)):=⟨by subst h;rw [List.getElem?_map,he];rfl,hx⟩
theorem Aht {α:Type} [Inhabited α] {l:List α} {i:Nat} (h:i<l.length):l[i]?=some (gt l i):=by simp [gt,h]
theorem o_gt {α:Type} [Inhabited α] {f:α→T} {l:List α} {xs:List T} {i:Nat} (h:xs=l.map f) (he:i<l.length) (hx:f (gt l i)≠ .any):Ok S (.get xs i) (.t (f (gt l i))):=o_gm h (Aht he) hx
theorem o_b {b c:Bool} (h:b=c):Ok S (.test b) (.b c):=h
theorem o_a {t:Task} {x:Res} (h:S t (· =x)):Ok S (.ask t) (.r x):=h
theorem t_bre {x y:Int} (h:x=y):Ok S (.test (x==y)) (.b true):=by simpa [Ok] using h
theorem f_bre {x y:Int} (h:x≠y):Ok S (.test (x==y)) (.b false):=by simpa [Ok] using h
theorem AeZ {b:Bool} (h:b=false):Ok S (.test (!b)) (.b true):=by simpa [Ok] using h
theorem Afv {b:Bool} (h:b=true):Ok S (.test (!b)) (.b false):=by simpa [Ok] using h
end
theorem w64 {n m:Int} (h: -9223372036854775808≤n∧n≤9223372036854775807∧n=m):IntKind.i64.wrap n=m:=by
 rw [wrap64 ⟨h.1,h.2.1⟩];exact h.2.2
section
variable {α:Type} {f:α→T} {a b:List T} {l m:List α} {x:T} {e:α} {n:Nat}
theorem AiA (h:a=l.map f) (k:b=m.map f):a++b=(l++m).map f:=by rw [h,k,List.map_append]
theorem AhS:([]:List T)=([]:List α).map f:=rfl
theorem Afm (h:x=f e) (k:a=l.map f):x::a=(e::l).map f:=by rw [h,k,List.map_cons]
theorem Ajj (h:a=l.map f) (k:x=f e):a.set n x=(l.set n e).map f:=by rw [h,k,List.map_set]
end
inductive Stp where
 |tt|ff
 |b (x c:Bool)|w (p:Prop)|n (n m:Nat)|l (n:Nat)|i (k:IntKind) (n m:Int)|t (x y:T)|s (x:T)|g (xs:List T) (i:Nat) (x:T)|a (t:Task) (r:Res)|f (kd:IntKind) (n:Int) (ks:List T) (x:Option Nat)
def Stp.hd:Stp→Hd
 | .tt=> .test true| .ff=> .test false
 | .b x1 _=> .test x1| .w p1=> .want p1| .n n1 _=> .nat n1| .l n1=> .nat n1| .i k1 n1 _=> .num k1 n1| .t x1 _=> .norm x1| .s x1=> .norm x1| .g xs1 i1 _=> .get xs1 i1| .a t1 _=> .ask t1| .f kd1 n1 ks1 _=> .find kd1 n1 ks1
def Stp.an:Stp→An
 | .tt=> .b true| .ff=> .b false
 | .b _ c1=> .b c1| .w _=> .o| .n _ m1=> .n m1| .l n1=> .n n1| .i _ _ m1=> .i m1| .t _ y1=> .t y1| .s x1=> .t x1| .g _ _ x1=> .t x1| .a _ r1=> .r r1| .f _ _ _ x1=> .f x1
def hdL:List Stp→List Hd
 | []=> []
 |s::r=>s.hd::hdL r
def anL:List Stp→List An
 | []=> []
 |s::r=>s.an::anL r
def Obs (S:Task→(Res→Prop)→Prop):List Stp→Prop
 | []=>True
 | .tt::r=>Obs S r
 | .ff::r=>Obs S r
 | .l _::r=>Obs S r
 | .s _::r=>Obs S r
 |x::r=>Ok S x.hd x.an∧Obs S r
theorem Obs.oks {S:Task→(Res→Prop)→Prop}: ∀ {l:List Stp},Obs S l→Oks S (hdL l) (anL l)
 | [],_=>trivial
 |s::r,h=>by
  have key:Ok S s.hd s.an∧Oks S (hdL r) (anL r):=by
   cases s<;>first|exact ⟨h.1,Obs.oks h.2⟩|exact ⟨rfl,Obs.oks (l:=r) h⟩
  cases r with
  |nil=>exact key.1
  |cons s' r=>exact key
section
variable {S:Task→(Res→Prop)→Prop}
theorem oW {p:Prop} (h:p:=by omega):Ok S (.want p) .o:=h
theorem oA {p:Prop} (h:p:=by assumption):Ok S (.want p) .o:=h
theorem oN {n m:Nat} (h:n=m:=by omega):Ok S (.nat n) (.n m):=h
theorem oI {n m:Int} (h: -9223372036854775808≤n∧n≤9223372036854775807∧n=m:=by omega):Ok S (.num .i64 n) (.i m):=w64 h
theorem oK {k:IntKind} {n m:Int} (h:k.wrap n=m:=by kernel_rfl):Ok S (.num k n) (.i m):=h
theorem oG {xs:List T} {i:Nat} {x:T} (h:xs[i]?=some x:=by kernel_rfl) (hx:x≠ .any:=by intro h;cases h):Ok S (.get xs i) (.t x):=⟨h,hx⟩
theorem oT {α:Type} [Inhabited α] {f:α→T} {l:List α} {i:Nat} (he:i<l.length:=by omega) (hx:f (gt l i)≠ .any:=by intro h;cases h):Ok S (.get (l.map f) i) (.t (f (gt l i))):=o_gt rfl he hx
theorem tP {p:Prop} [Decidable p] (h:p:=by omega):Ok S (.test (decide p)) (.b true):=decide_eq_true h
theorem fP {p:Prop} [Decidable p] (h: ¬p:=by omega):Ok S (.test (decide p)) (.b false):=decide_eq_false h
theorem fE {x y:Int} (h:x≠y:=by omega):Ok S (.test (x==y)) (.b false):=f_bre h
end
theorem oF {S:Task→(Res→Prop)→Prop} {kd:IntKind} {n:Int} {ks:List T} {x:Option Nat} (h:keysB kd ks=true:=by kernel_rfl) (k:findIx kd n ks=x:=by kernel_rfl):Ok S (.find kd n ks) (.f x):=⟨h,k⟩
structure Wp (cx:Cx) (q:Q Res) (R:Res→Prop):Prop where
 h:wpQ (Ev cx) q R
section
variable {cx:Cx} {R:Res→Prop} {q:Q Res}
theorem Wp.ev {t:Task} (h:Wp cx (body cx t) R):Ev cx t R:=Ev.mk h.h
theorem go1 {a:An} (h:Ok (Ev cx) (hd q) a) (k:Wp cx (nx q a) R):Wp cx q R:=by
 constructor
 replace k:=k.h
 cases q<;>cases a<;>simp only [hd,Ok,nx] at h k<;>try exact h.elim
 ·exact ⟨_,h,⟨_,rfl⟩,fun _ e=>e ▸ k⟩
 ·subst h;exact k
 ·subst h;exact k
 ·exact ⟨_,h.1,h.2,k⟩
 ·subst h;exact k
 ·subst h;exact k
 ·exact ⟨h,k⟩
 ·exact ⟨h.1,h.2.symm ▸ k⟩
theorem go {l:List An} {hs:List Hd} (h:hds q l=hs) (o:Oks (Ev cx) hs l) (k:Wp cx (nxs q l) R):Wp cx q R:=by
 induction l generalizing q hs with
 |nil=>exact k
 |cons a l ih=>
  subst h
  cases l with
  |nil=>exact go1 o k
  |cons b l=>exact go1 o.1 (ih rfl o.2 k)
theorem gs {l:List Stp} (h:hds q (anL l)=hdL l) (o:Obs (Ev cx) l) (k:Wp cx (nxs q (anL l)) R):Wp cx q R:=go h o.oks k
theorem br {b:Bool} (h:hd q= .test b) (ht:b=true→Wp cx (nx q (.b true)) R) (hf:b=false→Wp cx (nx q (.b false)) R):Wp cx q R:=by
 cases q<;>simp only [hd,Hd.test.injEq,reduceCtorEq] at h
 subst h
 rename_i b k
 cases b with
 |true=>exact ⟨(ht rfl).h⟩
 |false=>exact ⟨(hf rfl).h⟩
theorem brp {p:Prop} [d:Decidable p] (h:hd q= .test (decide p)) (ht:p→Wp cx (nx q (.b true)) R) (hf: ¬p→Wp cx (nx q (.b false)) R):Wp cx q R:=
 br h (fun h=>ht (of_decide_eq_true h)) (fun h=>hf (of_decide_eq_false h))
theorem bre {x y:Int} (h:hd q= .test (x==y)) (ht:x=y→Wp cx (nx q (.b true)) R) (hf:x≠y→Wp cx (nx q (.b false)) R):Wp cx q R:=
 br h (fun h=>ht (by simpa using h)) (fun h=>hf (by simpa using h))
theorem brn {x y:Int} (h:hd q= .test (x !=y)) (ht:x≠y→Wp cx (nx q (.b true)) R) (hf:x=y→Wp cx (nx q (.b false)) R):Wp cx q R:=
 br h (fun h=>ht (by simpa using h)) (fun h=>hf (by simpa using h))
theorem brnot {b:Bool} (h:hd q= .test (!b)) (ht:b=false→Wp cx (nx q (.b true)) R) (hf:b=true→Wp cx (nx q (.b false)) R):Wp cx q R:=
 br h (fun h=>ht (by simpa using h)) (fun h=>hf (by simpa using h))
theorem bo (h:hd q= .both) (k1:Wp cx (nx q (.b true)) R) (k2:Wp cx (nx q (.b false)) R):Wp cx q R:=by
 cases q<;>simp only [hd,reduceCtorEq] at h
 exact ⟨k1.h,k2.h⟩
theorem rt {a:Res} (h:out q=some a) (hr:R a):Wp cx q R:=by
 cases q<;>simp only [out,Option.some.injEq,reduceCtorEq] at h
 subst h
 exact ⟨hr⟩
theorem gg (l:List Stp) (o:Obs (Ev cx) l) (k:Wp cx (nxs q (anL l)) R) (h:hds q (anL l)=hdL l:=by kernel_rfl):Wp cx q R:=gs h o k
theorem bO (k1:Wp cx (nx q (.b true)) R) (k2:Wp cx (nx q (.b false)) R) (h:hd q= .both:=by kernel_rfl):Wp cx q R:=bo h k1 k2
theorem rT {a:Res} (hr:R a) (h:out q=some a:=by kernel_rfl):Wp cx q R:=rt h hr
theorem nK {S:Task→(Res→Prop)→Prop} {n m:Nat} (h:n=m:=by kernel_rfl):Ok S (.nat n) (.n m):=h
theorem bK {S:Task→(Res→Prop)→Prop} {b c:Bool} (h:b=c:=by kernel_rfl):Ok S (.test b) (.b c):=h
theorem ge {r:Res} (h:out q=some r:=by kernel_rfl):Wp cx q (· =r):=rt h rfl
end
theorem mkOk {P : Program} {cx : Cx} {f : Nat} {fi : FI} {fn : Func} (h1 : P.funcs[f]? = some fn := by kernel_rfl) (h2 : fn.name ≠ "runtime.NumGoroutine" := by decide +kernel) (h3 : fn.body = some fi.code := by kernel_rfl)
 (h4:fn.results.toList.map rvOf=fi.res:=by kernel_rfl) (h5:fi.res.all (rvTy cx)=true:=by kernel_rfl) (h6:fitC cx fi fn.ntmps fi.code=true:=by decide+kernel):FnOK P cx f fi fn:=⟨h1,h2,h3,h4,h5,h6⟩
end Go.Eva
namespace Go.Eva
def eqK:IntKind→IntKind→Bool
 | .i8,.i8=>true| .i16,.i16=>true| .i32,.i32=>true| .i64,.i64=>true
 | .u8,.u8=>true| .u16,.u16=>true| .u32,.u32=>true| .u64,.u64=>true
 |_,_=>false
def eqI:Int→Int→Bool
 | .ofNat a,.ofNat b=>Nat.beq a b
 | .negSucc a,.negSucc b=>Nat.beq a b
 |_,_=>false
def eqBo:Bool→Bool→Bool
 |true,true=>true
 |false,false=>true
 |_,_=>false
def eqB8:List UInt8→List UInt8→Bool
 | [],[]=>true
 |a::x,b::y=>match Nat.beq a.toNat b.toNat with|true=>eqB8 x y|false=>false
 |_,_=>false
mutual
def T.eqB:T→T→Bool
 | .any,.any=>true
 | .int k n,.int j m=>match eqK k j with|true=>eqI n m|false=>false
 | .bool a,.bool b=>eqBo a b
 | .str a,.str b=>eqB8 a.data.toList b.data.toList
 | .agg a,.agg b=>eqTs a b
 | .sl s a,.sl t b=>match Nat.beq s t with|true=>eqTs a b|false=>false
 | .ip s x o,.ip t y p=>match Nat.beq s t&&Nat.beq o p with|true=>x.eqB y|false=>false
 | .clo f a,.clo g b=>match Nat.beq f g with|true=>eqTs a b|false=>false
 | .nilp,.nilp=>true
 | .nilf,.nilf=>true
 | .nilm,.nilm=>true
 | .nul,.nul=>true
 | .mp a b,.mp c d=>match eqTs a c with|true=>eqTs b d|false=>false
 | .box s a,.box t b=>match Nat.beq s t with|true=>a.eqB b|false=>false
 | .row s a,.row t b=>match Nat.beq s t with|true=>eqTs a b|false=>false
 | .vrow s a,.vrow t b=>match Nat.beq s t with|true=>eqTs a b|false=>false
 | .dict a b,.dict c d=>match eqTs a c with|true=>eqTs b d|false=>false
 |_,_=>false
def eqTs:List T→List T→Bool
 | [],[]=>true
 |a::x,b::y=>match a.eqB b with|true=>eqTs x y|false=>false
 |_,_=>false
end
def eqO:Option Nat→Option Nat→Bool
 |none,none=>true
 |some a,some b=>Nat.beq a b
 |_,_=>false
def eqN:List Nat→List Nat→Bool
 | [],[]=>true
 |a::x,b::y=>match Nat.beq a b with|true=>eqN x y|false=>false
 |_,_=>false
mutual
def V.eqB:V→V→Bool
 | .t a,.t b=>a.eqB b
 | .nil,.nil=>true
 | .fit s a,.fit t b=>match Nat.beq s t with|true=>eqTs a b|false=>false
 | .all i l,.all j m=>match Nat.beq i j with|true=>eqO l m|false=>false
 | .sl i o n l,.sl j p q m=>match Nat.beq i j&&Nat.beq o p&&Nat.beq n q with|true=>eqO l m|false=>false
 | .ptr a b c,.ptr d e f=>Nat.beq a d&&Nat.beq b e&&Nat.beq c f
 | .clo f a,.clo g b=>match Nat.beq f g with|true=>eqVs a b|false=>false
 | .agg a,.agg b=>eqVs a b
 | .tup a,.tup b=>eqVs a b
 | .map a,.map b=>Nat.beq a b
 |_,_=>false
def eqVs:List V→List V→Bool
 | [],[]=>true
 |a::x,b::y=>match a.eqB b with|true=>eqVs x y|false=>false
 |_,_=>false
end
def eqPs:List (Nat×V)→List (Nat×V)→Bool
 | [],[]=>true
 |(i,a)::x,(j,b)::y=>match Nat.beq i j&&a.eqB b with|true=>eqPs x y|false=>false
 |_,_=>false
def Ob.eqB:Ob→Ob→Bool
 | .arr s a p r,.arr t b q u=>match Nat.beq s t&&eqO p q&&eqBo r u with|true=>eqTs a b|false=>false
 | .one s v r,.one t u q=>match Nat.beq s t&&eqBo r q with|true=>v.eqB u|false=>false
 | .vec s a p,.vec t b q=>match Nat.beq s t&&eqTs a b with|true=>eqPs p q|false=>false
 | .map a b p,.map c d q=>match eqTs a c&&eqTs b d with|true=>eqPs p q|false=>false
 | .iter a b c,.iter d e f=>match eqTs a d&&eqTs b e with|true=>eqN c f|false=>false
 | .dead,.dead=>true
 |_,_=>false
def eqH:Heap→Heap→Bool
 | [],[]=>true
 |a::x,b::y=>match a.eqB b with|true=>eqH x y|false=>false
 |_,_=>false
def eqE:Ex→Ex→Bool
 | .normal,.normal=>true
 | .ret,.ret=>true
 | .exit a,.exit b=>Nat.beq a b
 |_,_=>false
def Res.eqB (a b:Res):Bool:=match eqE a.e b.e with
 |true=>match eqVs a.vs b.vs with|true=>eqH a.H b.H|false=>false
 |false=>false
theorem Ajw {a b:IntKind} (h:eqK a b=true):a=b:=by cases a<;>cases b<;>first|rfl|simp [eqK] at h
theorem Ajr {a b:Int} (h:eqI a b=true):a=b:=by
 cases a<;>cases b<;>simp [eqI] at h<;>rw [h]
theorem Afr {a b:Bool} (h:eqBo a b=true):a=b:=by cases a<;>cases b<;>first|rfl|simp [eqBo] at h
theorem AgU {a b:Option Nat} (h:eqO a b=true):a=b:=by
 cases a<;>cases b<;>simp [eqO] at h<;>first|rfl|rw [h]
theorem AiD: ∀ {a b:List Nat},eqN a b=true→a=b
 | [],[],_=>rfl
 |x::a,y::b,h=>by
  unfold eqN at h
  split at h
  ·rename_i hb
   rw [Nat.eq_of_beq_eq_true hb,AiD h]
  ·contradiction
 | [],_::_,h=>by simp [eqN] at h
 |_::_,[],h=>by simp [eqN] at h
theorem AhB: ∀ {a b:List UInt8},eqB8 a b=true→a=b
 | [],[],_=>rfl
 |x::a,y::b,h=>by
  unfold eqB8 at h
  split at h
  ·rename_i hb
   rw [UInt8.toNat_inj.1 (Nat.eq_of_beq_eq_true hb),AhB h]
  ·contradiction
 | [],_::_,h=>by simp [eqB8] at h
 |_::_,[],h=>by simp [eqB8] at h
mutual
theorem T.eqB_ok: ∀ {a b:T},T.eqB a b=true→a=b
 |a,b,h=>by
  unfold T.eqB at h
  split at h
  ·rfl
  ·split at h
   ·rename_i hk;rw [Ajw hk,Ajr h]
   ·contradiction
  ·rw [Afr h]
  ·rename_i a b
   have:=AhB h
   obtain ⟨⟨a⟩⟩:=a
   obtain ⟨⟨b⟩⟩:=b
   simp at this
   rw [this]
  ·rw [eqTs_ok h]
  ·split at h
   ·rename_i hs;rw [Nat.eq_of_beq_eq_true hs,eqTs_ok h]
   ·contradiction
  ·split at h
   ·rename_i hs
    simp only [Bool.and_eq_true] at hs
    rw [Nat.eq_of_beq_eq_true hs.1,Nat.eq_of_beq_eq_true hs.2,T.eqB_ok h]
   ·contradiction
  ·split at h
   ·rename_i hs;rw [Nat.eq_of_beq_eq_true hs,eqTs_ok h]
   ·contradiction
  ·rfl
  ·rfl
  ·rfl
  ·rfl
  ·split at h
   ·rename_i hs;rw [eqTs_ok hs,eqTs_ok h]
   ·contradiction
  ·split at h
   ·rename_i hs;rw [Nat.eq_of_beq_eq_true hs,T.eqB_ok h]
   ·contradiction
  ·split at h
   ·rename_i hs;rw [Nat.eq_of_beq_eq_true hs,eqTs_ok h]
   ·contradiction
  ·split at h
   ·rename_i hs;rw [Nat.eq_of_beq_eq_true hs,eqTs_ok h]
   ·contradiction
  ·split at h
   ·rename_i hs;rw [eqTs_ok hs,eqTs_ok h]
   ·contradiction
  ·contradiction
theorem eqTs_ok: ∀ {a b:List T},eqTs a b=true→a=b
 | [],[],_=>rfl
 |x::a,y::b,h=>by
  unfold eqTs at h
  split at h
  ·rename_i hb;rw [T.eqB_ok hb,eqTs_ok h]
  ·contradiction
 | [],_::_,h=>by simp [eqTs] at h
 |_::_,[],h=>by simp [eqTs] at h
end
mutual
theorem V.eqB_ok: ∀ {a b:V},V.eqB a b=true→a=b
 |a,b,h=>by
  unfold V.eqB at h
  split at h
  ·rw [T.eqB_ok h]
  ·rfl
  ·split at h
   ·rename_i hs;rw [Nat.eq_of_beq_eq_true hs,eqTs_ok h]
   ·contradiction
  ·split at h
   ·rename_i hs;rw [Nat.eq_of_beq_eq_true hs,AgU h]
   ·contradiction
  ·split at h
   ·rename_i hs
    simp only [Bool.and_eq_true] at hs
    rw [Nat.eq_of_beq_eq_true hs.1.1,Nat.eq_of_beq_eq_true hs.1.2,Nat.eq_of_beq_eq_true hs.2,AgU h]
   ·contradiction
  ·simp only [Bool.and_eq_true] at h
   rw [Nat.eq_of_beq_eq_true h.1.1,Nat.eq_of_beq_eq_true h.1.2,Nat.eq_of_beq_eq_true h.2]
  ·split at h
   ·rename_i hs;rw [Nat.eq_of_beq_eq_true hs,eqVs_ok h]
   ·contradiction
  ·rw [eqVs_ok h]
  ·rw [eqVs_ok h]
  ·rw [Nat.eq_of_beq_eq_true h]
  ·contradiction
theorem eqVs_ok: ∀ {a b:List V},eqVs a b=true→a=b
 | [],[],_=>rfl
 |x::a,y::b,h=>by
  unfold eqVs at h
  split at h
  ·rename_i hb;rw [V.eqB_ok hb,eqVs_ok h]
  ·contradiction
 | [],_::_,h=>by simp [eqVs] at h
 |_::_,[],h=>by simp [eqVs] at h
end
theorem Afc: ∀ {a b:List (Nat×V)},eqPs a b=true→a=b
 | [],[],_=>rfl
 |(i,x)::a,(j,y)::b,h=>by
  unfold eqPs at h
  split at h
  ·rename_i hb
   simp only [Bool.and_eq_true] at hb
   rw [Nat.eq_of_beq_eq_true hb.1,V.eqB_ok hb.2,Afc h]
  ·contradiction
 | [],_::_,h=>by simp [eqPs] at h
 |_::_,[],h=>by simp [eqPs] at h
theorem Ob.eqB_ok {a b:Ob} (h:Ob.eqB a b=true):a=b:=by
 unfold Ob.eqB at h
 split at h
 ·split at h
  ·rename_i hs
   simp only [Bool.and_eq_true] at hs
   rw [Nat.eq_of_beq_eq_true hs.1.1,AgU hs.1.2,Afr hs.2,eqTs_ok h]
  ·contradiction
 ·split at h
  ·rename_i hs
   simp only [Bool.and_eq_true] at hs
   rw [Nat.eq_of_beq_eq_true hs.1,Afr hs.2,V.eqB_ok h]
  ·contradiction
 ·split at h
  ·rename_i hs
   simp only [Bool.and_eq_true] at hs
   rw [Nat.eq_of_beq_eq_true hs.1,eqTs_ok hs.2,Afc h]
  ·contradiction
 ·split at h
  ·rename_i hs
   simp only [Bool.and_eq_true] at hs
   rw [eqTs_ok hs.1,eqTs_ok hs.2,Afc h]
  ·contradiction
 ·split at h
  ·rename_i hs
   simp only [Bool.and_eq_true] at hs
   rw [eqTs_ok hs.1,eqTs_ok hs.2,AiD h]
  ·contradiction
 ·rfl
 ·contradiction
theorem Ai8: ∀ {a b:Heap},eqH a b=true→a=b
 | [],[],_=>rfl
 |x::a,y::b,h=>by
  unfold eqH at h
  split at h
  ·rename_i hb;rw [Ob.eqB_ok hb,Ai8 h]
  ·contradiction
 | [],_::_,h=>by simp [eqH] at h
 |_::_,[],h=>by simp [eqH] at h
theorem Ajp {a b:Ex} (h:eqE a b=true):a=b:=by
 unfold eqE at h
 split at h
 ·rfl
 ·rfl
 ·rw [Nat.eq_of_beq_eq_true h]
 ·contradiction
theorem Res.eqB_ok {a b:Res} (h:Res.eqB a b=true):a=b:=by
 obtain ⟨e,vs,H⟩:=a
 obtain ⟨e',vs',H'⟩:=b
 unfold Res.eqB at h
 simp only at h
 split at h
 ·rename_i h1
  split at h
  ·rename_i h2
   rw [Ajp h1,eqVs_ok h2,Ai8 h]
  ·contradiction
 ·contradiction
def nowN {α:Type} (n:Nat) (k:Nat→α):α:=match n with
 |0=>k 0
 |n+1=>k (n+1)
def nowI {α:Type} (n:Int) (k:Int→α):α:=match n with
 | .ofNat m=>nowN m fun m=>k (.ofNat m)
 | .negSucc m=>nowN m fun m=>k (.negSucc m)
def nowT {α:Type} (x:T) (k:T→α):α:=match x with
 | .int kd n=>nowI n fun n=>k (.int kd n)
 | .bool b=>match b with|true=>k (.bool true)|false=>k (.bool false)
 |x=>k x
theorem AgY {α:Type} (n:Nat) (k:Nat→α):nowN n k=k n:=by cases n<;>rfl
theorem AhL {α:Type} (n:Int) (k:Int→α):nowI n k=k n:=by cases n<;>simp [nowI,AgY]
theorem Ah6 {α:Type} (x:T) (k:T→α):nowT x k=k x:=by
 unfold nowT
 split
 ·rw [AhL]
 ·split<;>rfl
 ·rfl
def noAny:T→Bool
 | .any=>true
 |_=>false
def each {α β:Type} (f:α→Option (List β)):List α→Option (List β)
 | []=>some []
 |x::r=>match f x with
  |some l=>match each f r with
   |some m=>some (l++m)
   |none=>none
  |none=>none
def walk (ask:Task→Option (List Res)) {α:Type}:Q α→Option (List α)
 | .fail=>none
 | .ret a=>some [a]
 | .ask t k=>match ask t with
  |some rs=>each (fun r=>walk ask (k r)) rs
  |none=>none
 | .test b k=>match b with
  |true=>walk ask (k true)
  |false=>walk ask (k false)
 | .num kd n k=>nowI (kd.wrap n) fun m=>walk ask (k m)
 | .get xs i k=>match nth xs i with
  |some x=>match noAny x with
   |true=>none
   |false=>nowT x fun x=>walk ask (k x)
  |none=>none
 | .norm x k=>nowT x fun x=>walk ask (k x)
 | .nat n k=>nowN n fun m=>walk ask (k m)
 | .cap _ _=>none
 | @Q.want _ _ d q=>match d with
  |isTrue _=>walk ask q
  |isFalse _=>none
 | .both p q=>match walk ask p with
  |some l=>match walk ask q with
   |some m=>some (l++m)
   |none=>none
  |none=>none
 | .find kd n ks k=>match keysB kd ks with
  |true=>walk ask (k (findIx kd n ks))
  |false=>none
theorem Ahc {α β:Type} {f:α→Option (List β)}: ∀ {l:List α} {m:List β},each f l=some m→ ∀x∈l,∃r,f x=some r∧ ∀y∈r,y∈m
 | [],m,_,x,hx=>by simp at hx
 |z::l,m,h,x,hx=>by
  unfold each at h
  split at h
  ·rename_i r hr
   split at h
   ·rename_i m' hm
    simp at h;subst h
    rcases List.mem_cons.1 hx with rfl|hx
    ·exact ⟨r,hr,fun y hy=>by simp [hy]⟩
    ·obtain ⟨r',h1,h2⟩:=Ahc hm x hx
     exact ⟨r',h1,fun y hy=>by simp [h2 y hy]⟩
   ·contradiction
  ·contradiction
theorem AhD {S:Task→(Res→Prop)→Prop} {ask:Task→Option (List Res)} (ha: ∀t rs,ask t=some rs→S t (· ∈rs)∧rs≠ []) {α:Type} (q:Q α): ∀l,walk ask q=some l→wpQ S q (· ∈l):=by
 induction q with
 |fail=>intro l h;simp [walk] at h
 |ret a=>intro l h;simp [walk] at h;subst h;simp [wpQ]
 |ask t k ih=>
  intro l h
  simp only [walk] at h
  split at h
  ·rename_i rs hrs
   obtain ⟨h1,h2⟩:=ha t rs hrs
   refine ⟨_,h1,?_,fun x hx=> ?_⟩
   ·cases rs with
    |nil=>exact absurd rfl h2
    |cons r _=>exact ⟨r,by simp⟩
   ·obtain ⟨m,h3,h4⟩:=Ahc h x hx
    exact Ab5 _ _ _ h4 (ih x m h3)
  ·contradiction
 |test b k ih=>intro l h;cases b<;>exact ih _ l h
 |num kd n k ih=>intro l h;simp only [walk,AhL] at h;exact ih _ l h
 |get xs i k ih=>
  intro l h
  simp only [walk] at h
  split at h
  ·rename_i x hx
   split at h
   ·contradiction
   ·rename_i hn
    rw [Ah6] at h
    refine ⟨x,by rw [←Aae];exact hx,fun e=>by subst e;simp [noAny] at hn,ih _ l h⟩
  ·contradiction
 |norm x k ih=>intro l h;simp only [walk,Ah6] at h;exact ih _ l h
 |nat n k ih=>intro l h;simp only [walk,AgY] at h;exact ih _ l h
 |cap lo k ih=>intro l h;simp [walk] at h
 |want p q ih=>
  rename_i d
  intro l h
  cases d with
  |isTrue hp=>exact ⟨hp,ih l h⟩
  |isFalse hp=>simp [walk] at h
 |both p q ih1 ih2=>
  intro l h
  simp only [walk] at h
  split at h
  ·rename_i l1 h1
   split at h
   ·rename_i l2 h2
    simp at h;subst h
    exact ⟨Ab5 _ _ _ (fun a ha=>by simp [ha]) (ih1 l1 h1),Ab5 _ _ _ (fun a ha=>by simp [ha]) (ih2 l2 h2)⟩
   ·contradiction
  ·contradiction
 |find kd n ks k ih=>
  intro l h
  simp only [walk] at h
  split at h
  ·rename_i hk;exact ⟨hk,ih _ l h⟩
  ·contradiction
def inR (r:Res):List Res→Bool
 | []=>false
 |x::l=>match r.eqB x with|true=>true|false=>inR r l
def once:List Res→List Res
 | []=> []
 |r::l=>match inR r l with|true=>once l|false=>r::once l
theorem AiF {r:Res}: ∀ {l:List Res},inR r l=true→r∈l
 | [],h=>by simp [inR] at h
 |x::l,h=>by
  unfold inR at h
  split at h
  ·rename_i hx;rw [Res.eqB_ok hx];simp
  ·exact List.mem_cons_of_mem _ (AiF h)
theorem Acx {x:Res}: ∀ {l:List Res},x∈l→x∈once l
 | [],h=>h
 |r::l,h=>by
  unfold once
  split
  ·rename_i hr
   rcases List.mem_cons.1 h with rfl|h
   ·exact Acx (AiF hr)
   ·exact Acx h
  ·rcases List.mem_cons.1 h with rfl|h
   ·simp
   ·exact List.mem_cons_of_mem _ (Acx h)
noncomputable def run (cx:Cx):Nat→Task→Option (List Res)
 |0,_=>none
 |n+1,t=>match walk (run cx n) (body cx t) with
  |some (r::l)=>some (once (r::l))
  |_=>none
theorem Ai6 {cx:Cx}: ∀(n:Nat) (t:Task) (rs:List Res),run cx n t=some rs→Ev cx t (· ∈rs)∧rs≠ []
 |0,t,rs,h=>by simp [run] at h
 |n+1,t,rs,h=>by
  simp only [run] at h
  split at h
  ·rename_i r l hg
   simp only [Option.some.injEq] at h;subst h
   exact ⟨Ev.mk (Ab5 _ _ _ (fun _ h=>Acx h) (AhD (Ai6 n) _ _ hg)),fun e=>by have:=Acx (x:=r) (l:=r::l) (by simp);rw [e] at this;simp at this⟩
  ·contradiction
def allEq (R:Res):List Res→Bool
 | []=>true
 |r::l=>match r.eqB R with|true=>allEq R l|false=>false
theorem Agb {R:Res}: ∀ {l:List Res},allEq R l=true→ ∀r∈l,r=R
 | [],_,r,hr=>by simp at hr
 |x::l,h,r,hr=>by
  unfold allEq at h
  split at h
  ·rename_i hx
   rcases List.mem_cons.1 hr with rfl|hr
   ·exact Res.eqB_ok hx
   ·exact Agb h r hr
  ·contradiction
noncomputable def runs (cx:Cx) (n:Nat) (t:Task) (R:Res):Bool:=match run cx n t with
 |some l=>allEq R l
 |none=>false
theorem Aaw {cx:Cx} {n:Nat} {t:Task} {R:Res} (h:runs cx n t R=true):Is cx t R:=by
 unfold runs at h
 split at h
 ·rename_i l hl
  cases n with
  |zero=>simp [run] at hl
  |succ n=>
   simp only [run] at hl
   split at hl
   ·rename_i r m hg
    simp only [Option.some.injEq] at hl;subst hl
    exact Ev.mk (Ab5 _ _ _ (fun x hx=>Agb h x (Acx hx)) (AhD (Ai6 n) _ _ hg))
   ·contradiction
 ·contradiction
end Go.Eva
namespace Go.Eva.S8
open Go.Proofs
noncomputable def codeOf (f:Func):Code:=match f.body with|some c=>c|none=> .skip
noncomputable def tis:Tr TI:=
 (.n (.n (.n (.n (.n (.n (.n (.n (.n .z ⟨.ptr,1,8,false⟩ .z) ⟨.fn,1,8,false⟩ .z) ⟨.fn,1,8,false⟩ (.n (.n .z ⟨.ptr,1,8,false⟩ .z) ⟨.map 3 43,1,8,false⟩ .z)) ⟨.fn,1,
 8,false⟩ (.n (.n (.n .z ⟨.fn,1,8,false⟩ .z) ⟨.slice 154,1,24,false⟩ .z) ⟨.struct [(0,26)],5,40,true⟩ (.n .z ⟨.fn,1,8,false⟩ .z))) ⟨.ptr,1,8,false⟩ (.n (.n (.n (.n
 .z ⟨.fn,1,8,false⟩ .z) ⟨.fn,1,8,false⟩ .z) ⟨.struct [(0,3),(1,3),(2,3),(3,3),(4,3),(5,3),(6,3),(7,3),(8,3)],9,72,true⟩ (.n (.n .z ⟨.fn,1,8,false⟩ .z)
 ⟨.fn,1,8,false⟩ .z)) ⟨.fn,1,8,false⟩ (.n (.n (.n .z ⟨.fn,1,8,false⟩ .z) ⟨.struct [(0,56),(1,3)],2,32,false⟩ .z) ⟨.fn,1,8,false⟩ (.n .z ⟨.fn,1,8,false⟩ .z))))
 ⟨.struct [(0,2),(1,3),(2,4),(3,6)],4,24,false⟩ (.n (.n (.n (.n (.n .z ⟨.slice 266,1,24,false⟩ .z) ⟨.ptr,1,8,false⟩ .z) ⟨.fn,1,8,false⟩ (.n (.n .z ⟨.fn,1,8,
 false⟩ .z) ⟨.fn,1,8,false⟩ .z)) ⟨.fn,1,8,false⟩ (.n (.n (.n .z ⟨.fn,1,8,false⟩ .z) ⟨.fn,1,8,false⟩ .z) ⟨.map 3 112,1,8,false⟩ (.n .z ⟨.fn,1,8,false⟩ .z)))
 ⟨.struct [(0,3),(1,3),(2,4)],3,24,true⟩ (.n (.n (.n (.n .z ⟨.fn,1,8,false⟩ .z) ⟨.ptr,1,8,false⟩ .z) ⟨.ptr,1,8,false⟩ (.n .z ⟨.fn,1,8,false⟩ .z)) ⟨.fn,1,8,
 false⟩ (.n (.n (.n .z ⟨.fn,1,8,false⟩ .z) ⟨.struct [(0,181)],1,24,false⟩ .z) ⟨.struct [(0,45),(3,116),(4,117),(5,4),(6,3),(7,43),(8,3),(9,3)],10,160,false⟩
 (.n .z ⟨.fn,1,8,false⟩ .z))))) ⟨.int .i64,1,8,false⟩ (.n (.n (.n (.n (.n (.n .z ⟨.fn,1,8,false⟩ .z) ⟨.fn,1,8,false⟩ .z) ⟨.struct [(0,3),(1,3),(2,43)],3,40,
 false⟩ (.n (.n .z ⟨.fn,1,8,false⟩ .z) ⟨.fn,1,8,false⟩ .z)) ⟨.struct [(0,33),(1,34)],2,48,false⟩ (.n (.n (.n .z ⟨.fn,1,8,false⟩ .z) ⟨.struct [(0,3),(1,3),(2,
 117),(3,161)],4,64,false⟩ .z) ⟨.ptr,1,8,false⟩ (.n .z ⟨.fn,1,8,false⟩ .z))) ⟨.struct [(0,17)],1,8,false⟩ (.n (.n (.n (.n .z ⟨.fn,1,8,false⟩ .z) ⟨.fn,1,8,false⟩
 .z) ⟨.fn,1,8,false⟩ (.n (.n .z ⟨.struct [(0,12),(1,12),(2,308),(3,333),(4,5),(5,5),(6,334),(7,335),(8,336),(9,337),(10,338)],11,48,false⟩ .z) ⟨.struct
 [(0,26),(5,3),(6,3),(7,40),(8,3)],9,88,false⟩ .z)) ⟨.fn,1,8,false⟩ (.n (.n (.n .z ⟨.fn,1,8,false⟩ .z) ⟨.struct [(0,177)],1,24,false⟩ .z) ⟨.fn,1,8,false⟩
 (.n .z ⟨.fn,1,8,false⟩ .z)))) ⟨.str,1,16,false⟩ (.n (.n (.n (.n (.n .z ⟨.fn,1,8,false⟩ .z) ⟨.fn,1,8,false⟩ .z) ⟨.other,1,0,false⟩ (.n (.h .z .z) ⟨.fn,1,8,false⟩
 .z)) ⟨.slice 81,1,24,false⟩ (.n (.n (.n .z ⟨.fn,1,8,false⟩ .z) ⟨.fn,1,8,false⟩ .z) ⟨.fn,1,8,false⟩ (.n .z ⟨.fn,1,8,false⟩ .z))) ⟨.ptr,1,8,false⟩ (.n (.n (.n (.n
 .z ⟨.fn,1,8,false⟩ .z) ⟨.struct [(0,3),(1,45),(4,154),(5,4),(6,3),(7,3),(8,45)],11,168,false⟩ .z) ⟨.struct [(0,26),(5,87),(6,88),(7,89),(8,3),(9,3),
 (10,3)],11,104,false⟩ (.n .z ⟨.fn,1,8,false⟩ .z)) ⟨.fn,1,8,false⟩ (.n (.n (.n .z ⟨.int .u64,1,8,false⟩ .z) ⟨.struct [(0,186)],1,24,false⟩ .z) ⟨.fn,1,8,false⟩
 (.n .z ⟨.fn,1,8,false⟩ .z)))))) ⟨.fn,1,8,false⟩ (.n (.n (.n (.n (.n (.n (.n .z ⟨.struct [(0,96),(5,3),(6,3),(7,40),(8,3),(9,43)],10,112,false⟩ .z) ⟨.fn,1,8,
 false⟩ .z) ⟨.slice 70,1,24,false⟩ (.n (.n .z ⟨.fn,1,8,false⟩ .z) ⟨.fn,1,8,false⟩ .z)) ⟨.slice 42,1,24,false⟩ (.n (.n (.n .z ⟨.fn,1,8,false⟩ .z) ⟨.slice 117,1,24,
 false⟩ .z) ⟨.other,1,0,false⟩ (.n .z ⟨.fn,1,8,false⟩ .z))) ⟨.ptr,1,8,false⟩ (.n (.n (.n (.n .z ⟨.fn,1,8,false⟩ .z) ⟨.fn,1,8,false⟩ .z) ⟨.struct [(0,3),(1,3),(2,
 3),(3,3),(4,79),(13,3),(14,3)],15,120,true⟩ (.n (.n .z ⟨.int .i32,1,4,false⟩ .z) ⟨.fn,1,8,false⟩ .z)) ⟨.fn,1,8,false⟩ (.n (.n (.n .z ⟨.other,1,0,false⟩ .z)
 ⟨.slice 176,1,24,false⟩ .z) ⟨.fn,1,8,false⟩ (.n .z ⟨.fn,1,8,false⟩ .z)))) ⟨.str,1,16,false⟩ (.n (.n (.n (.n (.n .z ⟨.struct [(0,263),(1,262)],2,32,false⟩ .z)
 ⟨.fn,1,8,false⟩ .z) ⟨.fn,1,8,false⟩ (.n (.n .z ⟨.struct [(0,17),(1,17),(2,17),(3,9)],4,40,false⟩ .z) ⟨.fn,1,8,false⟩ .z)) ⟨.struct [(0,3),(1,40)],2,32,
 false⟩ (.n (.n (.n .z ⟨.fn,1,8,false⟩ .z) ⟨.struct [(0,45),(3,56),(4,42),(6,43)],7,136,false⟩ .z) ⟨.struct [(0,99),(1,96),(6,101),(7,103),(8,3),(9,3),(10,
 3)],11,88,false⟩ (.n .z ⟨.struct [(0,232)],1,24,false⟩ .z))) ⟨.struct [(0,3),(1,3),(2,3),(3,3),(4,24)],5,40,false⟩ (.n (.n (.n (.n .z ⟨.fn,1,8,false⟩ .z)
 ⟨.fn,1,8,false⟩ .z) ⟨.slice 151,1,24,false⟩ (.n .z ⟨.fn,1,8,false⟩ .z)) ⟨.fn,1,8,false⟩ (.n (.n (.n .z ⟨.fn,1,8,false⟩ .z) ⟨.struct [(0,183)],1,24,false⟩ .z)
 ⟨.fn,1,8,false⟩ (.n .z ⟨.fn,1,8,false⟩ .z))))) ⟨.int .u8,1,1,false⟩ (.n (.n (.n (.n (.n (.n .z ⟨.ptr,1,8,false⟩ .z) ⟨.struct [(0,42),(2,43),(3,56),(4,42),(6,
 43)],7,136,false⟩ .z) ⟨.struct [(0,3),(1,3),(2,3),(3,3),(4,56),(5,4),(6,68),(9,45)],12,160,false⟩ (.n (.n .z ⟨.fn,1,8,false⟩ .z) ⟨.fn,1,8,false⟩ .z))
 ⟨.other,1,0,false⟩ (.n (.n (.n .z ⟨.fn,1,8,false⟩ .z) ⟨.fn,1,8,false⟩ .z) ⟨.ptr,1,8,false⟩ (.n .z ⟨.fn,1,8,false⟩ .z))) ⟨.int .i32,1,4,false⟩ (.n (.n (.n (.n .z
 ⟨.fn,1,8,false⟩ .z) ⟨.fn,1,8,false⟩ .z) ⟨.other,1,0,false⟩ (.n (.n .z ⟨.fn,1,8,false⟩ .z) ⟨.fn,1,8,false⟩ .z)) ⟨.fn,1,8,false⟩ (.n (.n (.n .z ⟨.fn,1,8,false⟩
 .z) ⟨.slice 205,1,24,false⟩ .z) ⟨.slice 4,1,24,false⟩ (.n .z ⟨.fn,1,8,false⟩ .z)))) ⟨.struct [(0,9),(1,12)],2,24,false⟩ (.n (.n (.n (.n (.n .z ⟨.struct [(0,163),
 (4,66),(5,3),(6,3)],7,104,false⟩ .z) ⟨.fn,1,8,false⟩ .z) ⟨.fn,1,8,false⟩ (.n (.n .z ⟨.int .u8,1,1,false⟩ .z) ⟨.struct [(0,56),(1,3),(2,4)],3,40,false⟩ .z))
 ⟨.struct [(0,42),(2,43)],3,56,false⟩ (.n (.n (.n .z ⟨.other,1,0,false⟩ .z) ⟨.fn,1,8,false⟩ .z) ⟨.other,1,0,false⟩ (.n .z ⟨.slice 68,1,24,false⟩ .z))) ⟨.other,1,
 0,false⟩ (.n (.n (.n (.n .z ⟨.fn,1,8,false⟩ .z) ⟨.other,1,0,false⟩ .z) ⟨.fn,1,8,false⟩ (.n .z ⟨.fn,1,8,false⟩ .z)) ⟨.fn,1,8,false⟩ (.n (.n (.n .z ⟨.fn,1,8,false⟩
 .z) ⟨.struct [(0,188)],1,24,false⟩ .z) ⟨.fn,1,8,false⟩ (.n .z ⟨.fn,1,8,false⟩ .z))))))) ⟨.other,1,0,false⟩ (.n (.n (.n (.n (.n (.n (.n (.n .z ⟨.struct [(0,96),(5,
 3),(6,3),(7,40),(8,3),(9,43)],10,112,false⟩ .z) ⟨.fn,1,8,false⟩ .z) ⟨.fn,1,8,false⟩ (.n (.n .z ⟨.fn,1,8,false⟩ .z) ⟨.fn,1,8,false⟩ .z)) ⟨.fn,1,8,false⟩
 (.n (.n (.n .z ⟨.fn,1,8,false⟩ .z) ⟨.slice 163,1,24,false⟩ .z) ⟨.struct [(0,26)],5,40,false⟩ (.n .z ⟨.fn,1,8,false⟩ .z))) ⟨.ptr,1,8,false⟩ (.n (.n (.n (.n .z ⟨.fn,
 1,8,false⟩ .z) ⟨.fn,1,8,false⟩ .z) ⟨.struct [(0,3),(1,3),(2,3),(3,3),(4,79),(13,3),(14,3)],15,120,true⟩ (.n (.n .z ⟨.ptr,1,8,false⟩ .z) ⟨.ptr,1,8,false⟩
 .z)) ⟨.fn,1,8,false⟩ (.n (.n (.n .z ⟨.fn,1,8,false⟩ .z) ⟨.struct [(0,56),(1,3)],2,32,false⟩ .z) ⟨.ptr,1,8,false⟩ (.n .z ⟨.other,1,0,false⟩ .z)))) ⟨.struct [(0,
 2),(1,3),(2,4),(3,6)],4,24,false⟩ (.n (.n (.n (.n (.n .z ⟨.struct [(0,263),(1,262)],2,32,false⟩ .z) ⟨.fn,1,8,false⟩ .z) ⟨.fn,1,8,false⟩ (.n (.n .z ⟨.struct
 [(0,17),(1,17),(2,17),(3,9)],4,40,false⟩ .z) ⟨.fn,1,8,false⟩ .z)) ⟨.slice 79,1,24,false⟩ (.n (.n (.n .z ⟨.ptr,1,8,false⟩ .z) ⟨.struct [(0,45),(3,56),(4,42),
 (6,43)],7,136,false⟩ .z) ⟨.struct [(0,99),(1,96),(6,101),(7,103),(8,3),(9,3),(10,3)],11,88,false⟩ (.n .z ⟨.slice 237,1,24,false⟩ .z))) ⟨.int .u64,1,8,
 false⟩ (.n (.n (.n (.n .z ⟨.fn,1,8,false⟩ .z) ⟨.fn,1,8,false⟩ .z) ⟨.ptr,1,8,false⟩ (.n .z ⟨.fn,1,8,false⟩ .z)) ⟨.slice 23,1,24,false⟩ (.n (.n (.n .z ⟨.fn,1,8,
 false⟩ .z) ⟨.struct [(0,183)],1,24,false⟩ .z) ⟨.fn,1,8,false⟩ (.n .z ⟨.fn,1,8,false⟩ .z))))) ⟨.bool,1,1,false⟩ (.n (.n (.n (.n (.n (.n .z ⟨.fn,1,8,false⟩ .z) ⟨.fn,
 1,8,false⟩ .z) ⟨.struct [(0,3),(1,3),(2,43)],3,40,false⟩ (.n (.n .z ⟨.ptr,1,8,false⟩ .z) ⟨.fn,1,8,false⟩ .z)) ⟨.struct [(0,33),(1,34)],2,48,false⟩ (.n (.n (.n
 .z ⟨.fn,1,8,false⟩ .z) ⟨.fn,1,8,false⟩ .z) ⟨.fn,1,8,false⟩ (.n .z ⟨.fn,1,8,false⟩ .z))) ⟨.other,1,16,false⟩ (.n (.n (.n (.n .z ⟨.ptr,1,8,false⟩ .z) ⟨.fn,1,8,
 false⟩ .z) ⟨.ptr,1,8,false⟩ (.n (.n .z ⟨.struct [(0,12),(1,12),(2,308),(3,333),(4,5),(5,5),(6,334),(7,335),(8,336),(9,337),(10,338)],11,48,false⟩ .z)
 ⟨.fn,1,8,false⟩ .z)) ⟨.fn,1,8,false⟩ (.n (.n (.n .z ⟨.int .u32,1,4,false⟩ .z) ⟨.ptr,1,8,false⟩ .z) ⟨.slice 135,1,24,false⟩ (.n .z ⟨.fn,1,8,false⟩ .z)))) ⟨.int
 .u64,1,8,false⟩ (.n (.n (.n (.n (.n .z ⟨.struct [(0,163),(4,66),(5,3),(6,3)],7,104,false⟩ .z) ⟨.fn,1,8,false⟩ .z) ⟨.fn,1,8,false⟩ (.n (.h .z .z) ⟨.struct [(0,
 56),(1,3),(2,4)],3,40,false⟩ .z)) ⟨.struct [(0,42),(2,43)],3,56,false⟩ (.n (.n (.n .z ⟨.int .i64,1,8,false⟩ .z) ⟨.fn,1,8,false⟩ .z) ⟨.fn,1,8,false⟩ (.n .z
 ⟨.fn,1,8,false⟩ .z))) ⟨.int .i64,1,8,false⟩ (.n (.n (.n (.n .z ⟨.fn,1,8,false⟩ .z) ⟨.struct [(0,3),(1,45),(4,154),(5,4),(6,3),(7,3),(8,45)],11,168,false⟩
 .z) ⟨.fn,1,8,false⟩ (.n .z ⟨.fn,1,8,false⟩ .z)) ⟨.fn,1,8,false⟩ (.n (.n (.n .z ⟨.fn,1,8,false⟩ .z) ⟨.struct [(0,186)],1,24,false⟩ .z) ⟨.other,1,0,false⟩ (.n .z
 ⟨.fn,1,8,false⟩ .z)))))) ⟨.int .i64,1,8,false⟩ (.n (.n (.n (.n (.n (.n (.n .z ⟨.fn,1,8,false⟩ .z) ⟨.fn,1,8,false⟩ .z) ⟨.slice 3,1,24,false⟩ (.n (.n .z ⟨.fn,1,8,
 false⟩ .z) ⟨.fn,1,8,false⟩ .z)) ⟨.slice 43,1,24,false⟩ (.n (.n (.n .z ⟨.ptr,1,8,false⟩ .z) ⟨.struct [(0,3),(1,3),(2,117),(3,161)],4,64,false⟩ .z) ⟨.fn,1,8,
 false⟩ (.n .z ⟨.fn,1,8,false⟩ .z))) ⟨.struct [(0,17)],1,8,false⟩ (.n (.n (.n (.n .z ⟨.fn,1,8,false⟩ .z) ⟨.fn,1,8,false⟩ .z) ⟨.fn,1,8,false⟩ (.n (.n .z ⟨.int .i32,
 1,4,false⟩ .z) ⟨.struct [(0,26),(5,3),(6,3),(7,40),(8,3)],9,88,false⟩ .z)) ⟨.fn,1,8,false⟩ (.n (.n (.n .z ⟨.fn,1,8,false⟩ .z) ⟨.struct [(0,177)],1,24,false⟩
 .z) ⟨.fn,1,8,false⟩ (.n .z ⟨.fn,1,8,false⟩ .z)))) ⟨.str,1,16,false⟩ (.n (.n (.n (.n (.n .z ⟨.ptr,1,8,false⟩ .z) ⟨.fn,1,8,false⟩ .z) ⟨.fn,1,8,false⟩ (.n (.h .z .z)
 ⟨.ptr,1,8,false⟩ .z)) ⟨.struct [(0,3),(1,40)],2,32,false⟩ (.n (.n (.n .z ⟨.fn,1,8,false⟩ .z) ⟨.fn,1,8,false⟩ .z) ⟨.fn,1,8,false⟩ (.n .z ⟨.struct [(0,232)],1,
 24,false⟩ .z))) ⟨.struct [(0,3),(1,3),(2,3),(3,3),(4,24)],5,40,true⟩ (.n (.n (.n (.n .z ⟨.fn,1,8,false⟩ .z) ⟨.slice 169,1,24,false⟩ .z) ⟨.struct [(0,26),(5,
 87),(6,88),(7,89),(8,3),(9,3),(10,3)],11,104,false⟩ (.n .z ⟨.fn,1,8,false⟩ .z)) ⟨.other,1,0,false⟩ (.n (.n (.n .z ⟨.fn,1,8,false⟩ .z) ⟨.slice 191,1,24,
 false⟩ .z) ⟨.fn,1,8,false⟩ (.n .z ⟨.fn,1,8,false⟩ .z))))) ⟨.int .u8,1,1,false⟩ (.n (.n (.n (.n (.n (.n .z ⟨.map 3 266,1,8,false⟩ .z) ⟨.struct [(0,42),(2,43),(3,
 56),(4,42),(6,43)],7,136,false⟩ .z) ⟨.struct [(0,3),(1,3),(2,3),(3,3),(4,56),(5,4),(6,68),(9,45)],12,160,false⟩ (.n (.n .z ⟨.fn,1,8,false⟩ .z) ⟨.fn,1,
 8,false⟩ .z)) ⟨.fn,1,8,false⟩ (.n (.n (.n .z ⟨.fn,1,8,false⟩ .z) ⟨.other,1,0,false⟩ .z) ⟨.fn,1,8,false⟩ (.n .z ⟨.fn,1,8,false⟩ .z))) ⟨.struct [(0,3),(1,3),(2,
 4)],3,24,false⟩ (.n (.n (.n (.n .z ⟨.fn,1,8,false⟩ .z) ⟨.fn,1,8,false⟩ .z) ⟨.fn,1,8,false⟩ (.n (.n .z ⟨.other,1,8,false⟩ .z) ⟨.other,1,0,false⟩ .z)) ⟨.slice 56,
 1,24,false⟩ (.n (.n (.n .z ⟨.fn,1,8,false⟩ .z) ⟨.struct [(0,181)],1,24,false⟩ .z) ⟨.struct [(0,45),(3,116),(4,117),(5,4),(6,3),(7,43),(8,3),(9,3)],10,160,
 false⟩ (.n .z ⟨.fn,1,8,false⟩ .z)))) ⟨.struct [(0,9),(1,12)],2,24,false⟩ (.n (.n (.n (.n (.n .z ⟨.fn,1,8,false⟩ .z) ⟨.fn,1,8,false⟩ .z) ⟨.struct [(0,3),(1,3),(2,
 3),(3,3),(4,3),(5,3),(6,3),(7,3),(8,3)],9,72,false⟩ (.n (.n .z ⟨.int .u8,1,1,false⟩ .z) ⟨.fn,1,8,false⟩ .z)) ⟨.int .u64,1,8,false⟩ (.n (.n (.n .z ⟨.fn,1,
 8,false⟩ .z) ⟨.fn,1,8,false⟩ .z) ⟨.fn,1,8,false⟩ (.n .z ⟨.fn,1,8,false⟩ .z))) ⟨.fn,1,8,false⟩ (.n (.n (.n (.n .z ⟨.fn,1,8,false⟩ .z) ⟨.fn,1,8,false⟩ .z) ⟨.fn,1,
 8,false⟩ (.n .z ⟨.fn,1,8,false⟩ .z)) ⟨.slice 36,1,24,false⟩ (.n (.n (.n .z ⟨.fn,1,8,false⟩ .z) ⟨.struct [(0,188)],1,24,false⟩ .z) ⟨.fn,1,8,false⟩ (.n .z ⟨.fn,1,
 8,false⟩ .z))))))))
noncomputable def fi9:FI:=⟨codeOf Tryz.f9,[.tmp 6],.pure,[],[],[],false,false⟩
noncomputable def fi11:FI:=⟨codeOf Tryz.f11,[.tmp 2,.tmp 3],.fresh,[],[(4,.one 0 (.one 1 (.alt 2 (.alt 3 (.alt 4 (.two 5 (.two 6 (.two 7 (.one 8 (.one 9 (.one 10 (.one 11 (.one 12 (.done)))))) 8 (.one 7 (.one 9 (.one 10 (.one 11 (.one 12 (.done))))))) 8 (.one 6 (.one 7 (.one 9 (.one 10 (.one 11 (.one 12 (.done)))))))) 8 (.one 5 (.one 6 (.one 7 (.one 9 (.one 10 (.one 11 (.one 12 (.done))))))))) (.alt 5 (.alt 4 (.two 6 (.two 7 (.one 8 (.one 9 (.one 10 (.one 11 (.one 12 (.done)))))) 8 (.one 7 (.one 9 (.one 10 (.one 11 (.one 12 (.done))))))) 8 (.one 6 (.one 7 (.one 9 (.one 10 (.one 11 (.one 12 (.done)))))))) (.alt 6 (.alt 4 (.two 7 (.one 8 (.one 9 (.one 10 (.one 11 (.one 12 (.done)))))) 8 (.one 7 (.one 9 (.one 10 (.one 11 (.one 12 (.done))))))) (.alt 7 (.two 4 (.one 8 (.one 9 (.one 10 (.one 11 (.one 12 (.done)))))) 8 (.one 4 (.one 9 (.one 10 (.one 11 (.one 12 (.done))))))) (.one 8 (.one 4 (.one 7 (.one 9 (.one 10 (.one 11 (.one 12 (.done)))))))))) (.one 8 (.one 4 (.one 6 (.one 7 (.one 9 (.one 10 (.one 11 (.one 12 (.done))))))))))) (.one 8 (.one 4 (.one 5 (.one 6 (.one 7 (.one 9 (.one 10 (.one 11 (.one 12 (.done)))))))))))) (.alt 4 (.alt 3 (.two 5 (.two 6 (.two 7 (.one 8 (.one 9 (.one 10 (.one 11 (.one 12 (.done)))))) 8 (.one 7 (.one 9 (.one 10 (.one 11 (.one 12 (.done))))))) 8 (.one 6 (.one 7 (.one 9 (.one 10 (.one 11 (.one 12 (.done)))))))) 8 (.one 5 (.one 6 (.one 7 (.one 9 (.one 10 (.one 11 (.one 12 (.done))))))))) (.alt 5 (.two 3 (.two 6 (.two 7 (.one 8 (.one 9 (.one 10 (.one 11 (.one 12 (.done)))))) 8 (.one 7 (.one 9 (.one 10 (.one 11 (.one 12 (.done))))))) 8 (.one 6 (.one 7 (.one 9 (.one 10 (.one 11 (.one 12 (.done)))))))) 8 (.one 3 (.one 6 (.one 7 (.one 9 (.one 10 (.one 11 (.one 12 (.done))))))))) (.one 8 (.one 5 (.one 3 (.one 6 (.one 7 (.one 9 (.one 10 (.one 11 (.one 12 (.done)))))))))))) (.alt 5 (.alt 3 (.alt 4 (.two 6 (.two 7 (.one 8 (.one 9 (.one 10 (.one 11 (.one 12 (.done)))))) 8 (.one 7 (.one 9 (.one 10 (.one 11 (.one 12 (.done))))))) 8 (.one 6 (.one 7 (.one 9 (.one 10 (.one 11 (.one 12 (.done)))))))) (.alt 6 (.alt 4 (.two 7 (.one 8 (.one 9 (.one 10 (.one 11 (.one 12 (.done)))))) 8 (.one 7 (.one 9 (.one 10 (.one 11 (.one 12 (.done))))))) (.alt 7 (.two 4 (.one 8 (.one 9 (.one 10 (.one 11 (.one 12 (.done)))))) 8 (.one 4 (.one 9 (.one 10 (.one 11 (.one 12 (.done))))))) (.one 8 (.one 4 (.one 7 (.one 9 (.one 10 (.one 11 (.one 12 (.done)))))))))) (.one 8 (.one 4 (.one 6 (.one 7 (.one 9 (.one 10 (.one 11 (.one 12 (.done))))))))))) (.alt 4 (.two 3 (.two 6 (.two 7 (.one 8 (.one 9 (.one 10 (.one 11 (.one 12 (.done)))))) 8 (.one 7 (.one 9 (.one 10 (.one 11 (.one 12 (.done))))))) 8 (.one 6 (.one 7 (.one 9 (.one 10 (.one 11 (.one 12 (.done)))))))) 8 (.one 3 (.one 6 (.one 7 (.one 9 (.one 10 (.one 11 (.one 12 (.done))))))))) (.one 8 (.one 4 (.one 3 (.one 6 (.one 7 (.one 9 (.one 10 (.one 11 (.one 12 (.done)))))))))))) (.one 8 (.one 4 (.one 5 (.one 3 (.one 6 (.one 7 (.one 9 (.one 10 (.one 11 (.one 12 (.done)))))))))))))) (.alt 4 (.alt 2 (.alt 3 (.two 5 (.two 6 (.two 7 (.one 8 (.one 9 (.one 10 (.one 11 (.one 12 (.done)))))) 8 (.one 7 (.one 9 (.one 10 (.one 11 (.one 12 (.done))))))) 8 (.one 6 (.one 7 (.one 9 (.one 10 (.one 11 (.one 12 (.done)))))))) 8 (.one 5 (.one 6 (.one 7 (.one 9 (.one 10 (.one 11 (.one 12 (.done))))))))) (.alt 5 (.two 3 (.two 6 (.two 7 (.one 8 (.one 9 (.one 10 (.one 11 (.one 12 (.done)))))) 8 (.one 7 (.one 9 (.one 10 (.one 11 (.one 12 (.done))))))) 8 (.one 6 (.one 7 (.one 9 (.one 10 (.one 11 (.one 12 (.done)))))))) 8 (.one 3 (.one 6 (.one 7 (.one 9 (.one 10 (.one 11 (.one 12 (.done))))))))) (.one 8 (.one 5 (.one 3 (.one 6 (.one 7 (.one 9 (.one 10 (.one 11 (.one 12 (.done)))))))))))) (.alt 5 (.two 2 (.two 3 (.two 6 (.two 7 (.one 8 (.one 9 (.one 10 (.one 11 (.one 12 (.done)))))) 8 (.one 7 (.one 9 (.one 10 (.one 11 (.one 12 (.done))))))) 8 (.one 6 (.one 7 (.one 9 (.one 10 (.one 11 (.one 12 (.done)))))))) 8 (.one 3 (.one 6 (.one 7 (.one 9 (.one 10 (.one 11 (.one 12 (.done))))))))) 8 (.one 2 (.one 3 (.one 6 (.one 7 (.one 9 (.one 10 (.one 11 (.one 12 (.done)))))))))) (.one 8 (.one 2 (.one 5 (.one 3 (.one 6 (.one 7 (.one 9 (.one 10 (.one 11 (.one 12 (.done))))))))))))) (.alt 5 (.alt 2 (.alt 3 (.alt 4 (.two 6 (.two 7 (.one 8 (.one 9 (.one 10 (.one 11 (.one 12 (.done)))))) 8 (.one 7 (.one 9 (.one 10 (.one 11 (.one 12 (.done))))))) 8 (.one 6 (.one 7 (.one 9 (.one 10 (.one 11 (.one 12 (.done)))))))) (.alt 6 (.alt 4 (.two 7 (.one 8 (.one 9 (.one 10 (.one 11 (.one 12 (.done)))))) 8 (.one 7 (.one 9 (.one 10 (.one 11 (.one 12 (.done))))))) (.alt 7 (.two 4 (.one 8 (.one 9 (.one 10 (.one 11 (.one 12 (.done)))))) 8 (.one 4 (.one 9 (.one 10 (.one 11 (.one 12 (.done))))))) (.one 8 (.one 4 (.one 7 (.one 9 (.one 10 (.one 11 (.one 12 (.done)))))))))) (.one 8 (.one 4 (.one 6 (.one 7 (.one 9 (.one 10 (.one 11 (.one 12 (.done))))))))))) (.alt 4 (.two 3 (.two 6 (.two 7 (.one 8 (.one 9 (.one 10 (.one 11 (.one 12 (.done)))))) 8 (.one 7 (.one 9 (.one 10 (.one 11 (.one 12 (.done))))))) 8 (.one 6 (.one 7 (.one 9 (.one 10 (.one 11 (.one 12 (.done)))))))) 8 (.one 3 (.one 6 (.one 7 (.one 9 (.one 10 (.one 11 (.one 12 (.done))))))))) (.one 8 (.one 4 (.one 3 (.one 6 (.one 7 (.one 9 (.one 10 (.one 11 (.one 12 (.done)))))))))))) (.alt 4 (.two 2 (.two 3 (.two 6 (.two 7 (.one 8 (.one 9 (.one 10 (.one 11 (.one 12 (.done)))))) 8 (.one 7 (.one 9 (.one 10 (.one 11 (.one 12 (.done))))))) 8 (.one 6 (.one 7 (.one 9 (.one 10 (.one 11 (.one 12 (.done)))))))) 8 (.one 3 (.one 6 (.one 7 (.one 9 (.one 10 (.one 11 (.one 12 (.done))))))))) 8 (.one 2 (.one 3 (.one 6 (.one 7 (.one 9 (.one 10 (.one 11 (.one 12 (.done)))))))))) (.one 8 (.one 2 (.one 4 (.one 3 (.one 6 (.one 7 (.one 9 (.one 10 (.one 11 (.one 12 (.done))))))))))))) (.one 8 (.one 2 (.one 4 (.one 5 (.one 3 (.one 6 (.one 7 (.one 9 (.one 10 (.one 11 (.one 12 (.done)))))))))))))))))],[],true,true⟩
noncomputable def fi12:FI:=⟨codeOf Tryz.f12,[.tmp 0],.pure,[],[],[],false,false⟩
noncomputable def fi14:FI:=⟨codeOf Tryz.f14,[.cell 2 36,.tmp 3],.pure,[([0,1,0,1,1,1,1],[1,2,4,5,6])],[(4,.one 0 (.one 2 (.alt 1 (.two 3 (.one 4 (.one 5 (.one 6 (.done)))) 5 (.one 3 (.one 4 (.one 6 (.done))))) (.alt 3 (.two 1 (.one 4 (.one 5 (.one 6 (.done)))) 5 (.one 1 (.one 4 (.one 6 (.done))))) (.one 5 (.two 1 (.one 3 (.one 4 (.one 6 (.done)))) 3 (.one 1 (.one 4 (.one 6 (.done)))))))))),(10,.one 0 (.one 2 (.one 3 (.one 5 (.one 9 (.one 10 (.one 11 (.one 12 (.one 13 (.one 14 (.one 4 (.one 6 (.one 7 (.one 8 (.two 1 (.one 15 (.one 16 (.one 17 (.one 18 (.one 19 (.done)))))) 15 (.two 1 (.one 16 (.one 17 (.one 18 (.one 19 (.done))))) 16 (.one 1 (.one 17 (.one 18 (.one 19 (.done)))))))))))))))))))))],[],false,false⟩
noncomputable def fi15:FI:=⟨codeOf Tryz.f15,[.tmp 6],.inout,[],[(7,.one 0 (.one 1 (.one 2 (.one 4 (.one 3 (.one 5 (.one 6 (.one 7 (.one 8 (.done)))))))))),(9,.one 0 (.one 1 (.one 2 (.one 4 (.one 5 (.one 8 (.one 3 (.one 6 (.one 9 (.one 7 (.one 10 (.one 11 (.one 12 (.one 13 (.one 14 (.done))))))))))))))))],[],false,true⟩
noncomputable def fi16:FI:=⟨codeOf Tryz.f16,[.tmp 4],.inout,[],[],[],false,true⟩
noncomputable def fi17:FI:=⟨codeOf Tryz.f17,[.tmp 2],.inout,[([0,1,0,0,1,0,0,1,0,1,1,1,1],[0,3,4,5,25,26,27]),([0,1,0,1,1,1,1],[0,3,4,5])],[],[],false,true⟩
noncomputable def fi19:FI:=⟨codeOf Tryz.f19,[.cell 2 26],.pure,[],[],[],false,false⟩
noncomputable def fi20:FI:=⟨codeOf Tryz.f20,[.tmp 2],.inout,[],[],[],false,true⟩
noncomputable def fi21:FI:=⟨codeOf Tryz.f21,[.tmp 4],.inout,[],[],[],false,true⟩
noncomputable def fi24:FI:=⟨codeOf Tryz.f24,[.cell 6 42,.tmp 7],.inout,[],[],[],false,true⟩
noncomputable def fi27:FI:=⟨codeOf Tryz.f27,[.tmp 4],.inout,[],[(1,.one 0 (.one 1 (.one 2 (.one 3 (.one 4 (.one 5 (.one 6 (.one 7 (.one 8 (.one 9 (.one 10 (.one 11 (.one 12 (.one 13 (.one 15 (.one 14 (.one 16 (.one 17 (.one 18 (.one 19 (.one 20 (.one 21 (.one 22 (.one 23 (.one 24 (.one 25 (.one 26 (.done))))))))))))))))))))))))))))],[],false,true⟩
noncomputable def fi29:FI:=⟨codeOf Tryz.f29,[.tmp 4],.inout,[([0,1,0,1,1,0,1,1],[0,1,5,6])],[(12,.one 0 (.one 1 (.one 2 (.one 4 (.one 5 (.one 6 (.one 7 (.one 8 (.one 10 (.one 11 (.alt 3 (.two 9 (.one 12 (.one 13 (.one 14 (.one 15 (.one 16 (.one 17 (.one 18 (.one 19 (.one 20 (.done)))))))))) 12 (.one 13 (.one 9 (.one 14 (.one 15 (.one 16 (.one 17 (.one 18 (.one 19 (.one 20 (.done))))))))))) (.alt 9 (.two 3 (.one 12 (.one 13 (.one 14 (.one 15 (.one 16 (.one 17 (.one 18 (.one 19 (.one 20 (.done)))))))))) 12 (.one 13 (.one 14 (.one 3 (.one 15 (.one 16 (.one 17 (.one 18 (.one 19 (.one 20 (.done))))))))))) (.one 12 (.one 13 (.one 3 (.one 9 (.one 14 (.one 15 (.one 16 (.one 17 (.one 18 (.one 19 (.one 20 (.done))))))))))))))))))))))))],[],false,true⟩
noncomputable def fi30:FI:=⟨codeOf Tryz.f30,[.tmp 2],.inout,[],[],[],false,true⟩
noncomputable def fi31:FI:=⟨codeOf Tryz.f31,[.tmp 2],.inout,[],[],[],false,false⟩
noncomputable def fi33:FI:=⟨codeOf Tryz.f33,[.tmp 4],.inout,[],[],[],false,true⟩
noncomputable def fi35:FI:=⟨codeOf Tryz.f35,[.tmp 4],.inout,[([0,1,0,1,1,1],[0,1,5,24,25,26])],[],[([0,1,0,1,1,1],[5])],false,true⟩
noncomputable def fi36:FI:=⟨codeOf Tryz.f36,[.tmp 2],.fresh,[([0,1,0,1,1,1],[3,42])],[(8,.one 0 (.one 1 (.one 2 (.one 5 (.one 6 (.one 7 (.one 3 (.one 8 (.one 4 (.one 9 (.one 10 (.one 11 (.one 12 (.one 13 (.done)))))))))))))))],[],true,true⟩
noncomputable def fi37:FI:=⟨codeOf Tryz.f37,[.tmp 4],.inout,[],[],[],false,true⟩
noncomputable def fi49:FI:=⟨codeOf Tryz.f49,[.cell 2 96,.tmp 3],.pure,[],[],[],false,false⟩
noncomputable def fi50:FI:=⟨codeOf Tryz.f50,[.tmp 2],.fresh,[],[],[],true,true⟩
noncomputable def fi51:FI:=⟨codeOf Tryz.f51,[.tmp 2],.fresh,[([0,1,0,1,1],[3,17,18])],[],[],true,true⟩
noncomputable def fi52:FI:=⟨codeOf Tryz.f52,[.tmp 2],.pure,[],[],[],false,false⟩
noncomputable def fi54:FI:=⟨codeOf Tryz.f54,[.tmp 2],.pure,[],[],[],false,false⟩
noncomputable def fi55:FI:=⟨codeOf Tryz.f55,[.tmp 2],.pure,[],[],[],false,false⟩
noncomputable def fi56:FI:=⟨codeOf Tryz.f56,[.tmp 4,.tmp 5],.pure,[],[(3,.one 0 (.one 1 (.one 5 (.one 6 (.one 2 (.one 3 (.one 4 (.one 10 (.one 7 (.one 8 (.one 9 (.one 11 (.done)))))))))))))],[],false,false⟩
noncomputable def fi57:FI:=⟨codeOf Tryz.f57,[.tmp 4],.inout,[],[],[],false,true⟩
noncomputable def fi58:FI:=⟨codeOf Tryz.f58,[.tmp 6],.pure,[([0,1,0,1,1],[1,3,5,6,16,17,18])],[(8,.one 0 (.one 1 (.one 2 (.one 3 (.one 5 (.one 7 (.one 8 (.one 4 (.one 6 (.one 9 (.one 10 (.one 11 (.one 12 (.one 13 (.one 14 (.one 16 (.one 18 (.one 19 (.one 15 (.one 17 (.one 20 (.one 21 (.one 22 (.one 23 (.one 24 (.one 26 (.one 28 (.one 29 (.one 25 (.one 27 (.one 30 (.one 31 (.one 32 (.one 33 (.one 34 (.one 35 (.done)))))))))))))))))))))))))))))))))))))],[],false,false⟩
noncomputable def fi59:FI:=⟨codeOf Tryz.f59,[.cell 2 42],.pure,[],[],[],false,false⟩
noncomputable def fi60:FI:=⟨codeOf Tryz.f60,[.tmp 2],.fresh,[],[],[],true,false⟩
noncomputable def fi61:FI:=⟨codeOf Tryz.f61,[],.inout,[],[],[],false,true⟩
noncomputable def fi62:FI:=⟨codeOf Tryz.f62,[.tmp 2],.inout,[],[],[],false,true⟩
noncomputable def fi63:FI:=⟨codeOf Tryz.f63,[.tmp 8],.inout,[],[(2,.one 0 (.one 1 (.one 2 (.one 3 (.one 5 (.one 7 (.one 9 (.one 4 (.one 6 (.one 8 (.one 10 (.one 11 (.one 12 (.one 13 (.one 14 (.one 15 (.done))))))))))))))))),(6,.one 0 (.one 1 (.one 2 (.one 4 (.one 8 (.one 9 (.one 3 (.one 5 (.one 6 (.one 7 (.one 10 (.done)))))))))))),(8,.one 0 (.one 1 (.one 2 (.one 3 (.one 4 (.one 8 (.one 9 (.one 10 (.one 12 (.one 5 (.alt 6 (.alt 7 (.one 11 (.one 13 (.one 14 (.one 15 (.one 16 (.one 17 (.one 18 (.one 19 (.one 20 (.done)))))))))) (.alt 11 (.two 7 (.one 13 (.one 14 (.one 15 (.one 16 (.one 17 (.one 18 (.one 19 (.one 20 (.done))))))))) 13 (.one 7 (.one 14 (.one 15 (.one 16 (.one 17 (.one 18 (.one 19 (.one 20 (.done)))))))))) (.one 13 (.two 7 (.one 11 (.one 14 (.one 15 (.one 16 (.one 17 (.one 18 (.one 19 (.one 20 (.done))))))))) 11 (.one 7 (.one 14 (.one 15 (.one 16 (.one 17 (.one 18 (.one 19 (.one 20 (.done))))))))))))) (.alt 11 (.two 6 (.two 7 (.one 13 (.one 14 (.one 15 (.one 16 (.one 17 (.one 18 (.one 19 (.one 20 (.done))))))))) 13 (.one 7 (.one 14 (.one 15 (.one 16 (.one 17 (.one 18 (.one 19 (.one 20 (.done)))))))))) 13 (.one 6 (.one 7 (.one 14 (.one 15 (.one 16 (.one 17 (.one 18 (.one 19 (.one 20 (.done))))))))))) (.one 13 (.two 6 (.two 7 (.one 11 (.one 14 (.one 15 (.one 16 (.one 17 (.one 18 (.one 19 (.one 20 (.done))))))))) 11 (.one 7 (.one 14 (.one 15 (.one 16 (.one 17 (.one 18 (.one 19 (.one 20 (.done)))))))))) 11 (.one 6 (.one 7 (.one 14 (.one 15 (.one 16 (.one 17 (.one 18 (.one 19 (.one 20 (.done)))))))))))))))))))))))),(9,.one 1 (.one 3 (.one 0 (.one 2 (.one 4 (.one 5 (.one 6 (.done)))))))),(10,.one 0 (.one 1 (.one 2 (.one 3 (.one 4 (.one 6 (.one 8 (.one 9 (.one 5 (.one 7 (.one 10 (.one 11 (.one 12 (.one 13 (.one 14 (.one 15 (.one 16 (.one 17 (.one 18 (.one 19 (.one 20 (.done))))))))))))))))))))))],[],false,true⟩
noncomputable def fi64:FI:=⟨codeOf Tryz.f64,[],.inout,[([0,1,0,1],[0,1,4,19,20,21]),([0,1,0,1,1],[0,1,90,91,92]),([0,1,0,1,1,0,0,1,1,0,0,1,0,1,1,1,0,0,1,1,0,0,1,0,1],[0,1,4,6,7,8,9,10,19,20,21,43,44,52,53,54]),([0,1,0,1,1,1,0,0,1,1,0,0,1,0,1],[0,1,4,6,7,8,19,20,21,43,44]),([0,1,1,1,0,0,1,1,0,0,1,1,1,1],[0,17,18,146,147,148]),([0,1,1,1,1],[0,146,147,148])],[(5,.one 0 (.one 1 (.one 3 (.one 4 (.one 5 (.alt 2 (.one 6 (.one 7 (.one 8 (.one 9 (.done))))) (.alt 6 (.two 2 (.one 7 (.one 8 (.one 9 (.done)))) 8 (.one 2 (.one 7 (.one 9 (.done))))) (.one 8 (.two 2 (.one 6 (.one 7 (.one 9 (.done)))) 6 (.one 2 (.one 7 (.one 9 (.done))))))))))))),(13,.one 0 (.one 1 (.one 2 (.one 3 (.one 5 (.one 6 (.one 8 (.two 4 (.one 7 (.one 9 (.one 10 (.one 11 (.one 12 (.one 13 (.one 14 (.done)))))))) 7 (.one 9 (.one 10 (.one 4 (.one 11 (.one 12 (.one 13 (.one 14 (.done)))))))))))))))),(22,.one 0 (.one 1 (.one 2 (.one 4 (.one 5 (.one 6 (.one 3 (.one 7 (.one 8 (.one 9 (.done))))))))))),(24,.one 0 (.one 1 (.one 2 (.one 4 (.two 3 (.one 5 (.one 6 (.done))) 5 (.one 3 (.one 6 (.done)))))))),(25,.one 0 (.one 1 (.one 2 (.one 3 (.one 4 (.one 6 (.one 7 (.one 8 (.one 9 (.one 5 (.one 10 (.one 11 (.one 12 (.one 13 (.one 14 (.one 15 (.done))))))))))))))))),(32,.one 0 (.one 1 (.one 2 (.one 4 (.two 3 (.one 5 (.one 6 (.one 7 (.one 8 (.one 9 (.one 10 (.one 11 (.one 12 (.one 13 (.one 14 (.one 15 (.one 16 (.done))))))))))))) 5 (.one 3 (.one 6 (.one 7 (.one 8 (.one 9 (.one 10 (.one 11 (.one 12 (.one 13 (.one 14 (.one 15 (.one 16 (.done))))))))))))))))))],[([0,1,0,1],[4]),([0,1,0,1,1,0,0,1,1,0,0,1,0,1,1,1,0,0,1,1,0,0,1,0,1],[10])],false,true⟩
noncomputable def fi65:FI:=⟨codeOf Tryz.f65,[.tmp 4],.inout,[],[],[],false,true⟩
noncomputable def fi67:FI:=⟨codeOf Tryz.f67,[.tmp 4],.inout,[],[],[],false,true⟩
noncomputable def fi69:FI:=⟨codeOf Tryz.f69,[.cell 4 42],.inout,[],[(3,.one 0 (.one 1 (.one 2 (.one 4 (.one 5 (.two 3 (.one 6 (.one 7 (.one 8 (.one 9 (.one 10 (.one 11 (.one 12 (.one 13 (.one 14 (.done)))))))))) 6 (.one 7 (.one 8 (.one 3 (.one 9 (.one 10 (.one 11 (.one 12 (.one 13 (.one 14 (.done))))))))))))))))],[],false,true⟩
noncomputable def fi71:FI:=⟨codeOf Tryz.f71,[.tmp 4],.inout,[],[],[],false,false⟩
noncomputable def fi72:FI:=⟨codeOf Tryz.f72,[.tmp 3],.inout,[],[(1,.one 0 (.one 1 (.one 2 (.one 3 (.one 4 (.one 5 (.one 6 (.one 7 (.done)))))))))],[],false,true⟩
noncomputable def fi73:FI:=⟨codeOf Tryz.f73,[.tmp 4],.pure,[],[(1,.one 1 (.one 4 (.one 0 (.one 2 (.one 5 (.one 3 (.one 6 (.one 7 (.one 8 (.one 9 (.one 10 (.one 11 (.one 12 (.one 13 (.one 14 (.one 15 (.one 16 (.one 17 (.done))))))))))))))))))),(5,.one 1 (.one 0 (.one 2 (.one 3 (.one 4 (.one 6 (.one 7 (.one 9 (.one 10 (.one 13 (.one 5 (.one 8 (.one 11 (.one 14 (.one 12 (.one 15 (.one 16 (.one 17 (.one 18 (.one 19 (.one 20 (.one 21 (.one 22 (.one 23 (.one 24 (.one 25 (.one 26 (.one 27 (.one 28 (.one 30 (.one 29 (.one 31 (.one 32 (.one 33 (.one 34 (.done))))))))))))))))))))))))))))))))))))],[],false,false⟩
noncomputable def fi74:FI:=⟨codeOf Tryz.f74,[.tmp 4],.inout,[],[(1,.one 0 (.one 1 (.one 2 (.one 3 (.one 4 (.one 5 (.one 6 (.one 7 (.one 8 (.one 9 (.one 10 (.one 11 (.one 12 (.one 13 (.one 14 (.one 15 (.one 16 (.one 17 (.one 18 (.one 19 (.one 20 (.one 21 (.one 22 (.one 24 (.one 23 (.one 25 (.one 26 (.done)))))))))))))))))))))))))))),(3,.one 0 (.one 1 (.one 2 (.one 3 (.one 5 (.one 9 (.one 4 (.one 6 (.one 7 (.one 8 (.one 10 (.one 11 (.one 12 (.one 13 (.one 14 (.one 15 (.one 16 (.done)))))))))))))))))),(6,.one 0 (.one 1 (.one 2 (.one 3 (.one 5 (.one 9 (.one 11 (.one 4 (.one 6 (.one 7 (.one 8 (.one 10 (.one 12 (.one 13 (.one 14 (.done))))))))))))))))],[],false,true⟩
noncomputable def fi78:FI:=⟨codeOf Tryz.f78,[.tmp 2],.inout,[],[],[],false,false⟩
noncomputable def fi80:FI:=⟨codeOf Tryz.f80,[.tmp 4],.pure,[([0,1,0,0,1,0,0,1,0,1,1,1],[1,2,5,6,7]),([0,1,0,1,1,1],[1,2,5,6])],[(5,.one 0 (.one 1 (.one 2 (.one 3 (.one 7 (.one 8 (.one 4 (.one 5 (.one 6 (.one 9 (.one 10 (.one 11 (.one 12 (.done)))))))))))))),(8,.one 0 (.one 1 (.one 2 (.one 3 (.one 7 (.one 8 (.one 4 (.one 5 (.one 6 (.one 9 (.one 10 (.one 11 (.one 12 (.done))))))))))))))],[([0,1,0,0,1,0,0,1,0,1,1,1],[5]),([0,1,0,1,1,1],[5])],false,false⟩
noncomputable def fi81:FI:=⟨codeOf Tryz.f81,[.tmp 6],.inout,[([0,1,1,1,1],[0,1,6,7])],[],[],false,true⟩
noncomputable def fi82:FI:=⟨codeOf Tryz.f82,[.tmp 2],.fresh,[([0,1,0,1,1,1],[3,21,22])],[(7,.one 0 (.one 1 (.one 2 (.one 3 (.one 5 (.one 6 (.one 7 (.one 8 (.one 9 (.one 11 (.one 10 (.one 12 (.one 13 (.one 14 (.two 4 (.one 15 (.one 16 (.one 17 (.one 18 (.done))))) 15 (.one 4 (.one 16 (.one 17 (.one 18 (.done))))))))))))))))))))],[],true,true⟩
noncomputable def fi83:FI:=⟨codeOf Tryz.f83,[.tmp 2],.fresh,[([0,1,0,1,1,1],[3,14,15,16])],[(7,.one 0 (.one 1 (.one 2 (.one 3 (.one 4 (.one 6 (.one 5 (.one 7 (.one 8 (.one 9 (.one 10 (.one 11 (.one 12 (.one 13 (.done)))))))))))))))],[],true,true⟩
noncomputable def fi84:FI:=⟨codeOf Tryz.f84,[.tmp 2],.fresh,[],[],[],true,false⟩
noncomputable def fi85:FI:=⟨codeOf Tryz.f85,[.tmp 2],.fresh,[],[],[],true,false⟩
noncomputable def fi90:FI:=⟨codeOf Tryz.f90,[.tmp 4],.pure,[],[],[],false,false⟩
noncomputable def fi111:FI:=⟨codeOf Tryz.f111,[.tmp 2],.pure,[],[],[],false,false⟩
noncomputable def fi112:FI:=⟨codeOf Tryz.f112,[.tmp 2,.tmp 3],.pure,[],[(3,.one 0 (.one 1 (.one 3 (.one 4 (.one 2 (.one 6 (.one 5 (.one 7 (.done)))))))))],[],false,false⟩
noncomputable def fi113:FI:=⟨codeOf Tryz.f113,[.tmp 6],.pure,[],[],[],false,false⟩
noncomputable def fi114:FI:=⟨codeOf Tryz.f114,[.tmp 4],.pure,[],[],[],false,false⟩
noncomputable def fi115:FI:=⟨codeOf Tryz.f115,[.tmp 2],.fresh,[],[],[],true,false⟩
noncomputable def fi116:FI:=⟨codeOf Tryz.f116,[.tmp 8],.inout,[([0,1,0,1,1,1],[0,1,3,9,26,27,28])],[],[([0,1,0,1,1,1],[9])],false,true⟩
noncomputable def fi117:FI:=⟨codeOf Tryz.f117,[.tmp 6,.tmp 7],.inout,[([0,1,0,1,1],[0,2,8,9,21,22,23])],[],[],false,true⟩
noncomputable def fi118:FI:=⟨codeOf Tryz.f118,[.tmp 8],.pure,[([0,1,0,1,1],[9,16,17,18])],[],[([0,1,0,1,1],[9])],false,false⟩
noncomputable def fi119:FI:=⟨codeOf Tryz.f119,[.tmp 8],.inout,[],[(1,.one 0 (.one 1 (.one 2 (.one 3 (.one 4 (.one 5 (.one 6 (.one 8 (.one 7 (.one 9 (.one 10 (.one 11 (.one 12 (.one 13 (.one 14 (.one 15 (.one 16 (.one 18 (.one 17 (.one 19 (.one 20 (.one 21 (.one 22 (.one 23 (.one 24 (.one 25 (.one 27 (.one 26 (.one 28 (.one 29 (.one 30 (.one 31 (.one 32 (.one 33 (.one 35 (.one 34 (.one 36 (.one 37 (.one 38 (.done))))))))))))))))))))))))))))))))))))))))],[],false,false⟩
noncomputable def fi120:FI:=⟨codeOf Tryz.f120,[.cell 10 42,.tmp 11,.tmp 12],.pure,[],[(4,.one 1 (.one 2 (.one 5 (.one 7 (.one 0 (.one 3 (.one 4 (.one 6 (.one 8 (.one 9 (.one 10 (.one 11 (.done))))))))))))),(11,.one 0 (.one 3 (.one 4 (.one 5 (.one 8 (.one 9 (.one 10 (.one 1 (.one 2 (.one 6 (.one 7 (.one 11 (.one 12 (.one 13 (.one 14 (.one 15 (.one 16 (.done))))))))))))))))))],[],false,false⟩
noncomputable def fi121:FI:=⟨codeOf Tryz.f121,[.tmp 6],.inout,[],[],[],false,true⟩
noncomputable def fi122:FI:=⟨codeOf Tryz.f122,[.tmp 4],.pure,[([0,1,0,0,1,1,0,0,1,1,0,1,0,0,1,0,1,1,1],[5,9,11,67,68,69]),([0,1,0,1,1],[2,5,18,19,20]),([0,1,0,1,1,1],[5,9]),([0,1,0,1,1,1,1,1],[12,91,92,93]),([0,1,1,0,1,0,0,1,0,1,1,1],[5,9,67,68,69])],[(7,.one 0 (.one 1 (.one 2 (.one 3 (.one 4 (.one 5 (.one 7 (.one 8 (.one 9 (.one 10 (.one 6 (.one 11 (.one 12 (.one 13 (.one 14 (.done)))))))))))))))),(8,.one 0 (.one 1 (.one 2 (.one 4 (.one 5 (.one 6 (.one 7 (.one 9 (.one 3 (.one 8 (.one 10 (.done))))))))))))],[([0,1,0,1,1,1,1,1],[12])],false,false⟩
noncomputable def fi123:FI:=⟨codeOf Tryz.f123,[.tmp 6],.inout,[([0,1,0,1],[0,2,6,15,16,17])],[],[],false,true⟩
noncomputable def fi124:FI:=⟨codeOf Tryz.f124,[.tmp 4],.inout,[],[],[],false,true⟩
noncomputable def fi125:FI:=⟨codeOf Tryz.f125,[.tmp 2],.pure,[],[],[],false,false⟩
noncomputable def fi126:FI:=⟨codeOf Tryz.f126,[.tmp 2],.inout,[],[],[],true,false⟩
noncomputable def fi127:FI:=⟨codeOf Tryz.f127,[.tmp 4],.inout,[],[],[],false,true⟩
noncomputable def fi148:FI:=⟨codeOf Tryz.f148,[.tmp 4],.inout,[([0,1,0,1],[0,1,4,7,8])],[],[],false,false⟩
noncomputable def fi149:FI:=⟨codeOf Tryz.f149,[.tmp 4],.pure,[],[],[],false,false⟩
noncomputable def fi150:FI:=⟨codeOf Tryz.f150,[.tmp 4],.pure,[],[],[],false,false⟩
noncomputable def fi151:FI:=⟨codeOf Tryz.f151,[.tmp 6],.pure,[],[(4,.one 0 (.one 5 (.one 1 (.one 6 (.one 2 (.one 3 (.one 4 (.one 7 (.one 8 (.one 9 (.one 10 (.one 11 (.done)))))))))))))],[],false,false⟩
noncomputable def fi152:FI:=⟨codeOf Tryz.f152,[.tmp 6],.pure,[],[],[],false,false⟩
noncomputable def fi153:FI:=⟨codeOf Tryz.f153,[.tmp 4],.inout,[],[],[],false,false⟩
noncomputable def fi154:FI:=⟨codeOf Tryz.f154,[.tmp 3],.pure,[],[],[],false,true⟩
noncomputable def fi157:FI:=⟨codeOf Tryz.f157,[],.inout,[([0,1],[0,5])],[],[],false,false⟩
noncomputable def fi160:FI:=⟨codeOf Tryz.f160,[.tmp 4],.pure,[],[],[],false,false⟩
noncomputable def fi161:FI:=⟨codeOf Tryz.f161,[.tmp 2],.fresh,[],[],[],true,false⟩
noncomputable def fi162:FI:=⟨codeOf Tryz.f162,[.tmp 2],.pure,[],[],[],false,false⟩
noncomputable def fi179:FI:=⟨codeOf Tryz.f179,[.tmp 4],.inout,[],[(1,.one 0 (.one 1 (.one 2 (.one 3 (.one 4 (.one 5 (.one 6 (.one 9 (.one 10 (.one 11 (.two 7 (.one 8 (.one 12 (.one 13 (.one 14 (.one 15 (.one 16 (.done))))))) 12 (.one 13 (.one 7 (.one 8 (.one 14 (.one 15 (.one 16 (.done))))))))))))))))))],[],false,true⟩
noncomputable def fi180:FI:=⟨codeOf Tryz.f180,[.tmp 6],.pure,[],[],[],false,false⟩
noncomputable def fi181:FI:=⟨codeOf Tryz.f181,[.tmp 4],.pure,[],[],[],false,false⟩
noncomputable def fi182:FI:=⟨codeOf Tryz.f182,[.tmp 2],.pure,[([0,1,0,1],[0,2,5,6])],[(4,.one 0 (.one 1 (.one 2 (.one 3 (.one 4 (.one 5 (.one 6 (.one 8 (.one 9 (.one 10 (.one 11 (.one 12 (.one 7 (.one 13 (.one 14 (.one 15 (.done)))))))))))))))))],[],false,false⟩
noncomputable def fi183:FI:=⟨codeOf Tryz.f183,[.tmp 2],.pure,[([0,1,0,1,1],[3,6,7,8])],[],[],false,false⟩
noncomputable def fi184:FI:=⟨codeOf Tryz.f184,[.tmp 4],.pure,[],[],[],false,false⟩
noncomputable def fi185:FI:=⟨codeOf Tryz.f185,[.tmp 4],.pure,[],[(1,.one 0 (.one 1 (.one 2 (.one 3 (.one 4 (.one 6 (.one 8 (.one 5 (.one 7 (.one 9 (.one 11 (.one 10 (.one 12 (.one 13 (.one 14 (.done))))))))))))))))],[],false,false⟩
noncomputable def fi186:FI:=⟨codeOf Tryz.f186,[.tmp 4],.pure,[],[(1,.one 0 (.one 2 (.one 5 (.one 7 (.one 1 (.one 3 (.one 6 (.one 8 (.one 4 (.one 9 (.one 10 (.one 11 (.one 12 (.done)))))))))))))),(6,.one 0 (.one 2 (.one 5 (.one 7 (.one 1 (.one 3 (.one 6 (.one 8 (.one 4 (.one 9 (.one 10 (.one 11 (.one 12 (.done))))))))))))))],[],false,false⟩
noncomputable def fi187:FI:=⟨codeOf Tryz.f187,[.tmp 4],.fresh,[],[],[],true,false⟩
noncomputable def fi188:FI:=⟨codeOf Tryz.f188,[.tmp 6],.inout,[],[(6,.one 0 (.one 1 (.one 2 (.one 4 (.one 5 (.two 3 (.one 6 (.one 7 (.one 8 (.one 9 (.one 10 (.one 11 (.one 12 (.one 13 (.done))))))))) 6 (.one 7 (.one 3 (.one 8 (.one 9 (.one 10 (.one 11 (.one 12 (.one 13 (.done)))))))))))))))],[],false,true⟩
noncomputable def fi189:FI:=⟨codeOf Tryz.f189,[.cell 6 23,.tmp 7],.inout,[],[(10,.one 0 (.one 1 (.one 2 (.one 4 (.one 5 (.one 6 (.one 3 (.one 7 (.one 8 (.one 9 (.one 10 (.one 11 (.one 12 (.one 13 (.one 14 (.done))))))))))))))))],[],false,true⟩
noncomputable def fi190:FI:=⟨codeOf Tryz.f190,[.tmp 8],.fresh,[([0,1,0,1,1],[9,15,16,17])],[],[([0,1,0,1,1],[9])],true,false⟩
noncomputable def fi191:FI:=⟨codeOf Tryz.f191,[.tmp 4],.pure,[([0,1,0,1,1],[0,1,4,12,13])],[(6,.one 0 (.one 1 (.one 2 (.one 4 (.one 5 (.one 6 (.one 3 (.one 7 (.one 8 (.done))))))))))],[],false,false⟩
noncomputable def fi192:FI:=⟨codeOf Tryz.f192,[.tmp 4],.pure,[([0,1,0,1,1],[0,1,4,12,13])],[(6,.one 0 (.one 1 (.one 2 (.one 4 (.one 5 (.one 6 (.one 3 (.one 7 (.one 8 (.done))))))))))],[],false,false⟩
noncomputable def fi193:FI:=⟨codeOf Tryz.f193,[.tmp 4],.pure,[([0,1,0,1,1],[0,1,4,12,13])],[(6,.one 0 (.one 1 (.one 2 (.one 4 (.one 5 (.one 6 (.one 3 (.one 7 (.one 8 (.done))))))))))],[],false,false⟩
noncomputable def fi194:FI:=⟨codeOf Tryz.f194,[.tmp 10],.pure,[],[],[],false,false⟩
noncomputable def fi195:FI:=⟨codeOf Tryz.f195,[],.inout,[([0,1],[0,1,12,13,14])],[(7,.one 0 (.one 1 (.one 2 (.one 3 (.one 7 (.alt 4 (.alt 5 (.two 6 (.one 8 (.one 9 (.one 10 (.one 11 (.one 12 (.one 13 (.one 14 (.done)))))))) 8 (.one 6 (.one 9 (.one 10 (.one 11 (.one 12 (.one 13 (.one 14 (.done))))))))) (.alt 6 (.two 5 (.one 8 (.one 9 (.one 10 (.one 11 (.one 12 (.one 13 (.one 14 (.done)))))))) 8 (.one 5 (.one 9 (.one 10 (.one 11 (.one 12 (.one 13 (.one 14 (.done))))))))) (.one 8 (.one 5 (.one 6 (.one 9 (.one 10 (.one 11 (.one 12 (.one 13 (.one 14 (.done)))))))))))) (.alt 5 (.alt 4 (.two 6 (.one 8 (.one 9 (.one 10 (.one 11 (.one 12 (.one 13 (.one 14 (.done)))))))) 8 (.one 6 (.one 9 (.one 10 (.one 11 (.one 12 (.one 13 (.one 14 (.done))))))))) (.alt 6 (.two 4 (.one 8 (.one 9 (.one 10 (.one 11 (.one 12 (.one 13 (.one 14 (.done)))))))) 8 (.one 4 (.one 9 (.one 10 (.one 11 (.one 12 (.one 13 (.one 14 (.done))))))))) (.one 8 (.one 4 (.one 6 (.one 9 (.one 10 (.one 11 (.one 12 (.one 13 (.one 14 (.done)))))))))))) (.alt 6 (.alt 4 (.two 5 (.one 8 (.one 9 (.one 10 (.one 11 (.one 12 (.one 13 (.one 14 (.done)))))))) 8 (.one 5 (.one 9 (.one 10 (.one 11 (.one 12 (.one 13 (.one 14 (.done))))))))) (.alt 5 (.two 4 (.one 8 (.one 9 (.one 10 (.one 11 (.one 12 (.one 13 (.one 14 (.done)))))))) 8 (.one 4 (.one 9 (.one 10 (.one 11 (.one 12 (.one 13 (.one 14 (.done))))))))) (.one 8 (.one 4 (.one 5 (.one 9 (.one 10 (.one 11 (.one 12 (.one 13 (.one 14 (.done)))))))))))) (.one 8 (.one 4 (.one 5 (.one 6 (.one 9 (.one 10 (.one 11 (.one 12 (.one 13 (.one 14 (.done))))))))))))))))))),(10,.one 0 (.one 1 (.one 2 (.one 4 (.one 5 (.one 6 (.one 8 (.one 3 (.one 7 (.one 9 (.one 11 (.one 10 (.one 12 (.one 13 (.done)))))))))))))))],[],false,false⟩
noncomputable def fi196:FI:=⟨codeOf Tryz.f196,[],.inout,[([0,1,0,1],[0,2,10,11,12])],[(4,.one 0 (.one 1 (.one 2 (.one 3 (.one 4 (.two 5 (.one 6 (.one 7 (.one 8 (.one 9 (.one 10 (.one 11 (.done))))))) 9 (.one 5 (.one 6 (.one 7 (.one 8 (.one 10 (.one 11 (.done)))))))))))))],[([0,1,0,1],[2])],false,false⟩
noncomputable def fi197:FI:=⟨codeOf Tryz.f197,[.tmp 4],.fresh,[([0,1,0,1,1],[5,12,13,14]),([0,1,1,0,0,1,1,0,0,1,0,1,1],[5,7,12,13,14,19,20])],[(9,.one 0 (.one 1 (.one 2 (.one 3 (.one 4 (.one 5 (.one 6 (.one 7 (.one 8 (.one 9 (.one 10 (.one 11 (.one 12 (.one 14 (.one 16 (.one 13 (.one 15 (.one 17 (.one 18 (.one 19 (.done)))))))))))))))))))))],[],true,false⟩
noncomputable def fi198:FI:=⟨codeOf Tryz.f198,[.tmp 2],.fresh,[],[],[],true,false⟩
noncomputable def fi199:FI:=⟨codeOf Tryz.f199,[.tmp 2],.fresh,[],[],[],true,false⟩
noncomputable def fi200:FI:=⟨codeOf Tryz.f200,[],.inout,[([0,1],[0,11,12,13]),([0,1,0,1,1,0,0,1,1,0,0,1],[0,3,4,11,12,13,36,37,38])],[(3,.one 0 (.one 1 (.one 2 (.one 4 (.one 5 (.one 6 (.one 8 (.one 3 (.one 7 (.one 9 (.one 10 (.one 11 (.done))))))))))))),(4,.one 0 (.one 1 (.one 2 (.one 4 (.one 5 (.one 6 (.one 10 (.one 3 (.one 7 (.one 8 (.one 9 (.done)))))))))))),(7,.one 0 (.one 1 (.one 2 (.one 3 (.one 4 (.one 6 (.one 7 (.one 8 (.one 5 (.one 9 (.one 10 (.one 11 (.done)))))))))))))],[],false,false⟩
noncomputable def fi201:FI:=⟨codeOf Tryz.f201,[],.inout,[([0,1,0,1],[0,2,10,11,12])],[(7,.one 0 (.one 1 (.one 2 (.one 3 (.one 4 (.one 6 (.one 7 (.one 8 (.one 10 (.one 11 (.one 12 (.one 5 (.one 9 (.one 13 (.one 14 (.one 15 (.one 16 (.one 17 (.one 18 (.one 19 (.one 20 (.one 21 (.one 22 (.one 23 (.one 24 (.one 25 (.done))))))))))))))))))))))))))),(9,.one 0 (.one 1 (.one 2 (.one 3 (.one 5 (.one 7 (.one 8 (.two 4 (.one 6 (.one 9 (.one 10 (.one 11 (.one 12 (.one 13 (.one 14 (.done)))))))) 6 (.one 9 (.one 4 (.one 10 (.one 11 (.one 12 (.one 13 (.one 14 (.done))))))))))))))))],[],false,false⟩
noncomputable def fi202:FI:=⟨codeOf Tryz.f202,[],.inout,[([0,1,0,1],[0,2,9,10,11])],[(4,.one 0 (.one 1 (.one 2 (.one 4 (.one 6 (.one 3 (.one 5 (.one 7 (.one 8 (.one 9 (.done)))))))))))],[([0,1,0,1],[2])],false,false⟩
noncomputable def fi203:FI:=⟨codeOf Tryz.f203,[.tmp 2],.fresh,[],[],[],true,false⟩
noncomputable def fi204:FI:=⟨codeOf Tryz.f204,[.tmp 4],.fresh,[([0,1,0,1,1,1],[3,4,5,26,27,28])],[],[],true,false⟩
noncomputable def fi205:FI:=⟨codeOf Tryz.f205,[.tmp 4],.inout,[([0,1,0,1,1,1],[0,1,4,5,38,39,40])],[(1,.one 0 (.one 1 (.one 2 (.one 4 (.one 5 (.one 6 (.one 7 (.one 3 (.one 8 (.one 9 (.one 10 (.done))))))))))))],[],false,false⟩
noncomputable def fi206:FI:=⟨codeOf Tryz.f206,[.tmp 4],.inout,[],[],[],false,false⟩
noncomputable def fi214:FI:=⟨codeOf Tryz.f214,[.tmp 4],.pure,[([0,1,0,1],[0,1,4,7,8])],[],[],false,false⟩
noncomputable def fi215:FI:=⟨codeOf Tryz.f215,[.tmp 6],.pure,[],[],[],false,false⟩
noncomputable def fi216:FI:=⟨codeOf Tryz.f216,[.tmp 2],.pure,[],[],[],false,false⟩
noncomputable def fi217:FI:=⟨codeOf Tryz.f217,[.tmp 6],.pure,[],[],[],false,false⟩
noncomputable def fi218:FI:=⟨codeOf Tryz.f218,[.tmp 2],.pure,[],[],[],false,false⟩
noncomputable def fi219:FI:=⟨codeOf Tryz.f219,[.tmp 2],.pure,[],[],[],false,false⟩
noncomputable def fi229:FI:=⟨codeOf Tryz.f229,[.tmp 4],.pure,[([0,1,0,1],[0,1,4,7,8])],[],[],false,false⟩
noncomputable def fi230:FI:=⟨codeOf Tryz.f230,[.tmp 2],.pure,[([0,1,0,1,1],[2,3,6,7,8])],[],[],false,false⟩
noncomputable def fi231:FI:=⟨codeOf Tryz.f231,[.tmp 4],.pure,[],[],[],false,false⟩
noncomputable def fi232:FI:=⟨codeOf Tryz.f232,[.tmp 4],.inout,[([0,1,0,1,1,1],[0,1,5,6])],[],[],true,false⟩
noncomputable def fi233:FI:=⟨codeOf Tryz.f233,[.tmp 3],.pure,[],[],[],false,false⟩
noncomputable def fi234:FI:=⟨codeOf Tryz.f234,[.tmp 6,.tmp 7],.inout,[],[],[],false,true⟩
noncomputable def fi235:FI:=⟨codeOf Tryz.f235,[.cell 4 23],.pure,[],[],[],false,false⟩
noncomputable def fi236:FI:=⟨codeOf Tryz.f236,[.tmp 4],.fresh,[([0,1,0,1,1],[5,11,12,13])],[],[([0,1,0,1,1],[5])],true,false⟩
noncomputable def fi237:FI:=⟨codeOf Tryz.f237,[.tmp 4],.pure,[],[],[],false,false⟩
noncomputable def fi238:FI:=⟨codeOf Tryz.f238,[.tmp 2],.pure,[],[],[],false,false⟩
noncomputable def fi239:FI:=⟨codeOf Tryz.f239,[.tmp 5],.pure,[],[],[],false,false⟩
noncomputable def fi240:FI:=⟨codeOf Tryz.f240,[.cell 4 79,.tmp 5],.pure,[],[(3,.one 0 (.one 3 (.one 1 (.one 2 (.one 6 (.two 4 (.one 5 (.one 7 (.one 8 (.one 9 (.done))))) 7 (.one 4 (.one 5 (.one 8 (.one 9 (.done)))))))))))],[],false,false⟩
noncomputable def fi241:FI:=⟨codeOf Tryz.f241,[.tmp 2],.pure,[],[],[],false,false⟩
noncomputable def fi242:FI:=⟨codeOf Tryz.f242,[.cell 6 79],.pure,[],[(1,.one 0 (.one 1 (.one 3 (.one 5 (.one 8 (.one 11 (.one 2 (.one 4 (.one 6 (.one 9 (.one 12 (.two 7 (.two 10 (.one 13 (.one 14 (.one 15 (.done)))) 14 (.one 10 (.one 13 (.one 15 (.done))))) 14 (.one 7 (.one 10 (.one 13 (.one 15 (.done)))))))))))))))))],[],false,false⟩
noncomputable def fi243:FI:=⟨codeOf Tryz.f243,[.tmp 2],.inout,[],[(2,.one 0 (.one 1 (.one 2 (.one 4 (.one 5 (.one 6 (.one 10 (.one 11 (.one 12 (.one 17 (.one 18 (.one 19 (.one 3 (.one 7 (.one 13 (.one 20 (.one 8 (.one 9 (.one 14 (.one 15 (.one 16 (.one 21 (.one 22 (.one 23 (.done)))))))))))))))))))))))))],[],false,false⟩
noncomputable def fi244:FI:=⟨codeOf Tryz.f244,[.tmp 4],.pure,[],[],[],false,false⟩
noncomputable def fi245:FI:=⟨codeOf Tryz.f245,[.cell 4 79,.tmp 5],.pure,[],[(3,.one 0 (.one 2 (.one 6 (.one 8 (.one 1 (.one 3 (.one 7 (.one 9 (.two 4 (.two 5 (.one 10 (.one 11 (.one 12 (.one 13 (.done))))) 10 (.one 5 (.one 11 (.one 12 (.one 13 (.done)))))) 10 (.one 4 (.one 5 (.one 11 (.one 12 (.one 13 (.done))))))))))))))),(8,.one 0 (.one 5 (.one 1 (.one 6 (.one 2 (.one 3 (.one 4 (.one 10 (.one 7 (.one 8 (.one 9 (.one 11 (.one 12 (.one 13 (.done)))))))))))))))],[],false,false⟩
noncomputable def fi246:FI:=⟨codeOf Tryz.f246,[.tmp 8],.pure,[],[],[],false,false⟩
noncomputable def fi247:FI:=⟨codeOf Tryz.f247,[.tmp 4],.pure,[],[],[],false,false⟩
noncomputable def fi248:FI:=⟨codeOf Tryz.f248,[.tmp 10],.fresh,[([0,1,0,1,1,1],[1,4,7,8,11,12,24,25,26]),([0,1,0,1,1,1,1,1],[12,16,55,56,57])],[],[([0,1,0,1,1,1,1,1],[16])],true,false⟩
noncomputable def fi249:FI:=⟨codeOf Tryz.f249,[.tmp 4],.pure,[],[],[],false,false⟩
noncomputable def fi250:FI:=⟨codeOf Tryz.f250,[.tmp 2],.pure,[],[],[],false,false⟩
noncomputable def fi251:FI:=⟨codeOf Tryz.f251,[.tmp 2],.pure,[([0,1,0,1,1],[3,6,7,8])],[],[],false,false⟩
noncomputable def fi252:FI:=⟨codeOf Tryz.f252,[.tmp 4],.pure,[],[],[],false,false⟩
noncomputable def fi253:FI:=⟨codeOf Tryz.f253,[.tmp 2],.pure,[],[],[],false,false⟩
noncomputable def fi254:FI:=⟨codeOf Tryz.f254,[.tmp 2],.inout,[([0,1,0,1,1],[3,6,7,8])],[],[([0,1,0,1,1],[3])],false,false⟩
noncomputable def fi255:FI:=⟨codeOf Tryz.f255,[],.inout,[],[(1,.one 0 (.one 1 (.one 2 (.one 4 (.one 5 (.one 6 (.one 3 (.one 8 (.two 7 (.one 9 (.one 10 (.one 11 (.done)))) 9 (.one 7 (.one 10 (.one 11 (.done))))))))))))),(2,.one 0 (.one 1 (.one 2 (.one 3 (.one 4 (.one 5 (.one 6 (.one 7 (.one 8 (.one 9 (.one 10 (.done))))))))))))],[],false,false⟩
noncomputable def fi256:FI:=⟨codeOf Tryz.f256,[.tmp 8,.tmp 9],.pure,[],[(1,.one 0 (.one 1 (.one 2 (.one 4 (.one 5 (.one 6 (.one 3 (.one 7 (.one 8 (.one 9 (.one 10 (.one 11 (.one 12 (.one 13 (.done))))))))))))))),(2,.one 0 (.one 1 (.one 2 (.one 3 (.one 4 (.one 5 (.one 7 (.one 8 (.one 9 (.one 10 (.one 12 (.one 16 (.one 17 (.one 18 (.one 19 (.one 20 (.one 21 (.one 23 (.one 24 (.one 25 (.one 26 (.one 28 (.one 6 (.one 11 (.one 22 (.one 27 (.two 13 (.two 14 (.one 15 (.one 29 (.one 30 (.one 31 (.one 32 (.one 33 (.done))))))) 29 (.one 14 (.one 15 (.one 30 (.one 31 (.one 32 (.one 33 (.done)))))))) 29 (.one 13 (.one 14 (.one 15 (.one 30 (.one 31 (.one 32 (.one 33 (.done)))))))))))))))))))))))))))))))))))],[],false,false⟩
noncomputable def fi257:FI:=⟨codeOf Tryz.f257,[.tmp 6],.pure,[],[],[],false,false⟩
noncomputable def fi258:FI:=⟨codeOf Tryz.f258,[.tmp 2],.fresh,[([0,1,0,1,1],[0,3,9,10,11]),([0,1,0,1,1,1,1],[6,25,26,27])],[],[([0,1,0,1,1,1,1],[6])],true,false⟩
noncomputable def fi259:FI:=⟨codeOf Tryz.f259,[],.inout,[],[],[],false,false⟩
noncomputable def fi260:FI:=⟨codeOf Tryz.f260,[.tmp 6],.inout,[],[],[],false,false⟩
noncomputable def fi276:FI:=⟨codeOf Tryz.f276,[.tmp 2],.pure,[],[],[],false,false⟩
noncomputable def fi277:FI:=⟨codeOf Tryz.f277,[.tmp 3],.pure,[],[],[],false,false⟩
noncomputable def fi278:FI:=⟨codeOf Tryz.f278,[.tmp 6],.inout,[],[(11,.one 0 (.one 1 (.one 2 (.one 3 (.one 4 (.one 5 (.one 6 (.one 7 (.one 8 (.done)))))))))),(15,.one 0 (.one 1 (.one 2 (.one 3 (.one 4 (.one 5 (.one 6 (.one 7 (.one 8 (.done))))))))))],[],true,false⟩
noncomputable def fi279:FI:=⟨codeOf Tryz.f279,[.tmp 4],.pure,[([0,1,0,1],[0,1,4,7,8])],[],[],false,false⟩
noncomputable def fi280:FI:=⟨codeOf Tryz.f280,[.tmp 2],.pure,[],[],[],false,false⟩
noncomputable def fi281:FI:=⟨codeOf Tryz.f281,[.tmp 3],.pure,[],[],[],false,false⟩
noncomputable def fi282:FI:=⟨codeOf Tryz.f282,[.tmp 2],.pure,[],[],[],false,false⟩
noncomputable def fi283:FI:=⟨codeOf Tryz.f283,[.tmp 8],.pure,[],[],[],false,false⟩
noncomputable def fi284:FI:=⟨codeOf Tryz.f284,[.tmp 2],.pure,[],[],[],false,false⟩
noncomputable def fi285:FI:=⟨codeOf Tryz.f285,[.tmp 5],.pure,[],[],[],false,false⟩
noncomputable def fi286:FI:=⟨codeOf Tryz.f286,[.tmp 4,.tmp 5],.pure,[],[(3,.one 0 (.one 1 (.one 2 (.one 6 (.one 7 (.one 8 (.one 3 (.one 4 (.one 5 (.one 12 (.one 9 (.one 10 (.one 11 (.one 13 (.done)))))))))))))))],[],false,false⟩
noncomputable def fi287:FI:=⟨codeOf Tryz.f287,[.tmp 4],.pure,[([0,1,0,1,1],[5,10,11,12])],[],[],false,false⟩
noncomputable def fi288:FI:=⟨codeOf Tryz.f288,[.tmp 4],.inout,[],[],[],true,false⟩
noncomputable def fi289:FI:=⟨codeOf Tryz.f289,[],.inout,[([0,0,1,0,1,0,0,1,1,1,1],[0,1,2,6,7,8]),([0,0,1,1],[0,1,2,6,7,8]),([0,1,1,1,1],[0,1,2,6])],[],[],false,false⟩
noncomputable def fi296:FI:=⟨codeOf Tryz.f296,[],.inout,[],[],[],false,false⟩
noncomputable def fi297:FI:=⟨codeOf Tryz.f297,[.tmp 2],.pure,[],[],[],false,false⟩
noncomputable def fi298:FI:=⟨codeOf Tryz.f298,[.tmp 2],.pure,[],[],[],false,false⟩
noncomputable def fi299:FI:=⟨codeOf Tryz.f299,[],.inout,[([0,1],[0,1,2,3,8]),([0,1,0,0,1,0,0,1],[0,1,2,3,8,9])],[(4,.one 0 (.one 1 (.one 2 (.one 3 (.one 4 (.one 5 (.one 6 (.one 7 (.one 9 (.one 10 (.one 11 (.one 12 (.one 8 (.one 13 (.one 14 (.one 15 (.one 16 (.done)))))))))))))))))),(6,.one 0 (.one 1 (.one 2 (.one 3 (.one 4 (.one 5 (.one 6 (.one 7 (.one 8 (.one 10 (.one 11 (.one 12 (.one 9 (.one 13 (.one 14 (.one 15 (.one 16 (.one 17 (.done)))))))))))))))))))],[],false,false⟩
noncomputable def fi300:FI:=⟨codeOf Tryz.f300,[],.inout,[([0,0,1,1,0,1,0],[0,1,4,10,11]),([0,0,1,1,0,1,0,1],[0,2,4,14,15]),([0,0,1,1,1,1,1,1,1],[0,1,2,3,4,18,19,20,21,22]),([0,1,0,1,1,1,0,1,0],[0,10,13]),([0,1,0,1,1,1,0,1,0,1],[0,14,17])],[(5,.one 0 (.one 1 (.one 2 (.one 3 (.one 5 (.one 6 (.one 7 (.one 4 (.one 8 (.one 9 (.one 10 (.done)))))))))))),(11,.one 0 (.one 1 (.one 2 (.one 3 (.one 4 (.one 5 (.one 6 (.one 7 (.one 8 (.one 10 (.one 11 (.one 12 (.one 9 (.one 13 (.one 14 (.one 15 (.one 16 (.one 17 (.done))))))))))))))))))),(17,.one 0 (.one 1 (.one 2 (.one 3 (.one 5 (.one 6 (.one 7 (.one 4 (.one 8 (.one 9 (.one 10 (.one 11 (.done))))))))))))),(23,.one 0 (.one 1 (.one 2 (.one 3 (.one 4 (.one 5 (.one 6 (.one 7 (.one 8 (.one 10 (.one 11 (.one 12 (.one 9 (.one 13 (.one 14 (.one 15 (.one 16 (.one 17 (.done))))))))))))))))))),(35,.one 0 (.one 1 (.one 2 (.one 3 (.one 4 (.one 5 (.one 7 (.one 8 (.one 9 (.one 6 (.one 10 (.one 11 (.one 12 (.one 13 (.done)))))))))))))))],[],false,false⟩
noncomputable def fi302:FI:=⟨codeOf Tryz.f302,[],.inout,[],[],[],false,false⟩
noncomputable def fi303:FI:=⟨codeOf Tryz.f303,[],.inout,[([0,0,1,1],[0,2,4,10,11])],[],[],false,false⟩
noncomputable def fi304:FI:=⟨codeOf Tryz.f304,[],.inout,[([0,1],[0,2,3])],[(3,.one 0 (.one 1 (.one 2 (.one 3 (.one 4 (.one 5 (.one 6 (.one 8 (.one 9 (.one 10 (.one 7 (.one 11 (.one 12 (.one 13 (.one 14 (.one 15 (.done)))))))))))))))))],[],false,false⟩
noncomputable def fi305:FI:=⟨codeOf Tryz.f305,[],.inout,[([0,1],[0,1,2,3,10])],[(3,.one 0 (.one 1 (.one 2 (.one 3 (.one 4 (.one 5 (.one 6 (.one 7 (.one 8 (.one 9 (.one 10 (.one 11 (.one 12 (.one 14 (.one 15 (.one 16 (.one 17 (.one 18 (.one 13 (.one 19 (.one 20 (.one 21 (.one 22 (.one 23 (.done)))))))))))))))))))))))))],[],false,false⟩
noncomputable def fns:Tr (Option FI):=
 (.n (.n (.n (.n (.n (.n (.n (.n (.n .z (some fi255) .z) (some fi127) .z) (some fi63) (.n (.n .z none .z) (some fi191) .z)) (some fi31) (.n (.n (.n .z (some fi287) .z) none
 .z) none (.n .z none .z))) (some fi15) (.n (.n (.n (.n .z none .z) none .z) none (.n .z none .z)) none (.n (.n (.n .z (some fi303) .z)
 none .z) (some fi111) (.n .z (some fi239) .z)))) none (.n (.n (.n (.n (.n .z none .z) none .z) (some fi71) (.n .z (some fi199) .z)) none (.n
 (.n (.n .z none .z) none .z) none (.n .z (some fi231) .z))) none (.n (.n (.n (.n .z (some fi279) .z) (some fi151) .z) none (.n .z (some fi215) .z))
 (some fi55) (.n (.n (.n .z none .z) (some fi183) .z) (some fi119) (.n .z (some fi247) .z))))) none (.n (.n (.n (.n (.n (.n .z (some fi259) .z) none .z) (some fi67)
 (.n .z (some fi195) .z)) (some fi35) (.n (.n (.n .z none .z) none .z) none (.n .z none .z))) (some fi19) (.n (.n (.n (.n .z none .z) none .z) (some fi83) (.n .z none .z)) (some fi51) (.n (.n (.n .z none .z) (some fi179) .z) (some fi115) (.n .z (some fi243) .z)))) (some fi11) (.n (.n (.n (.n (.n .z
 none .z) none .z) none (.n .z (some fi203) .z)) none (.n (.n (.n .z (some fi299) .z) none .z) none (.n .z (some fi235) .z))) (some
 fi27) (.n (.n (.n (.n .z (some fi283) .z) none .z) none (.n .z (some fi219) .z)) (some fi59) (.n (.n (.n .z none .z) (some fi187) .z) (some fi123) (.n .z (some
 fi251) .z)))))) none (.n (.n (.n (.n (.n (.n (.n .z (some fi257) .z) none .z) (some fi65) (.n (.n .z none .z) (some fi193) .z)) (some fi33) (.n (.n (.n .z (some fi289) .z)
 (some fi161) .z) none (.n .z none .z))) (some fi17) (.n (.n (.n (.n .z none .z) none .z) (some fi81) (.n .z none .z)) (some fi49) (.n (.n (.n
 .z (some fi305) .z) none .z) (some fi113) (.n .z (some fi241) .z)))) (some fi9) (.n (.n (.n (.n (.n .z none .z) none .z) (some fi73) (.n .z (some fi201)
 .z)) none (.n (.n (.n .z (some fi297) .z) none .z) none (.n .z (some fi233) .z))) none (.n (.n (.n (.n .z (some fi281) .z) (some fi153) .z) none (.n .z (some fi217) .z)) (some fi57) (.n (.n (.n .z none .z) (some fi185) .z) (some fi121) (.n .z (some fi249) .z))))) none (.n (.n (.n (.n (.n (.n .z none .z)
 none .z) (some fi69) (.n .z (some fi197) .z)) (some fi37) (.n (.n (.n .z none .z) none .z) none (.n .z (some fi229) .z))) (some fi21) (.n (.n (.n
 (.n .z (some fi277) .z) (some fi149) .z) (some fi85) (.n .z none .z)) none (.n (.n (.n .z none .z) (some fi181) .z) (some fi117) (.n .z (some fi245) .z)))) none (.n (.n (.n (.n (.n .z none .z) none .z) none (.n .z (some fi205) .z)) none (.n (.n (.n .z none .z) none .z) none (.n .z (some
 fi237) .z))) (some fi29) (.n (.n (.n (.n .z (some fi285) .z) (some fi157) .z) none (.n .z none .z)) (some fi61) (.n (.n (.n .z none .z) (some fi189) .z) (some fi125)
 (.n .z (some fi253) .z))))))) none (.n (.n (.n (.n (.n (.n (.n (.n .z (some fi256) .z) none .z) (some fi64) (.n (.n .z none .z) (some fi192) .z)) none (.n (.n (.n .z
 (some fi288) .z) (some fi160) .z) none (.n .z none .z))) (some fi16) (.n (.n (.n (.n .z none .z) none .z) (some fi80) (.n .z none .z)) none (.n (.n (.n .z (some fi304) .z) none .z) (some fi112) (.n .z (some fi240) .z)))) none (.n (.n (.n (.n (.n .z none .z) none .z) (some fi72) (.n
 .z (some fi200) .z)) none (.n (.n (.n .z (some fi296) .z) none .z) none (.n .z (some fi232) .z))) (some fi24) (.n (.n (.n (.n .z (some fi280) .z) (some
 fi152) .z) none (.n .z (some fi216) .z)) (some fi56) (.n (.n (.n .z none .z) (some fi184) .z) (some fi120) (.n .z (some fi248) .z))))) none (.n (.n (.n (.n (.n (.n .z
 (some fi260) .z) none .z) none (.n .z (some fi196) .z)) (some fi36) (.n (.n (.n .z none .z) none .z) none (.n .z none .z))) (some
 fi20) (.n (.n (.n (.n .z (some fi276) .z) (some fi148) .z) (some fi84) (.n .z none .z)) (some fi52) (.n (.n (.n .z none .z) (some fi180) .z) (some fi116) (.n .z (some
 fi244) .z)))) (some fi12) (.n (.n (.n (.n (.n .z none .z) none .z) none (.n .z (some fi204) .z)) none (.n (.n (.n .z (some fi300) .z) none .z)
 none (.n .z (some fi236) .z))) none (.n (.n (.n (.n .z (some fi284) .z) none .z) none (.n .z none .z)) (some fi60) (.n (.n (.n .z none .z)
 (some fi188) .z) (some fi124) (.n .z (some fi252) .z)))))) none (.n (.n (.n (.n (.n (.n (.n .z (some fi258) .z) none .z) none (.n (.n .z none .z) (some fi194) .z))
 none (.n (.n (.n .z none .z) (some fi162) .z) none (.n .z none .z))) none (.n (.n (.n (.n .z none .z) none .z) (some fi82) (.n
 .z none .z)) (some fi50) (.n (.n (.n .z none .z) none .z) (some fi114) (.n .z (some fi242) .z)))) none (.n (.n (.n (.n (.n .z none .z) none
 .z) (some fi74) (.n .z (some fi202) .z)) none (.n (.n (.n .z (some fi298) .z) none .z) none (.n .z (some fi234) .z))) none (.n (.n (.n (.n .z (some
 fi282) .z) (some fi154) .z) (some fi90) (.n .z (some fi218) .z)) (some fi58) (.n (.n (.n .z none .z) (some fi186) .z) (some fi122) (.n .z (some fi250) .z))))) none (.n (.n
 (.n (.n (.n (.n .z none .z) none .z) none (.n .z (some fi198) .z)) none (.n (.n (.n .z none .z) none .z) none (.n .z (some
 fi230) .z))) none (.n (.n (.n (.n .z (some fi278) .z) (some fi150) .z) none (.n .z (some fi214) .z)) (some fi54) (.n (.n (.n .z none .z) (some fi182) .z) (some fi118)
 (.n .z (some fi246) .z)))) (some fi14) (.n (.n (.n (.n (.n .z none .z) none .z) (some fi78) (.n .z (some fi206) .z)) none (.n (.n (.n .z (some fi302) .z)
 none .z) none (.n .z (some fi238) .z))) (some fi30) (.n (.n (.n (.n .z (some fi286) .z) none .z) none (.n .z none .z)) (some fi62) (.n (.n
 (.n .z none .z) (some fi190) .z) (some fi126) (.n .z (some fi254) .z))))))))
noncomputable def cx:Cx:=⟨tis,fns,[(295,.overlaps 40),(77,.keys 157)],[(186,8),(116,72),(263,33),(33,17)],[(24,15,[0,6]),(31,12,[0]),(57,13,[0,2,5]),(57,16,[0]),(61,23,[0]),(61,26,[0]),(61,31,[0,3]),(61,36,[0,1]),(61,50,[0,2]),(61,67,[0]),(62,7,[0,4,6,11,14,15,16,17]),(62,12,[0,6,11,14,15,16,17]),(62,14,[0,2]),(62,17,[0,6,8]),(62,20,[0,4,14,15,16,17,19,23,24,25,26,27]),(62,22,[0,6,8]),(62,27,[0,6,8,10]),(62,29,[0,5]),(62,33,[0,1,4,7,8,19,32,34,35,36,37,38]),(62,34,[0,6,8,28,29,30,31,33,36,37,38,39,40,41]),(62,39,[0,2,4,8,9,10,11,25]),(62,41,[0,6,9,15,35,36,37,38,40,43,44,45,46,47]),(62,48,[0,8,24]),(62,50,[0,5,38,39,40,41,44,45,46,47,49,52,53,54,55,56,57]),(62,54,[0,24]),(62,58,[0,6,8,10,51,52,53,54,55,57,60,61,62,63,64,65,66]),(62,65,[0,1,4,7,8,10,19,52,58,59,60,61,62,64,70,71]),(62,66,[0,59]),(62,75,[0]),(62,128,[0,1,15,90,123,124,125,127]),(62,170,[0,1,18,146,165,166,167,169,173,175,176,177]),(63,46,[0,4,25]),(64,63,[0]),(65,12,[0]),(65,18,[0,3]),(65,25,[0,19]),(66,26,[0,3]),(67,8,[0]),(67,11,[0,6]),(67,23,[0,6,8]),(67,25,[0]),(69,17,[0,2]),(69,37,[0,6]),(71,21,[0,1,2,3,5,8,10,11,12,18,19,20,24,25,26,27,28]),(71,32,[0,1,3,7,10,11,12,13,19,24,29,30,31]),(74,29,[0,1,2,3,5,8,10,11,12,18,19,20,24,25,26,27,28]),(74,58,[0,5,38,39,40,41,44,45,46,47,49,52,53,54,55,56,57]),(81,64,[0]),(109,16,[0]),(116,22,[0,2,17]),(116,141,[0,1,15,90,130,131,132,134,136,137,138,139,142,143,144]),(117,34,[0,2,9,10,11,23,24,25,26,27,30,31,32,35]),(119,65,[0,2,9,10,11,55,56,57,58,60,61,62,63,64]),(121,34,[0,9,15]),(121,69,[0,1,4,7,8,10,19,52,58,59,60,61,62,64,70,71]),(123,179,[0,1,18,146,165,166,167,169,173,175,176,177]),(124,8,[0]),(124,10,[0]),(124,11,[0,6]),(124,16,[0,3]),(126,40,[0,3,25,26,27,28,29,31,32,33,34,35,37,38,39,41,42]),(126,76,[0,3,9,12,23,71,72,73,74,75,78,79,80,81]),(127,8,[0]),(153,15,[0,1,3,7,10,11,12,13,19,24,29,30,31]),(153,16,[0]),(153,17,[0]),(179,25,[0,8]),(179,33,[0,9]),(188,37,[0,2,26,32]),(189,34,[0,1,8,21]),(206,11,[0]),(234,17,[0])]⟩
end Go.Eva.S8
namespace Go.Eva
structure Entity where
 id:Int
 kind:Int
 x:Int
 y:Int
 vx:Int
 vy:Int
 health:Int
 age:Int
 owner:Int
deriving DecidableEq,Inhabited
def Entity.enc (e:Entity):T:= .agg [ti e.id,ti e.kind,ti e.x,ti e.y,ti e.vx,ti e.vy,ti e.health,ti e.age,ti e.owner]
structure Config where
 cols:Int
 rows:Int
 players:Int
 window:Int
 seed:Int
deriving DecidableEq,Inhabited
def Config.enc (c:Config):T:= .agg [ti c.cols,ti c.rows,ti c.players,ti c.window,.int .u64 c.seed]
structure Input where
 dx:Int
 dy:Int
 fire:Bool
deriving DecidableEq,Inhabited
def Input.enc (i:Input):T:= .agg [ti i.dx,ti i.dy,.bool i.fire]
structure Cross where
 kind:Int
 frm:Int
 to:Int
 frame:Int
 ent:Entity
 x:Int
 y:Int
deriving DecidableEq,Inhabited
def Cross.enc (c:Cross):T:= .agg [ti c.kind,ti c.frm,ti c.to,ti c.frame,ti c.ent.id,ti c.ent.kind,ti c.ent.x,ti c.ent.y,ti c.ent.vx,ti c.ent.vy,ti c.ent.health,ti c.ent.age,ti c.ent.owner,ti c.x,ti c.y]
structure Region where
 frame:Int
 ents:List Entity
deriving DecidableEq,Inhabited
def Region.enc (s:Region):T:= .agg [ti s.frame,.sl 9 (s.ents.map Entity.enc)]
theorem Entity.enc_inj {a b:Entity}:a.enc=b.enc↔a=b:=by
 constructor
 ·intro h;cases a;cases b;simp only [enc,T.agg.injEq,List.cons.injEq,T.int.injEq,true_and,and_true] at h;simpa using h
 ·intro h;rw [h]
theorem Input.enc_inj {a b:Input}:a.enc=b.enc↔a=b:=by
 constructor
 ·intro h;cases a;cases b;simp only [enc,T.agg.injEq,List.cons.injEq,T.int.injEq,T.bool.injEq,true_and,and_true] at h;simpa using h
 ·intro h;rw [h]
theorem Cross.enc_inj {a b:Cross}:a.enc=b.enc↔a=b:=by
 constructor
 ·intro h;obtain ⟨_,_,_,_,⟨_,_,_,_,_,_,_,_,_⟩,_,_⟩:=a;obtain ⟨_,_,_,_,⟨_,_,_,_,_,_,_,_,_⟩,_,_⟩:=b
  simp only [enc,T.agg.injEq,List.cons.injEq,T.int.injEq,true_and,and_true] at h
  simp only [Cross.mk.injEq,Entity.mk.injEq];simp_all
 ·intro h;rw [h]
theorem Config.enc_inj {a b:Config}:a.enc=b.enc↔a=b:=by
 constructor
 ·intro h;cases a;cases b;simp only [enc,T.agg.injEq,List.cons.injEq,T.int.injEq,true_and,and_true] at h;simpa using h
 ·intro h;rw [h]
theorem teqIff {x y:T}:teq x y=true↔x=y:=by unfold teq;simp
end Go.Eva
namespace Go.Eva
def within (v lo hi:Int):Bool:=decide (lo≤v)&&decide (v≤hi)
def Config.right (c:Config):Bool:=within c.cols 1 4&&within c.rows 1 4&&within c.players 1 6&&within c.window 1 16
def Config.zero:Config:=⟨0,0,0,0,0⟩
def Config.grid (c:Config):Config:=if c.right=true then c else Config.zero
def Config.err (c:Config):Int:=if c.right=true then 0 else 10
def Config.regions (c:Config):Int:=if c.right=true then c.cols*c.rows else 0
def Config.width (c:Config):Int:=if c.right=true then c.cols*1024 else 0
def Config.height (c:Config):Int:=if c.right=true then c.rows*1024 else 0
def Config.inside (c:Config) (x y:Int):Bool:=within x 0 (c.width-1)&&within y 0 (c.height-1)
def clamp (v lo hi:Int):Int:=if v<lo then lo else if v>hi then hi else v
def Config.of (c:Config) (x y:Int):Int:=if c.right=true then (clamp y 0 (c.height-1)).tdiv 1024*c.cols+(clamp x 0 (c.width-1)).tdiv 1024 else 0
def Config.is (c:Config) (r:Int):Bool:=within r 0 (c.regions-1)
def Config.cornerX (c:Config) (r:Int):Int:=if c.is r=true then r.tmod c.cols*1024 else 0
def Config.cornerY (c:Config) (r:Int):Int:=if c.is r=true then r.tdiv c.cols*1024 else 0
def i64 (n:Int):Prop:= -9223372036854775808≤n∧n≤9223372036854775807
def Config.ok (c:Config):Prop:=i64 c.cols∧i64 c.rows∧i64 c.players∧i64 c.window∧0≤c.seed∧c.seed≤18446744073709551615
theorem AaJ {v lo hi:Int}:within v lo hi=true↔lo≤v∧v≤hi:=by simp [within]
theorem Config.right_iff {c:Config}:c.right=true↔(1≤c.cols∧c.cols≤4)∧(1≤c.rows∧c.rows≤4)∧(1≤c.players∧c.players≤6)∧1≤c.window∧c.window≤16:=by
 simp [Config.right,AaJ,and_assoc]
theorem Config.regions_le {c:Config}:0≤c.regions∧c.regions≤16:=by
 unfold Config.regions
 split
 ·rename_i h
  obtain ⟨h1,h2,_⟩:=Config.right_iff.1 h
  have h3:c.cols=1∨c.cols=2∨c.cols=3∨c.cols=4:=by omega
  rcases h3 with h3|h3|h3|h3<;>rw [h3]<;>omega
 ·omega
theorem Config.width_le {c:Config}:0≤c.width∧c.width≤4096:=by
 unfold Config.width
 split
 ·rename_i h
  have:=Config.right_iff.1 h
  omega
 ·omega
theorem Config.height_le {c:Config}:0≤c.height∧c.height≤4096:=by
 unfold Config.height
 split
 ·rename_i h
  have:=Config.right_iff.1 h
  omega
 ·omega
theorem Config.mul_le {c:Config} (h:c.right=true):1≤c.cols*c.rows∧c.cols*c.rows≤16:=by
 obtain ⟨h1,h2,_⟩:=Config.right_iff.1 h
 have h3:c.cols=1∨c.cols=2∨c.cols=3∨c.cols=4:=by omega
 rcases h3 with h3|h3|h3|h3<;>rw [h3]<;>omega
theorem AfO {v lo hi:Int} (h:lo≤hi):lo≤clamp v lo hi∧clamp v lo hi≤hi:=by unfold clamp;split<;>(try split)<;>omega
theorem Abe {v k m:Int} (hk:0<k) (h:0≤v) (h2:v<k*m):0≤v.tdiv k∧v.tdiv k<m:=by
 rw [Int.tdiv_eq_ediv_of_nonneg h]
 refine ⟨Int.ediv_nonneg h (by omega),?_⟩
 exact Int.ediv_lt_of_lt_mul hk (by rw [Int.mul_comm];exact h2)
theorem AaL {v k:Int} (hk:0<k) (h:0≤v):0≤v.tmod k∧v.tmod k<k:=by
 rw [Int.tmod_eq_emod_of_nonneg h]
 exact ⟨Int.emod_nonneg _ (by omega),Int.emod_lt_of_pos _ hk⟩
theorem mul4 {a b:Int} (ha:0≤a∧a≤4) (hb:0≤b∧b≤4):0≤a*b∧a*b≤16:=by
 obtain ⟨h1,h2⟩:=ha
 have h3:a=0∨a=1∨a=2∨a=3∨a=4:=by omega
 rcases h3 with h3|h3|h3|h3|h3<;>subst h3<;>omega
end Go.Eva
namespace Go.Eva.S8
theorem Aar (v lo hi:Int):Fn cx 180 [ti v,ti lo,ti hi] (.bool (within v lo hi)):=by
 refine Wp.ev ?_
 refine brp (p:=v≥lo) (by kernel_rfl) (fun h1=> ?_) (fun h1=> ?_)
 ·refine gg [.tt,.tt,.tt] trivial ?_
  refine rT (a:=qy qg [vb (decide (v≤hi))] []) ?_
  (simp_all [within];(try (rw [Bool.eq_iff_iff];simp only [decide_eq_true_eq,Bool.and_eq_true];omega));(try (intros;omega)))
 ·refine gg [.ff,.ff,.ff] trivial ?_
  refine rT (a:=qy qg [vb false] []) ?_
  (simp_all [within];(try (rw [Bool.eq_iff_iff];simp only [decide_eq_true_eq,Bool.and_eq_true];omega));(try (intros;omega)))
theorem Aad (v lo hi:Int):Fn cx 215 [ti v,ti lo,ti hi] (.bool (within v lo hi)):=by
 refine Wp.ev ?_
 refine brp (p:=v≥lo) (by kernel_rfl) (fun h1=> ?_) (fun h1=> ?_)
 ·refine gg [.tt,.tt,.tt] trivial ?_
  refine rT (a:=qy qg [vb (decide (v≤hi))] []) ?_
  (simp_all [within];(try (rw [Bool.eq_iff_iff];simp only [decide_eq_true_eq,Bool.and_eq_true];omega));(try (intros;omega)))
 ·refine gg [.ff,.ff,.ff] trivial ?_
  refine rT (a:=qy qg [vb false] []) ?_
  (simp_all [within];(try (rw [Bool.eq_iff_iff];simp only [decide_eq_true_eq,Bool.and_eq_true];omega));(try (intros;omega)))
theorem Aby (c:Config):Fn cx 111 [c.enc] (.bool c.right):=by
 refine Wp.ev ?_
 refine gg [.a _ _] ⟨o_a (Aar c.cols 1 4),trivial⟩ ?_
 refine br (b:=within c.cols 1 4) (by kernel_rfl) (fun h1=> ?_) (fun h1=> ?_)
 ·refine gg [.tt,.tt,.a _ _,.tt] ⟨o_a (Aar c.rows 1 4),trivial⟩ ?_
  refine br (b:=within c.rows 1 4) (by kernel_rfl) (fun h2=> ?_) (fun h2=> ?_)
  ·refine gg [.tt,.tt,.a _ _,.tt] ⟨o_a (Aar c.players 1 6),trivial⟩ ?_
   refine br (b:=within c.players 1 6) (by kernel_rfl) (fun h3=> ?_) (fun h3=> ?_)
   ·refine gg [.tt,.tt,.a _ _,.tt] ⟨o_a (Aar c.window 1 16),trivial⟩ ?_
    refine rT (a:=qy qg [vb (within c.window 1 16)] []) ?_
    simp_all [Config.right]
   ·refine gg [.ff,.ff,.ff] trivial ?_
    refine rT (a:=qy qg [vb false] []) ?_
    simp_all [Config.right]
  ·refine gg [.ff,.ff,.ff,.ff,.ff,.ff,.ff] trivial ?_
   refine rT (a:=qy qg [vb false] []) ?_
   simp_all [Config.right]
 ·refine gg [.ff,.ff,.ff,.ff,.ff,.ff,.ff,.ff,.ff,.ff,.ff] trivial ?_
  refine rT (a:=qy qg [vb false] []) ?_
  simp_all [Config.right]
theorem AgI (c:Config):Is cx (.call 49 [.t c.enc] []) ⟨.ret,[.t c.grid.enc,vi c.err],[]⟩:=by
 refine Wp.ev ?_
 refine gg [.a _ _] ⟨o_a (Aby c),trivial⟩ ?_
 refine brnot (b:=Config.right c) (by kernel_rfl) (fun h1=> ?_) (fun h1=> ?_)
 ·refine rT (a:=qy qg [V.t (T.agg [ti 0,ti 0,ti 0,ti 0,T.int zf 0]),vi 10] []) ?_
  simp_all [Config.grid,Config.err,Config.zero,Config.enc]
 ·refine rT (a:=qy qg [V.t (Config.enc c),vi 0] []) ?_
  simp_all [Config.grid,Config.err,Config.zero,Config.enc]
theorem AaC (c:Config) (h:c.right=true):Is cx (.call 112 [.t c.enc] []) ⟨.ret,[vi c.cols,vi c.rows],[]⟩:=by
 refine Wp.ev ?_
 refine gg [.a _ _,.b (!Config.right c) false] ⟨o_a (Aby c),Afv (by assumption),trivial⟩ ?_
 exact ge
theorem AaF (c:Config) (h:c.right=false):Is cx (.call 112 [.t c.enc] []) ⟨.ret,[vi 0,vi 0],[]⟩:=by
 refine Wp.ev ?_
 refine gg [.a _ _,.b (!Config.right c) true] ⟨o_a (Aby c),AeZ (by assumption),trivial⟩ ?_
 exact ge
theorem AbS (v lo hi:Int):Fn cx 217 [ti v,ti lo,ti hi] (ti (clamp v lo hi)):=by
 refine Wp.ev ?_
 refine brp (p:=v<lo) (by kernel_rfl) (fun h1=> ?_) (fun h1=> ?_)
 ·refine rT (a:=qy qg [vi lo] []) ?_
  (simp_all [clamp];(try (rw [Bool.eq_iff_iff];simp only [decide_eq_true_eq,Bool.and_eq_true];omega));(try (intros;omega)))
 ·refine brp (p:=v>hi) (by kernel_rfl) (fun h2=> ?_) (fun h2=> ?_)
  ·refine rT (a:=qy qg [vi hi] []) ?_
   (simp_all [clamp];(try (rw [Bool.eq_iff_iff];simp only [decide_eq_true_eq,Bool.and_eq_true];omega));(try (intros;omega)))
  ·refine rT (a:=qy qg [vi v] []) ?_
   (simp_all [clamp];(try (rw [Bool.eq_iff_iff];simp only [decide_eq_true_eq,Bool.and_eq_true];omega));(try (intros;omega)))
theorem Aas (c:Config):Fn cx 54 [c.enc] (.bool c.right):=by
 refine Wp.ev ?_
 refine brp (p:=c.cols≥1) (by kernel_rfl) (fun h1=> ?_) (fun h1=> ?_)
 ·refine gg [.tt,.tt,.tt] trivial ?_
  refine brp (p:=c.cols≤4) (by kernel_rfl) (fun h2=> ?_) (fun h2=> ?_)
  ·refine gg [.tt,.tt,.tt] trivial ?_
   refine brp (p:=c.rows≥1) (by kernel_rfl) (fun h3=> ?_) (fun h3=> ?_)
   ·refine gg [.tt,.tt,.tt] trivial ?_
    refine brp (p:=c.rows≤4) (by kernel_rfl) (fun h4=> ?_) (fun h4=> ?_)
    ·refine gg [.tt,.tt,.tt] trivial ?_
     refine brp (p:=c.players≥1) (by kernel_rfl) (fun h5=> ?_) (fun h5=> ?_)
     ·refine gg [.tt,.tt,.tt] trivial ?_
      refine brp (p:=c.players≤6) (by kernel_rfl) (fun h6=> ?_) (fun h6=> ?_)
      ·refine gg [.tt,.tt,.tt] trivial ?_
       refine brp (p:=c.window≥1) (by kernel_rfl) (fun h7=> ?_) (fun h7=> ?_)
       ·refine gg [.tt,.tt,.tt] trivial ?_
        refine rT (a:=qy qg [vb (decide (c.window≤16))] []) ?_
        (simp_all [Config.right,within];(try (rw [Bool.eq_iff_iff];simp only [decide_eq_true_eq,Bool.and_eq_true];omega));(try (intros;omega)))
       ·refine gg [.ff,.ff,.ff] trivial ?_
        refine rT (a:=qy qg [vb false] []) ?_
        (simp_all [Config.right,within];(try (rw [Bool.eq_iff_iff];simp only [decide_eq_true_eq,Bool.and_eq_true];omega));(try (intros;omega)))
      ·refine gg [.ff,.ff,.ff,.ff,.ff,.ff,.ff] trivial ?_
       refine rT (a:=qy qg [vb false] []) ?_
       (simp_all [Config.right,within];(try (rw [Bool.eq_iff_iff];simp only [decide_eq_true_eq,Bool.and_eq_true];omega));(try (intros;omega)))
     ·refine gg [.ff,.ff,.ff,.ff,.ff,.ff,.ff,.ff,.ff,.ff,.ff] trivial ?_
      refine rT (a:=qy qg [vb false] []) ?_
      (simp_all [Config.right,within];(try (rw [Bool.eq_iff_iff];simp only [decide_eq_true_eq,Bool.and_eq_true];omega));(try (intros;omega)))
    ·refine gg [.ff,.ff,.ff,.ff,.ff,.ff,.ff,.ff,.ff,.ff,.ff,.ff,.ff,.ff,.ff] trivial ?_
     refine rT (a:=qy qg [vb false] []) ?_
     (simp_all [Config.right,within];(try (rw [Bool.eq_iff_iff];simp only [decide_eq_true_eq,Bool.and_eq_true];omega));(try (intros;omega)))
   ·refine gg [.ff,.ff,.ff,.ff,.ff,.ff,.ff,.ff,.ff,.ff,.ff,.ff,.ff,.ff,.ff,.ff] trivial ?_
    refine gg [.ff,.ff,.ff] trivial ?_
    refine rT (a:=qy qg [vb false] []) ?_
    (simp_all [Config.right,within];(try (rw [Bool.eq_iff_iff];simp only [decide_eq_true_eq,Bool.and_eq_true];omega));(try (intros;omega)))
  ·refine gg [.ff,.ff,.ff,.ff,.ff,.ff,.ff,.ff,.ff,.ff,.ff,.ff,.ff,.ff,.ff,.ff] trivial ?_
   refine gg [.ff,.ff,.ff,.ff,.ff,.ff,.ff] trivial ?_
   refine rT (a:=qy qg [vb false] []) ?_
   (simp_all [Config.right,within];(try (rw [Bool.eq_iff_iff];simp only [decide_eq_true_eq,Bool.and_eq_true];omega));(try (intros;omega)))
 ·refine gg [.ff,.ff,.ff,.ff,.ff,.ff,.ff,.ff,.ff,.ff,.ff,.ff,.ff,.ff,.ff,.ff] trivial ?_
  refine gg [.ff,.ff,.ff,.ff,.ff,.ff,.ff,.ff,.ff,.ff,.ff] trivial ?_
  refine rT (a:=qy qg [vb false] []) ?_
  (simp_all [Config.right,within];(try (rw [Bool.eq_iff_iff];simp only [decide_eq_true_eq,Bool.and_eq_true];omega));(try (intros;omega)))
theorem Aay (c:Config):Fn cx 52 [c.enc] (ti c.regions):=by
 cases h:c.right with
 |true=>
  have h2:=Config.mul_le h
  refine Wp.ev ?_
  refine gg [.a _ _,.i zd (c.cols*c.rows) (c.cols*c.rows)] ⟨o_a (AaC c (by assumption)),oI,trivial⟩ ?_
  refine rT (a:=qy qg [vi (c.cols*c.rows)] []) ?_
  simp [Config.regions,h]
 |false=>
  refine Wp.ev ?_
  refine gg [.a _ _,.i zd 0 0] ⟨o_a (AaF c (by assumption)),oK,trivial⟩ ?_
  refine rT (a:=qy qg [vi 0] []) ?_
  simp [Config.regions,h]
theorem AaB (c:Config):Fn cx 55 [c.enc] (ti c.regions):=by
 cases h:c.right with
 |true=>
  have h2:=Config.mul_le h
  refine Wp.ev ?_
  refine gg [.a _ _,.b (!Config.right c) false,.i zd (c.cols*c.rows) (c.cols*c.rows)] ⟨o_a (Aas c),Afv (by assumption),oI,trivial⟩ ?_
  refine rT (a:=qy qg [vi (c.cols*c.rows)] []) ?_
  simp [Config.regions,h]
 |false=>
  refine Wp.ev ?_
  refine gg [.a _ _,.b (!Config.right c) true] ⟨o_a (Aas c),AeZ (by assumption),trivial⟩ ?_
  refine rT (a:=qy qg [vi 0] []) ?_
  simp [Config.regions,h]
theorem AcK (c:Config):Fn cx 218 [c.enc] (ti c.width):=by
 cases h:c.right with
 |true=>
  have h2:=Config.right_iff.1 h
  refine Wp.ev ?_
  refine gg [.a _ _,.i zd (c.cols*1024) (c.cols*1024)] ⟨o_a (AaC c (by assumption)),oI,trivial⟩ ?_
  refine rT (a:=qy qg [vi (c.cols*1024)] []) ?_
  simp [Config.width,h]
 |false=>
  refine Wp.ev ?_
  refine gg [.a _ _,.i zd 0 0] ⟨o_a (AaF c (by assumption)),oK,trivial⟩ ?_
  refine rT (a:=qy qg [vi 0] []) ?_
  simp [Config.width,h]
theorem AbZ (c:Config):Fn cx 219 [c.enc] (ti c.height):=by
 cases h:c.right with
 |true=>
  have h2:=Config.right_iff.1 h
  refine Wp.ev ?_
  refine gg [.a _ _,.i zd (c.rows*1024) (c.rows*1024)] ⟨o_a (AaC c (by assumption)),oI,trivial⟩ ?_
  refine rT (a:=qy qg [vi (c.rows*1024)] []) ?_
  simp [Config.height,h]
 |false=>
  refine Wp.ev ?_
  refine gg [.a _ _,.i zd 0 0] ⟨o_a (AaF c (by assumption)),oK,trivial⟩ ?_
  refine rT (a:=qy qg [vi 0] []) ?_
  simp [Config.height,h]
theorem Acl (c:Config) (x y:Int):Fn cx 152 [c.enc,ti x,ti y] (.bool (c.inside x y)):=by
 have h1:= @Config.width_le c
 have h2:= @Config.height_le c
 refine Wp.ev ?_
 refine gg [.a _ _,.i zd (Config.width c-1) (Config.width c-1),.a _ _] ⟨o_a (AcK c),oI,o_a (Aar x 0 (Config.width c-1)),trivial⟩ ?_
 refine br (b:=within x 0 (Config.width c-1)) (by kernel_rfl) (fun h1=> ?_) (fun h1=> ?_)
 ·refine gg [.tt,.tt,.a _ _,.tt,.i zd (Config.height c-1) (Config.height c-1),.tt,.a _ _,.tt] ⟨o_a (AbZ c),oI,o_a (Aar y 0 (Config.height c-1)),trivial⟩ ?_
  refine rT (a:=qy qg [vb (within y 0 (Config.height c-1))] []) ?_
  simp_all [Config.inside]
 ·refine gg [.ff,.ff,.ff,.ff,.ff] trivial ?_
  refine rT (a:=qy qg [vb false] []) ?_
  simp_all [Config.inside]
theorem AeG (c:Config) (r:Int):Fn cx 160 [c.enc,ti r] (.bool (c.is r)):=by
 have h1:= @Config.regions_le c
 refine Wp.ev ?_
 refine gg [.a _ _,.i zd (Config.regions c-1) (Config.regions c-1),.a _ _] ⟨o_a (Aay c),oI,o_a (Aar r 0 (Config.regions c-1)),trivial⟩ ?_
 refine rT (a:=qy qg [vb (within r 0 (Config.regions c-1))] []) ?_
 simp_all [Config.is]
theorem AcV (c:Config) (r:Int):Fn cx 90 [c.enc,ti r] (.bool (c.is r)):=by
 have h1:= @Config.regions_le c
 refine Wp.ev ?_
 refine brp (p:=r≥0) (by kernel_rfl) (fun h1=> ?_) (fun h1=> ?_)
 ·refine gg [.tt,.tt,.a _ _,.tt,.tt] ⟨o_a (AaB c),trivial⟩ ?_
  refine rT (a:=qy qg [vb (decide (r<Config.regions c))] []) ?_
  (simp_all [Config.is,within];(try (rw [Bool.eq_iff_iff];simp only [decide_eq_true_eq,Bool.and_eq_true];omega));(try (intros;omega)))
 ·refine gg [.ff,.ff,.ff,.ff] trivial ?_
  refine rT (a:=qy qg [vb false] []) ?_
  (simp_all [Config.is,within];(try (rw [Bool.eq_iff_iff];simp only [decide_eq_true_eq,Bool.and_eq_true];omega));(try (intros;omega)))
theorem Aet (c:Config) (x y:Int):Fn cx 151 [c.enc,ti x,ti y] (ti (c.of x y)):=by
 cases h:c.right with
 |true=>
  have h2:=Config.right_iff.1 h
  have h3:= @Config.width_le c
  have h4:= @Config.height_le c
  have hw:c.width=c.cols*1024:=by simp [Config.width,h]
  have hh:c.height=c.rows*1024:=by simp [Config.height,h]
  have h5:= @AfO x 0 (c.width-1) (by omega)
  have h6:= @AfO y 0 (c.height-1) (by omega)
  have h7:=Abe (v:=clamp x 0 (c.width-1)) (k:=1024) (m:=4) (by omega) (by omega) (by omega)
  have h8:=Abe (v:=clamp y 0 (c.height-1)) (k:=1024) (m:=4) (by omega) (by omega) (by omega)
  have h9:=mul4 (a:=(clamp y 0 (c.height-1)).tdiv 1024) (b:=c.cols) (by omega) (by omega)
  refine Wp.ev ?_
  refine gg [.a _ _,.b (c.cols==0) false,.a _ _,.i zd (Config.width c-1) (Config.width c-1),.a _ _,.a _ _,.i zd (Config.height c-1) (Config.height c-1),.a _ _,.w ((1024:Int)≠(0:Int)),.i zd (Int.tdiv (clamp y 0 (Config.height c-1)) 1024) (Int.tdiv (clamp y 0 (Config.height c-1)) 1024),.i zd (Int.tdiv (clamp y 0 (Config.height c-1)) 1024*c.cols) (Int.tdiv (clamp y 0 (Config.height c-1)) 1024*c.cols),.w ((1024:Int)≠(0:Int)),.i zd (Int.tdiv (clamp x 0 (Config.width c-1)) 1024) (Int.tdiv (clamp x 0 (Config.width c-1)) 1024),.i zd (Int.tdiv (clamp y 0 (Config.height c-1)) 1024*c.cols+Int.tdiv (clamp x 0 (Config.width c-1)) 1024) (Int.tdiv (clamp y 0 (Config.height c-1)) 1024*c.cols+Int.tdiv (clamp x 0 (Config.width c-1)) 1024)] ⟨o_a (AaC c (by assumption)),fE,o_a (AcK c),oI,o_a (AbS x 0 (Config.width c-1)),o_a (AbZ c),oI,o_a (AbS y 0 (Config.height c-1)),o_w (by intro h;cases h),oI,oI,o_w (by intro h;cases h),oI,oI,trivial⟩ ?_
  refine rT (a:=qy qg [vi (Int.tdiv (clamp y 0 (Config.height c-1)) 1024*c.cols+Int.tdiv (clamp x 0 (Config.width c-1)) 1024)] []) ?_
  simp [Config.of,h]
 |false=>
  refine Wp.ev ?_
  refine gg [.a _ _,.b (0==0) true] ⟨o_a (AaF c (by assumption)),bK,trivial⟩ ?_
  refine rT (a:=qy qg [vi 0] []) ?_
  simp [Config.of,h]
end Go.Eva.S8
namespace Go.Eva
def pos {α:Type} (p:α→Bool) (l:List α):Int:=match l.findIdx? p with
 |some j=>j
 |none=> -1
def small {α:Type} (l:List α):Prop:=l.length≤1000000
theorem Ac9 {α:Type} [Inhabited α] {l:List α} {i:Nat} (h:i<l.length):l.drop i=gt l i::l.drop (i+1):=by
 rw [List.drop_eq_getElem_cons h];simp [gt,h]
theorem Afy {α:Type} [Inhabited α] {l:List α} {i:Nat} (h:i<l.length):gt l i∈l:=by simp [gt,h]
theorem AbT {α:Type} {l:List α} {i:Nat} (h:l.length≤i):l.drop i= []:=List.drop_eq_nil_of_le h
end Go.Eva
namespace Go.Eva.S8
theorem Abr (l:List Entity) (hl:small l):Is cx (.call 115 [.t (.sl 9 (l.map Entity.enc))] []) ⟨.ret,[.all 0 none],[.arr 9 (l.map Entity.enc) none false]⟩:=by
 unfold small at hl
 refine Wp.ev ?_
 refine brp (p:=zq (zz Entity.enc l)=0) (by kernel_rfl) (fun h1=> ?_) (fun h1=> ?_)
 ·refine bO ?_ ?_
  ·refine gg [.tt] trivial ?_
   refine rT (a:=qy qg [qb 0 none] [qf 9 [] none false]) ?_
   (first|rfl|(have:l= []:=List.length_eq_zero_iff.1 (by simp_all;done);subst this;rfl))
  ·refine gg [.ff,.w ((0:Nat)<(72:Nat)),.s (qp 0 (zz Entity.enc l)),.s (qp 0 (zz Entity.enc l)),.w (room (zq (zz Entity.enc l)) (72:Nat))] ⟨oW,o_w (by (simp [room,appendMax];omega)),trivial⟩ ?_
   refine rT (a:=qy qg [qb 0 none] [qf 9 (zz Entity.enc l) none false]) ?_
   (first|rfl|(have:l= []:=List.length_eq_zero_iff.1 (by simp_all;done);subst this;rfl))
 ·refine gg [.ff,.w ((0:Nat)<(72:Nat)),.s (qp 0 (zz Entity.enc l)),.s (qp 0 (zz Entity.enc l)),.w (room (zq (zz Entity.enc l)) (72:Nat))] ⟨oW,o_w (by (simp [room,appendMax];omega)),trivial⟩ ?_
  refine rT (a:=qy qg [qb 0 none] [qf 9 (zz Entity.enc l) none false]) ?_
  (first|rfl|(have:l= []:=List.length_eq_zero_iff.1 (by simp_all;done);subst this;rfl))
theorem Aa8 (l:List Entity) (g:Nat) (cs:List T) (p:Entity→Bool) (hb:isFnB cx g=true) (hn:small l)
  (hg: ∀e∈l,Fn cx g (e.enc::cs) (.bool (p e))): ∀(d i:Nat),i+d=l.length→
  Is cx (.loop 229 [0,1,0,1] 0 [.t (.sl 9 (l.map Entity.enc)),.t (.clo g cs),vi 0,vi l.length,vi i] [])
   (match (l.drop i).findIdx? p with
    |some j=>⟨.ret,[.t (.sl 9 (l.map Entity.enc)),.t (.clo g cs),vi (i+j:Nat),vi l.length,vi (i+j:Nat)],[]⟩
    |none=>⟨.exit 0,[.t (.sl 9 (l.map Entity.enc)),.t (.clo g cs),vi 0,vi l.length,vi l.length],[]⟩):=by
 unfold small at hn
 intro d
 induction d with
 |zero=>
  intro i hi
  refine Wp.ev ?_
  refine gg [.b (decide ((i:Int)<(↑(zq l):Int))) false] ⟨fP,trivial⟩ ?_
  refine rT (a:=qy (qh 0) [V.t (qp 9 (zz Entity.enc l)),V.t (T.clo g cs),vi 0,vi (↑(zq l):Int),vi (i:Int)] []) ?_
  ((have:i=l.length:=by omega);subst this;rw [AbT (Nat.le_refl _)];rfl)
 |succ d ih=>
  intro i hi
  have hlt:i<l.length:=by omega
  have hy:=hg _ (Afy hlt)
  have ih1:=ih (i+1) (by omega)
  clear ih hg
  rw [Ac9 hlt,List.findIdx?_cons]
  cases hp:p (gt l i) with
  |true=>
   rw [hp] at hy
   refine Wp.ev ?_
   refine gg [.b (decide ((i:Int)<(↑(zq l):Int))) true,.w (0≤(i:Int)),.n (zy (i:Int)) i,.g (zz Entity.enc l) i (Entity.enc (gt l i)),.w (isFnB cx g=true),.a _ _,.tt] ⟨tP,oW,nK,o_gt rfl (by assumption) (by intro h;cases h),oA,o_a hy,trivial⟩ ?_
   exact ge
  |false=>
   rw [hp] at hy
   simp only [Bool.false_eq_true,if_false]
   cases hq:(l.drop (i+1)).findIdx? p with
   |none=>
    rw [hq] at ih1
    refine Wp.ev ?_
    refine gg [.b (decide ((i:Int)<(↑(zq l):Int))) true,.w (0≤(i:Int)),.n (zy (i:Int)) i,.g (zz Entity.enc l) i (Entity.enc (gt l i)),.w (isFnB cx g=true),.a _ _,.ff,.i zd ((i:Int)+1) ((↑(i+1):Int)),.a _ _] ⟨tP,oW,nK,o_gt rfl (by assumption) (by intro h;cases h),oA,o_a hy,oI,o_a ih1,trivial⟩ ?_
    exact ge
   |some j=>
    rw [hq] at ih1
    refine Wp.ev ?_
    refine gg [.b (decide ((i:Int)<(↑(zq l):Int))) true,.w (0≤(i:Int)),.n (zy (i:Int)) i,.g (zz Entity.enc l) i (Entity.enc (gt l i)),.w (isFnB cx g=true),.a _ _,.ff,.i zd ((i:Int)+1) ((↑(i+1):Int)),.a _ _] ⟨tP,oW,nK,o_gt rfl (by assumption) (by intro h;cases h),oA,o_a hy,oI,o_a ih1,trivial⟩ ?_
    refine rT (a:=qy qg [V.t (qp 9 (zz Entity.enc l)),V.t (T.clo g cs),vi (↑(i+1+j):Int),vi (↑(zq l):Int),vi (↑(i+1+j):Int)] []) ?_
    simp [Nat.add_assoc,Nat.add_comm 1 j]
theorem AaT (l:List Entity) (g:Nat) (cs:List T) (p:Entity→Bool) (hb:isFnB cx g=true) (hn:small l)
  (hg: ∀e∈l,Fn cx g (e.enc::cs) (.bool (p e))):Fn cx 229 [.sl 9 (l.map Entity.enc),.clo g cs] (ti (pos p l)):=by
 have h:=Aa8 l g cs p hb hn hg l.length 0 (by omega)
 clear hg
 rw [List.drop_zero] at h
 unfold pos
 cases hq:l.findIdx? p with
 |none=>
  rw [hq] at h
  refine Wp.ev ?_
  refine gg [.n (zq (zz Entity.enc l)) (zq l),.a _ _] ⟨o_n (by simp),o_a h,trivial⟩ ?_
  exact ge
 |some j=>
  rw [hq] at h
  refine Wp.ev ?_
  refine gg [.n (zq (zz Entity.enc l)) (zq l),.a _ _] ⟨o_n (by simp),o_a h,trivial⟩ ?_
  refine rT (a:=qy qg [vi (↑(0+j):Int)] []) ?_
  simp
theorem AbC (l:List Cross) (hl:small l):Is cx (.call 60 [.t (.sl 15 (l.map Cross.enc))] []) ⟨.ret,[.all 0 none],[.arr 15 (l.map Cross.enc) none false]⟩:=by
 unfold small at hl
 refine Wp.ev ?_
 refine brp (p:=zq (zz Cross.enc l)=0) (by kernel_rfl) (fun h1=> ?_) (fun h1=> ?_)
 ·refine bO ?_ ?_
  ·refine gg [.tt] trivial ?_
   refine rT (a:=qy qg [qb 0 none] [qf 15 [] none false]) ?_
   (first|rfl|(have:l= []:=List.length_eq_zero_iff.1 (by simp_all;done);subst this;rfl))
  ·refine gg [.ff,.w ((0:Nat)<(120:Nat)),.s (qp 0 (zz Cross.enc l)),.s (qp 0 (zz Cross.enc l)),.w (room (zq (zz Cross.enc l)) (120:Nat))] ⟨oW,o_w (by (simp [room,appendMax];omega)),trivial⟩ ?_
   refine rT (a:=qy qg [qb 0 none] [qf 15 (zz Cross.enc l) none false]) ?_
   (first|rfl|(have:l= []:=List.length_eq_zero_iff.1 (by simp_all;done);subst this;rfl))
 ·refine gg [.ff,.w ((0:Nat)<(120:Nat)),.s (qp 0 (zz Cross.enc l)),.s (qp 0 (zz Cross.enc l)),.w (room (zq (zz Cross.enc l)) (120:Nat))] ⟨oW,o_w (by (simp [room,appendMax];omega)),trivial⟩ ?_
  refine rT (a:=qy qg [qb 0 none] [qf 15 (zz Cross.enc l) none false]) ?_
  (first|rfl|(have:l= []:=List.length_eq_zero_iff.1 (by simp_all;done);subst this;rfl))
end Go.Eva.S8
namespace Go.Eva.S8
end Go.Eva.S8
namespace Go.Eva
def find (l:List Entity) (id:Int):Int:=pos (fun e=>e.id==id) l
def ins (l:List Entity) (e:Entity):List Entity:=match l.findIdx? fun x=>decide (x.id≥e.id) with
 |some k=>l.take k++e::l.drop k
 |none=>l++ [e]
def put1 (l:List Entity) (e:Entity):List Entity:=match l.findIdx? fun x=>x.id==e.id with
 |some _=>l
 |none=>ins l e
def puts (l m:List Entity):List Entity:=m.foldl put1 l
def has (ids:List Int) (id:Int):Bool:=ids.any fun x=>x==id
def drops (l:List Entity) (ids:List Int):List Entity:=l.filter fun e=> !has ids e.id
def things (l:List Entity):Int:=(l.countP fun e=>e.kind !=1:Nat)
def sortedL:List Entity→Bool
 |a::b::r=>decide (a.id<b.id)&&sortedL (b::r)
 |_=>true
theorem Agh {α:Type} {p:α→Bool} {l:List α} (h:l.findIdx? p=none):pos p l= -1:=by simp [pos,h]
theorem AfI {α:Type} {p:α→Bool} {l:List α} {k:Nat} (h:l.findIdx? p=some k):pos p l=(k:Int):=by simp [pos,h]
theorem Ah4 {l:List Entity} {i:Nat} (h:i+1<l.length):sortedL (l.drop i)=(decide ((gt l i).id<(gt l (i+1)).id)&&sortedL (l.drop (i+1))):=by
 rw [Ac9 (by omega),Ac9 h,sortedL]
theorem Agw {l:List Entity} {i:Nat} (h:l.length≤i+1):sortedL (l.drop i)=true:=by
 rcases Nat.lt_or_ge i l.length with h1|h1
 ·rw [Ac9 h1,AbT (by omega)];rfl
 ·rw [AbT h1];rfl
theorem AhO {l:List Entity} {i:Nat} (p:Entity→Bool) (h:i<l.length):(l.drop i).countP p=(if p (gt l i)=true then 1 else 0)+(l.drop (i+1)).countP p:=by
 rw [Ac9 h,List.countP_cons];omega
theorem AiU {l:List Int} {x:Int}:(decide (pos (fun y=>x==y) l≥0))=has l x:=by
 unfold has
 cases h:l.findIdx? fun y=>x==y with
 |none=>
  rw [Agh h]
  have:=List.findIdx?_eq_none_iff.1 h
  symm
  rw [show (l.any fun y=>y==x)=false from ?_]
  ·rfl
  ·rw [List.any_eq_false]
   intro y hy
   have:=this y hy
   simp at this⊢
   exact fun e=>this e.symm
 |some k=>
  rw [AfI h]
  obtain ⟨hk,h1,_⟩:=List.findIdx?_eq_some_iff_getElem.1 h
  symm
  simp only [ge_iff_le,Int.natCast_nonneg,decide_true]
  rw [List.any_eq_true]
  exact ⟨l[k],List.getElem_mem _,by simp at h1⊢;exact h1.symm⟩
def plain {α:Type} [DecidableEq α] (a b:List α):Bool:=decide (a=b)
abbrev CrossL:=List Cross
def encL (l:List Cross):T:= .sl 15 (l.map Cross.enc)
end Go.Eva
namespace Go.Eva.S8
theorem AbE (l:List Entity) (hn:small l): ∀(d i:Nat),i+d=l.length→1≤i→
  ∃k:Nat,Is cx (.loop 182 [0,1,0,1] 0 [.t (.sl 9 (l.map Entity.enc)),vb false,vi l.length,vi i] []) (match sortedL (l.drop (i-1)) with
    |true=>⟨.exit 0,[.t (.sl 9 (l.map Entity.enc)),vb false,vi l.length,vi l.length],[]⟩
    |false=>⟨.ret,[.t (.sl 9 (l.map Entity.enc)),vb false,vi l.length,vi k],[]⟩):=by
 unfold small at hn
 intro d
 induction d with
 |zero=>
  intro i hi h1
  refine ⟨0,?_⟩
  rw [Agw (by omega)]
  refine Wp.ev ?_
  refine gg [.b (decide ((i:Int)<(↑(zq l):Int))) false] ⟨fP,trivial⟩ ?_
  refine rT (a:=qy (qh 0) [V.t (qp 9 (zz Entity.enc l)),vb false,vi (↑(zq l):Int),vi (i:Int)] []) ?_
  ((have hq:i=l.length:=by omega);subst hq;rfl)
 |succ d ih=>
  intro i hi h1
  have hlt:i<l.length:=by omega
  obtain ⟨k,ih1⟩:=ih (i+1) (by omega) (by omega)
  clear ih
  obtain ⟨j,rfl⟩: ∃j,i=j+1:=⟨i-1,by omega⟩
  simp only [Nat.add_sub_cancel] at*
  rw [Ah4 hlt]
  by_cases hp:(gt l j).id<(gt l (j+1)).id
  ·simp only [hp,decide_true,Bool.true_and]
   refine ⟨k,?_⟩
   cases hq:sortedL (l.drop (j+1)) with
   |true=>
    rw [hq] at ih1
    refine Wp.ev ?_
    refine gg [.b (decide ((↑(j+1):Int)<(↑(zq l):Int))) true,.b (decide ((↑(j+1):Int)>0)) true,.tt,.tt,.w (0≤(↑(j+(1:Nat)):Int)),.n (zy (↑(j+1):Int)) (j+1),.g (zz Entity.enc l) (j+1) (Entity.enc (gt l (j+1))),.tt,.tt,.tt,.tt,.i zd ((↑(j+1):Int)-1) ((↑(j+1):Int)-1),.tt,.w (0≤(↑(j+(1:Nat)):Int)-(1:Int)),.n (zy ((↑(j+1):Int)-1)) j,.g (zz Entity.enc l) j (Entity.enc (gt l j))] ⟨tP,tP,oW,nK,o_gt rfl (by assumption) (by intro h;cases h),oI,oW,oN,oT,trivial⟩ ?_
    refine gg [.tt,.tt,.tt,.tt,.tt,.b (decide ((gt l (j+1)).id≤(gt l j).id)) false,.i zd ((↑(j+1):Int)+1) ((↑(j+1+1):Int)),.a _ _] ⟨fP,oI,o_a ih1,trivial⟩ ?_
    exact ge
   |false=>
    rw [hq] at ih1
    refine Wp.ev ?_
    refine gg [.b (decide ((↑(j+1):Int)<(↑(zq l):Int))) true,.b (decide ((↑(j+1):Int)>0)) true,.tt,.tt,.w (0≤(↑(j+(1:Nat)):Int)),.n (zy (↑(j+1):Int)) (j+1),.g (zz Entity.enc l) (j+1) (Entity.enc (gt l (j+1))),.tt,.tt,.tt,.tt,.i zd ((↑(j+1):Int)-1) ((↑(j+1):Int)-1),.tt,.w (0≤(↑(j+(1:Nat)):Int)-(1:Int)),.n (zy ((↑(j+1):Int)-1)) j,.g (zz Entity.enc l) j (Entity.enc (gt l j))] ⟨tP,tP,oW,nK,o_gt rfl (by assumption) (by intro h;cases h),oI,oW,oN,oT,trivial⟩ ?_
    refine gg [.tt,.tt,.tt,.tt,.tt,.b (decide ((gt l (j+1)).id≤(gt l j).id)) false,.i zd ((↑(j+1):Int)+1) ((↑(j+1+1):Int)),.a _ _] ⟨fP,oI,o_a ih1,trivial⟩ ?_
    exact ge
  ·simp only [hp,decide_false,Bool.false_and]
   refine ⟨j+1,?_⟩
   refine Wp.ev ?_
   refine gg [.b (decide ((↑(j+1):Int)<(↑(zq l):Int))) true,.b (decide ((↑(j+1):Int)>0)) true,.tt,.tt,.w (0≤(↑(j+(1:Nat)):Int)),.n (zy (↑(j+1):Int)) (j+1),.g (zz Entity.enc l) (j+1) (Entity.enc (gt l (j+1))),.tt,.tt,.tt,.tt,.i zd ((↑(j+1):Int)-1) ((↑(j+1):Int)-1),.tt,.w (0≤(↑(j+(1:Nat)):Int)-(1:Int)),.n (zy ((↑(j+1):Int)-1)) j,.g (zz Entity.enc l) j (Entity.enc (gt l j))] ⟨tP,tP,oW,nK,o_gt rfl (by assumption) (by intro h;cases h),oI,oW,oN,oT,trivial⟩ ?_
   refine gg [.tt,.tt,.tt,.tt,.tt,.b (decide ((gt l (j+1)).id≤(gt l j).id)) true] ⟨tP,trivial⟩ ?_
   exact ge
theorem Adc (l:List Entity) (hn:small l):Fn cx 182 [.sl 9 (l.map Entity.enc)] (.bool (sortedL l)):=by
 have hn':l.length≤1000000:=hn
 have hz:l.length=0→Is cx (.loop 182 [0,1,0,1] 0 [.t (.sl 9 (l.map Entity.enc)),vb false,vi l.length,vi 0] []) ⟨.exit 0,[.t (.sl 9 (l.map Entity.enc)),vb false,vi l.length,vi l.length],[]⟩:=by
  intro h0
  rw [h0]
  refine Wp.ev ?_
  refine gg [.b (decide (0<0)) false] ⟨bK,trivial⟩ ?_
  exact ge
 by_cases h0:l.length=0
 ·have h:=hz h0
  have:l= []:=List.length_eq_zero_iff.1 h0
  subst this
  refine Wp.ev ?_
  refine gg [.l 0,.a _ _] ⟨o_a (hz (by kernel_rfl)),trivial⟩ ?_
  exact ge
 ·clear hz
  obtain ⟨k,h⟩:=AbE l hn (l.length-1) 1 (by omega) (by omega)
  simp only [Nat.sub_self,List.drop_zero] at h
  have hz:Is cx (.loop 182 [0,1,0,1] 0 [.t (.sl 9 (l.map Entity.enc)),vb false,vi l.length,vi 0] []) (match sortedL l with
    |true=>⟨.exit 0,[.t (.sl 9 (l.map Entity.enc)),vb false,vi l.length,vi l.length],[]⟩
    |false=>⟨.ret,[.t (.sl 9 (l.map Entity.enc)),vb false,vi l.length,vi k],[]⟩):=by
   cases hq:sortedL l with
   |true=>
    rw [hq] at h
    refine Wp.ev ?_
    refine gg [.b (decide (0<(↑(zq l):Int))) true,.b (decide (0>0)) false,.ff,.ff,.ff,.ff,.ff,.ff,.ff,.ff,.ff,.ff,.ff,.ff,.ff,.i zd 1 1] ⟨tP,bK,oK,trivial⟩ ?_
    refine gg [.a _ _] ⟨o_a h,trivial⟩ ?_
    exact ge
   |false=>
    rw [hq] at h
    refine Wp.ev ?_
    refine gg [.b (decide (0<(↑(zq l):Int))) true,.b (decide (0>0)) false,.ff,.ff,.ff,.ff,.ff,.ff,.ff,.ff,.ff,.ff,.ff,.ff,.ff,.i zd 1 1] ⟨tP,bK,oK,trivial⟩ ?_
    refine gg [.a _ _] ⟨o_a h,trivial⟩ ?_
    exact ge
  clear h
  cases hq:sortedL l with
  |true=>
   rw [hq] at hz
   refine Wp.ev ?_
   refine gg [.n (zq (zz Entity.enc l)) (zq l),.a _ _] ⟨o_n (by simp),o_a hz,trivial⟩ ?_
   exact ge
  |false=>
   rw [hq] at hz
   refine Wp.ev ?_
   refine gg [.n (zq (zz Entity.enc l)) (zq l),.a _ _] ⟨o_n (by simp),o_a hz,trivial⟩ ?_
   exact ge
theorem Abf (l:List Int) (x:Int) (hn:small l): ∀(d i:Nat),i+d=l.length→
  Is cx (.loop 214 [0,1,0,1] 0 [.t (.sl 1 (l.map ti)),vi x,vi 0,vi l.length,vi i] [])
   (match (l.drop i).findIdx? fun y=>x==y with
    |some j=>⟨.ret,[.t (.sl 1 (l.map ti)),vi x,vi (i+j:Nat),vi l.length,vi (i+j:Nat)],[]⟩
    |none=>⟨.exit 0,[.t (.sl 1 (l.map ti)),vi x,vi 0,vi l.length,vi l.length],[]⟩):=by
 unfold small at hn
 intro d
 induction d with
 |zero=>
  intro i hi
  refine Wp.ev ?_
  refine gg [.b (decide ((i:Int)<(↑(zq l):Int))) false] ⟨fP,trivial⟩ ?_
  refine rT (a:=qy (qh 0) [V.t (qp 1 (zz ti l)),vi x,vi 0,vi (↑(zq l):Int),vi (i:Int)] []) ?_
  ((have:i=l.length:=by omega);subst this;rw [AbT (Nat.le_refl _)];rfl)
 |succ d ih=>
  intro i hi
  have hlt:i<l.length:=by omega
  have ih1:=ih (i+1) (by omega)
  clear ih
  rw [Ac9 hlt,List.findIdx?_cons]
  by_cases hp:x=gt l i
  ·simp only [show (x==gt l i)=true by simpa using hp,if_true]
   refine Wp.ev ?_
   refine gg [.b (decide ((i:Int)<(↑(zq l):Int))) true,.w (0≤(i:Int)),.n (zy (i:Int)) i,.g (zz ti l) i (ti (gt l i)),.b (x==gt l i) true] ⟨tP,oW,nK,o_gt rfl (by assumption) (by intro h;cases h),t_bre (by assumption),trivial⟩ ?_
   exact ge
  ·simp only [show (x==gt l i)=false by simpa using hp,Bool.false_eq_true,if_false]
   cases hq:(l.drop (i+1)).findIdx? fun y=>x==y with
   |none=>
    rw [hq] at ih1
    refine Wp.ev ?_
    refine gg [.b (decide ((i:Int)<(↑(zq l):Int))) true,.w (0≤(i:Int)),.n (zy (i:Int)) i,.g (zz ti l) i (ti (gt l i)),.b (x==gt l i) false,.i zd ((i:Int)+1) ((↑(i+1):Int)),.a _ _] ⟨tP,oW,nK,o_gt rfl (by assumption) (by intro h;cases h),f_bre (by assumption),oI,o_a ih1,trivial⟩ ?_
    exact ge
   |some j=>
    rw [hq] at ih1
    refine Wp.ev ?_
    refine gg [.b (decide ((i:Int)<(↑(zq l):Int))) true,.w (0≤(i:Int)),.n (zy (i:Int)) i,.g (zz ti l) i (ti (gt l i)),.b (x==gt l i) false,.i zd ((i:Int)+1) ((↑(i+1):Int)),.a _ _] ⟨tP,oW,nK,o_gt rfl (by assumption) (by intro h;cases h),f_bre (by assumption),oI,o_a ih1,trivial⟩ ?_
    refine rT (a:=qy qg [V.t (qp 1 (zz ti l)),vi x,vi (↑(i+1+j):Int),vi (↑(zq l):Int),vi (↑(i+1+j):Int)] []) ?_
    simp [Nat.add_assoc,Nat.add_comm 1 j]
theorem Acg (l:List Int) (x:Int) (hn:small l):Fn cx 214 [.sl 1 (l.map ti),ti x] (ti (pos (fun y=>x==y) l)):=by
 have h:=Abf l x hn l.length 0 (by omega)
 rw [List.drop_zero] at h
 unfold pos
 cases hq:l.findIdx? fun y=>x==y with
 |none=>
  rw [hq] at h
  refine Wp.ev ?_
  refine gg [.n (zq (zz ti l)) (zq l),.a _ _] ⟨o_n (by simp),o_a h,trivial⟩ ?_
  exact ge
 |some j=>
  rw [hq] at h
  refine Wp.ev ?_
  refine gg [.n (zq (zz ti l)) (zq l),.a _ _] ⟨o_n (by simp),o_a h,trivial⟩ ?_
  refine rT (a:=qy qg [vi (↑(0+j):Int)] []) ?_
  simp
theorem Abw (l:List Int) (x:Int) (hn:small l):Fn cx 149 [.sl 1 (l.map ti),ti x] (.bool (has l x)):=by
 have h:=Acg l x hn
 rw [←AiU]
 generalize pos (fun y=>x==y) l=k at*
 refine Wp.ev ?_
 refine gg [.a _ _] ⟨o_a h,trivial⟩ ?_
 exact ge
theorem AbF (l:List Entity) (hn:small l): ∀(d i n:Nat),i+d=l.length→n≤i→
  Is cx (.loop 183 [0,1,0,1,1] 0 [vi n,.t (.sl 9 (l.map Entity.enc)),vi l.length,vi i] []) ⟨.exit 0,[vi (n+(l.drop i).countP fun e=>e.kind !=1:Nat),.t (.sl 9 (l.map Entity.enc)),vi l.length,vi l.length],[]⟩:=by
 unfold small at hn
 intro d
 induction d with
 |zero=>
  intro i n hi hm
  rw [AbT (by omega)]
  refine Wp.ev ?_
  refine gg [.b (decide ((i:Int)<(↑(zq l):Int))) false] ⟨fP,trivial⟩ ?_
  refine rT (a:=qy (qh 0) [vi (n:Int),V.t (qp 9 (zz Entity.enc l)),vi (↑(zq l):Int),vi (i:Int)] []) ?_
  ((have hq:i=l.length:=by omega);subst hq;rfl)
 |succ d ih=>
  intro i n hi hm
  have hlt:i<l.length:=by omega
  have ih1:=ih (i+1) n (by omega) (by omega)
  have ih2:=ih (i+1) (n+1) (by omega) (by omega)
  clear ih
  rw [AhO _ hlt]
  refine Wp.ev ?_
  refine gg [.b (decide ((i:Int)<(↑(zq l):Int))) true,.w (0≤(i:Int)),.n (zy (i:Int)) i,.g (zz Entity.enc l) i (Entity.enc (gt l i))] ⟨tP,oW,nK,o_gt rfl (by assumption) (by intro h;cases h),trivial⟩ ?_
  refine brn (x:=(gt l i).kind) (y:=1) (by kernel_rfl) (fun h1=> ?_) (fun h1=> ?_)
  ·refine gg [.i zd ((n:Int)+1) ((↑(n+1):Int)),.i zd ((i:Int)+1) ((↑(i+1):Int)),.a _ _] ⟨oI,oI,o_a ih2,trivial⟩ ?_
   refine rT (a:=qy (qh 0) [vi (↑(n+1+List.countP (fun (e:Entity)↦e.kind !=1) (zk (i+1) l)):Int),V.t (qp 9 (zz Entity.enc l)),vi (↑(zq l):Int),vi (↑(zq l):Int)] []) ?_
   (simp_all;try omega)
  ·refine gg [.i zd ((i:Int)+1) ((↑(i+1):Int)),.a _ _] ⟨oI,o_a ih1,trivial⟩ ?_
   refine rT (a:=qy (qh 0) [vi (↑(n+List.countP (fun (e:Entity)↦e.kind !=1) (zk (i+1) l)):Int),V.t (qp 9 (zz Entity.enc l)),vi (↑(zq l):Int),vi (↑(zq l):Int)] []) ?_
   (simp_all;try omega)
theorem AcX (l:List Entity) (hn:small l):Fn cx 183 [.sl 9 (l.map Entity.enc)] (ti (things l)):=by
 have h:=AbF l hn l.length 0 0 (by omega) (by omega)
 rw [List.drop_zero,Nat.zero_add] at h
 refine Wp.ev ?_
 refine gg [.n (zq (zz Entity.enc l)) (zq l),.a _ _] ⟨o_n (by simp),o_a h,trivial⟩ ?_
 exact ge
end Go.Eva.S8
namespace Go.Eva
def pace (v:Int):Bool:=decide (v=0)||decide (v=160)||decide (v= -160)
def Entity.right (c:Config) (e:Entity):Bool:=c.inside e.x e.y&&
 (if e.kind=1 then within e.id 1 c.players&&within e.vx (-64) 64&&within e.vy (-64) 64&&within e.health 1 100&&within e.age 0 6&&decide (e.owner=0)
  else if e.kind=2 then within e.id 1000 2147483647&&decide (e.health=1)&&pace e.vx&&pace e.vy&&(!decide (e.vx=0)|| !decide (e.vy=0))&&within e.age 0 12&&within e.owner 1 c.players
  else if e.kind=3 then within e.id 1000 2147483647&&decide (e.health=1)&&decide (e.vx=0)&&decide (e.vy=0)&&decide (e.age=0)&&decide (e.owner=0)
  else false)
theorem beqd (a b:Int):(a==b)=decide (a=b):=by rw [Bool.eq_iff_iff];simp
theorem bned (a b:Int):(a !=b)= !decide (a=b):=by rw [Bool.eq_iff_iff];simp
theorem Ahx {a b:Entity}:teq a.enc b.enc=decide (a=b):=by rw [Bool.eq_iff_iff,teqIff,Entity.enc_inj,decide_eq_true_eq]
end Go.Eva
namespace Go.Eva.S8
end Go.Eva.S8
namespace Go.Eva.S8
theorem Aca (v:Int):Fn cx 216 [ti v] (.bool (pace v)):=by
 refine Wp.ev ?_
 refine bre (x:=v) (y:=0) (by kernel_rfl) (fun h1=> ?_) (fun h1=> ?_)
 ·refine gg [.tt,.tt,.tt,.tt,.tt] trivial ?_
  refine rT (a:=qy qg [vb true] []) ?_
  simp_all [pace,beqd]
 ·refine gg [.ff,.ff] trivial ?_
  refine bre (x:=v) (y:=160) (by kernel_rfl) (fun h2=> ?_) (fun h2=> ?_)
  ·refine gg [.tt,.tt] trivial ?_
   refine rT (a:=qy qg [vb true] []) ?_
   simp_all [pace,beqd]
  ·refine gg [.ff,.ff] trivial ?_
   refine rT (a:=qy qg [vb (v== -160)] []) ?_
   simp_all [pace,beqd]
theorem AbG (c:Config) (e:Entity):Fn cx 150 [c.enc,e.enc] (.bool (e.right c)):=by
 refine Wp.ev ?_
 refine gg [.a _ _] ⟨o_a (Acl c e.x e.y),trivial⟩ ?_
 refine brnot (b:=Config.inside c e.x e.y) (by kernel_rfl) (fun h1=> ?_) (fun h1=> ?_)
 ·refine rT (a:=qy qg [vb false] []) ?_
  simp_all [Entity.right,beqd,bned]
 ·refine gg [.a _ _] ⟨o_a (Aad e.id 1000 2147483647),trivial⟩ ?_
  refine br (b:=within e.id 1000 2147483647) (by kernel_rfl) (fun h2=> ?_) (fun h2=> ?_)
  ·refine gg [.tt,.tt,.tt] trivial ?_
   refine bre (x:=e.kind) (y:=1) (by kernel_rfl) (fun h3=> ?_) (fun h3=> ?_)
   ·refine gg [.a _ _] ⟨o_a (Aad e.id 1 c.players),trivial⟩ ?_
    refine br (b:=within e.id 1 c.players) (by kernel_rfl) (fun h4=> ?_) (fun h4=> ?_)
    ·refine gg [.tt,.tt,.a _ _,.tt] ⟨o_a (Aad e.vx (-64) 64),trivial⟩ ?_
     refine br (b:=within e.vx (-64) 64) (by kernel_rfl) (fun h5=> ?_) (fun h5=> ?_)
     ·refine gg [.tt,.tt,.a _ _,.tt] ⟨o_a (Aad e.vy (-64) 64),trivial⟩ ?_
      refine br (b:=within e.vy (-64) 64) (by kernel_rfl) (fun h6=> ?_) (fun h6=> ?_)
      ·refine gg [.tt,.tt,.a _ _,.tt] ⟨o_a (Aad e.health 1 100),trivial⟩ ?_
       refine br (b:=within e.health 1 100) (by kernel_rfl) (fun h7=> ?_) (fun h7=> ?_)
       ·refine gg [.tt,.tt,.a _ _,.tt] ⟨o_a (Aad e.age 0 6),trivial⟩ ?_
        refine br (b:=within e.age 0 6) (by kernel_rfl) (fun h8=> ?_) (fun h8=> ?_)
        ·refine gg [.tt,.tt,.tt] trivial ?_
         refine rT (a:=qy qg [vb (e.owner==0)] []) ?_
         simp_all [Entity.right,beqd,bned]
        ·refine gg [.ff,.ff,.ff] trivial ?_
         refine rT (a:=qy qg [vb false] []) ?_
         simp_all [Entity.right,beqd,bned]
       ·refine gg [.ff,.ff,.ff,.ff,.ff,.ff,.ff] trivial ?_
        refine rT (a:=qy qg [vb false] []) ?_
        simp_all [Entity.right,beqd,bned]
      ·refine gg [.ff,.ff,.ff,.ff,.ff,.ff,.ff,.ff,.ff,.ff,.ff] trivial ?_
       refine rT (a:=qy qg [vb false] []) ?_
       simp_all [Entity.right,beqd,bned]
     ·refine gg [.ff,.ff,.ff,.ff,.ff,.ff,.ff,.ff,.ff,.ff,.ff,.ff,.ff,.ff,.ff] trivial ?_
      refine rT (a:=qy qg [vb false] []) ?_
      simp_all [Entity.right,beqd,bned]
    ·refine gg [.ff,.ff,.ff,.ff,.ff,.ff,.ff,.ff,.ff,.ff,.ff,.ff,.ff,.ff,.ff,.ff] trivial ?_
     refine gg [.ff,.ff,.ff] trivial ?_
     refine rT (a:=qy qg [vb false] []) ?_
     simp_all [Entity.right,beqd,bned]
   ·refine bre (x:=e.kind) (y:=2) (by kernel_rfl) (fun h4=> ?_) (fun h4=> ?_)
    ·refine bre (x:=e.health) (y:=1) (by kernel_rfl) (fun h5=> ?_) (fun h5=> ?_)
     ·refine gg [.tt,.tt,.a _ _,.tt] ⟨o_a (Aca e.vx),trivial⟩ ?_
      refine br (b:=pace e.vx) (by kernel_rfl) (fun h6=> ?_) (fun h6=> ?_)
      ·refine gg [.tt,.tt,.a _ _,.tt] ⟨o_a (Aca e.vy),trivial⟩ ?_
       refine br (b:=pace e.vy) (by kernel_rfl) (fun h7=> ?_) (fun h7=> ?_)
       ·refine gg [.tt,.tt,.tt] trivial ?_
        refine brn (x:=e.vx) (y:=0) (by kernel_rfl) (fun h8=> ?_) (fun h8=> ?_)
        ·refine gg [.tt,.tt,.tt,.tt,.tt,.tt,.tt,.tt,.a _ _,.tt] ⟨o_a (Aad e.age 0 12),trivial⟩ ?_
         refine br (b:=within e.age 0 12) (by kernel_rfl) (fun h9=> ?_) (fun h9=> ?_)
         ·refine gg [.tt,.tt,.tt,.tt,.tt,.a _ _,.tt] ⟨o_a (Aad e.owner 1 c.players),trivial⟩ ?_
          refine rT (a:=qy qg [vb (within e.owner 1 c.players)] []) ?_
          simp_all [Entity.right,beqd,bned]
         ·refine gg [.ff,.ff,.ff,.ff,.ff,.ff] trivial ?_
          refine rT (a:=qy qg [vb false] []) ?_
          simp_all [Entity.right,beqd,bned]
        ·refine gg [.ff,.ff,.tt,.ff,.tt] trivial ?_
         refine brn (x:=e.vy) (y:=0) (by kernel_rfl) (fun h9=> ?_) (fun h9=> ?_)
         ·refine gg [.tt,.tt,.a _ _,.tt] ⟨o_a (Aad e.age 0 12),trivial⟩ ?_
          refine br (b:=within e.age 0 12) (by kernel_rfl) (fun h10=> ?_) (fun h10=> ?_)
          ·refine gg [.tt,.tt,.tt,.tt,.tt,.a _ _,.tt] ⟨o_a (Aad e.owner 1 c.players),trivial⟩ ?_
           refine rT (a:=qy qg [vb (within e.owner 1 c.players)] []) ?_
           simp_all [Entity.right,beqd,bned]
          ·refine gg [.ff,.ff,.ff,.ff,.ff,.ff] trivial ?_
           refine rT (a:=qy qg [vb false] []) ?_
           simp_all [Entity.right,beqd,bned]
         ·refine gg [.ff,.ff,.ff,.ff,.ff,.ff,.ff,.ff,.ff,.ff] trivial ?_
          refine rT (a:=qy qg [vb false] []) ?_
          simp_all [Entity.right,beqd,bned]
       ·refine gg [.ff,.ff,.ff,.ff,.ff,.ff,.ff,.ff,.ff,.ff,.ff,.ff,.ff,.ff,.ff,.ff] trivial ?_
        refine rT (a:=qy qg [vb false] []) ?_
        simp_all [Entity.right,beqd,bned]
      ·refine gg [.ff,.ff,.ff,.ff,.ff,.ff,.ff,.ff,.ff,.ff,.ff,.ff,.ff,.ff,.ff,.ff] trivial ?_
       refine gg [.ff,.ff,.ff,.ff] trivial ?_
       refine rT (a:=qy qg [vb false] []) ?_
       simp_all [Entity.right,beqd,bned]
     ·refine gg [.ff,.ff,.ff,.ff,.ff,.ff,.ff,.ff,.ff,.ff,.ff,.ff,.ff,.ff,.ff,.ff] trivial ?_
      refine gg [.ff,.ff,.ff,.ff,.ff,.ff,.ff,.ff] trivial ?_
      refine rT (a:=qy qg [vb false] []) ?_
      simp_all [Entity.right,beqd,bned]
    ·refine bre (x:=e.kind) (y:=3) (by kernel_rfl) (fun h5=> ?_) (fun h5=> ?_)
     ·refine bre (x:=e.health) (y:=1) (by kernel_rfl) (fun h6=> ?_) (fun h6=> ?_)
      ·refine gg [.tt,.tt,.tt] trivial ?_
       refine bre (x:=e.vx) (y:=0) (by kernel_rfl) (fun h7=> ?_) (fun h7=> ?_)
       ·refine gg [.tt,.tt,.tt] trivial ?_
        refine bre (x:=e.vy) (y:=0) (by kernel_rfl) (fun h8=> ?_) (fun h8=> ?_)
        ·refine gg [.tt,.tt,.tt] trivial ?_
         refine bre (x:=e.age) (y:=0) (by kernel_rfl) (fun h9=> ?_) (fun h9=> ?_)
         ·refine gg [.tt,.tt,.tt] trivial ?_
          refine rT (a:=qy qg [vb (e.owner==0)] []) ?_
          simp_all [Entity.right,beqd,bned]
         ·refine gg [.ff,.ff,.ff] trivial ?_
          refine rT (a:=qy qg [vb false] []) ?_
          simp_all [Entity.right,beqd,bned]
        ·refine gg [.ff,.ff,.ff,.ff,.ff,.ff,.ff] trivial ?_
         refine rT (a:=qy qg [vb false] []) ?_
         simp_all [Entity.right,beqd,bned]
       ·refine gg [.ff,.ff,.ff,.ff,.ff,.ff,.ff,.ff,.ff,.ff,.ff] trivial ?_
        refine rT (a:=qy qg [vb false] []) ?_
        simp_all [Entity.right,beqd,bned]
      ·refine gg [.ff,.ff,.ff,.ff,.ff,.ff,.ff,.ff,.ff,.ff,.ff,.ff,.ff,.ff,.ff] trivial ?_
       refine rT (a:=qy qg [vb false] []) ?_
       simp_all [Entity.right,beqd,bned]
     ·refine rT (a:=qy qg [vb false] []) ?_
      simp_all [Entity.right,beqd,bned]
  ·refine gg [.ff,.ff,.ff] trivial ?_
   refine bre (x:=e.kind) (y:=1) (by kernel_rfl) (fun h3=> ?_) (fun h3=> ?_)
   ·refine gg [.a _ _] ⟨o_a (Aad e.id 1 c.players),trivial⟩ ?_
    refine br (b:=within e.id 1 c.players) (by kernel_rfl) (fun h4=> ?_) (fun h4=> ?_)
    ·refine gg [.tt,.tt,.a _ _,.tt] ⟨o_a (Aad e.vx (-64) 64),trivial⟩ ?_
     refine br (b:=within e.vx (-64) 64) (by kernel_rfl) (fun h5=> ?_) (fun h5=> ?_)
     ·refine gg [.tt,.tt,.a _ _,.tt] ⟨o_a (Aad e.vy (-64) 64),trivial⟩ ?_
      refine br (b:=within e.vy (-64) 64) (by kernel_rfl) (fun h6=> ?_) (fun h6=> ?_)
      ·refine gg [.tt,.tt,.a _ _,.tt] ⟨o_a (Aad e.health 1 100),trivial⟩ ?_
       refine br (b:=within e.health 1 100) (by kernel_rfl) (fun h7=> ?_) (fun h7=> ?_)
       ·refine gg [.tt,.tt,.a _ _,.tt] ⟨o_a (Aad e.age 0 6),trivial⟩ ?_
        refine br (b:=within e.age 0 6) (by kernel_rfl) (fun h8=> ?_) (fun h8=> ?_)
        ·refine gg [.tt,.tt,.tt] trivial ?_
         refine rT (a:=qy qg [vb (e.owner==0)] []) ?_
         simp_all [Entity.right,beqd,bned]
        ·refine gg [.ff,.ff,.ff] trivial ?_
         refine rT (a:=qy qg [vb false] []) ?_
         simp_all [Entity.right,beqd,bned]
       ·refine gg [.ff,.ff,.ff,.ff,.ff,.ff,.ff] trivial ?_
        refine rT (a:=qy qg [vb false] []) ?_
        simp_all [Entity.right,beqd,bned]
      ·refine gg [.ff,.ff,.ff,.ff,.ff,.ff,.ff,.ff,.ff,.ff,.ff] trivial ?_
       refine rT (a:=qy qg [vb false] []) ?_
       simp_all [Entity.right,beqd,bned]
     ·refine gg [.ff,.ff,.ff,.ff,.ff,.ff,.ff,.ff,.ff,.ff,.ff,.ff,.ff,.ff,.ff] trivial ?_
      refine rT (a:=qy qg [vb false] []) ?_
      simp_all [Entity.right,beqd,bned]
    ·refine gg [.ff,.ff,.ff,.ff,.ff,.ff,.ff,.ff,.ff,.ff,.ff,.ff,.ff,.ff,.ff,.ff] trivial ?_
     refine gg [.ff,.ff,.ff] trivial ?_
     refine rT (a:=qy qg [vb false] []) ?_
     simp_all [Entity.right,beqd,bned]
   ·refine bre (x:=e.kind) (y:=2) (by kernel_rfl) (fun h4=> ?_) (fun h4=> ?_)
    ·refine gg [.ff,.ff,.ff,.ff,.ff,.ff,.ff,.ff,.ff,.ff,.ff,.ff,.ff,.ff,.ff,.ff] trivial ?_
     refine gg [.ff,.ff,.ff,.ff,.ff,.ff,.ff,.ff,.ff] trivial ?_
     refine rT (a:=qy qg [vb false] []) ?_
     simp_all [Entity.right,beqd,bned]
    ·refine bre (x:=e.kind) (y:=3) (by kernel_rfl) (fun h5=> ?_) (fun h5=> ?_)
     ·refine gg [.ff,.ff,.ff,.ff,.ff,.ff,.ff,.ff,.ff,.ff,.ff,.ff,.ff,.ff,.ff,.ff] trivial ?_
      refine rT (a:=qy qg [vb false] []) ?_
      simp_all [Entity.right,beqd,bned]
     ·refine rT (a:=qy qg [vb false] []) ?_
      simp_all [Entity.right,beqd,bned]
end Go.Eva.S8
namespace Go.Eva
abbrev Srt (l:List Entity):Prop:=l.Pairwise fun a b=>a.id<b.id
theorem Adz: ∀ {l:List Entity},sortedL l=true↔Srt l
 | []=>by simp [sortedL]
 | [a]=>by simp [sortedL]
 |a::b::r=>by
  rw [sortedL,Bool.and_eq_true,decide_eq_true_eq,@Adz (b::r),Srt,Srt,List.pairwise_cons (a:=a)]
  constructor
  ·rintro ⟨h1,h2⟩
   refine ⟨fun x hx=> ?_,h2⟩
   rcases List.mem_cons.1 hx with rfl|hx
   ·exact h1
   ·have:=(List.pairwise_cons.1 h2).1 x hx;omega
  ·rintro ⟨h1,h2⟩
   exact ⟨h1 b (List.mem_cons_self ..),h2⟩
theorem Ah7 {e:Entity}:ins [] e= [e]:=rfl
theorem AiC {y e:Entity} {l:List Entity} (h:e.id≤y.id):ins (y::l) e=e::y::l:=by
 unfold ins
 rw [List.findIdx?_cons,show decide (y.id≥e.id)=true by simpa using h]
 rfl
theorem Ai3 {y e:Entity} {l:List Entity} (h:y.id<e.id):ins (y::l) e=y::ins l e:=by
 unfold ins
 rw [List.findIdx?_cons,show decide (y.id≥e.id)=false by simpa using h]
 cases l.findIdx? fun x=>decide (x.id≥e.id)<;>simp
theorem Afa {e x:Entity}: ∀ {l:List Entity},x∈ins l e↔x=e∨x∈l
 | []=>by simp [Ah7]
 |y::l=>by
  rcases Int.lt_or_le y.id e.id with h|h
  ·rw [Ai3 h,List.mem_cons,Afa,List.mem_cons]
   constructor<;>(intro h;rcases h with h|h|h<;>simp [h])
  ·rw [AiC h];simp
theorem AdK {e:Entity}: ∀ {l:List Entity},Srt l→(∀x∈l,x.id≠e.id)→Srt (ins l e)
 | [],_,_=>by simp [Ah7,Srt]
 |y::l,h,hne=>by
  obtain ⟨h1,h2⟩:=List.pairwise_cons.1 h
  rcases Int.lt_or_le y.id e.id with hy|hy
  ·rw [Ai3 hy]
   refine List.pairwise_cons.2 ⟨fun x hx=> ?_,AdK h2 fun x hx=>hne x (List.mem_cons_of_mem _ hx)⟩
   rcases Afa.1 hx with rfl|hx
   ·exact hy
   ·exact h1 x hx
  ·rw [AiC hy]
   have hyy:=hne y (List.mem_cons_self ..)
   refine List.pairwise_cons.2 ⟨fun x hx=> ?_,h⟩
   rcases List.mem_cons.1 hx with rfl|hx
   ·omega
   ·have:=h1 x hx;omega
theorem no_id {l:List Entity} {id:Int} (h:l.findIdx? (fun x=>x.id==id)=none): ∀x∈l,x.id≠id:=by
 intro x hx
 have:=List.findIdx?_eq_none_iff.1 h x hx
 simpa using this
theorem Adn {l:List Entity} {e:Entity} (h:Srt l):Srt (put1 l e):=by
 unfold put1
 split
 ·exact h
 ·rename_i hq;exact AdK h (no_id hq)
theorem Adu {l:List Entity}:(l.countP fun e=>e.kind !=1)+(l.countP fun e=>e.kind==1)=l.length:=by
 induction l with
 |nil=>rfl
 |cons e l ih=>
  simp only [List.countP_cons,List.length_cons]
  by_cases h:e.kind=1
  ·simp [h];omega
  ·simp [h];omega
theorem drop_drop {l:List Entity} {id:Int}:drops (drops l [id]) [id,id]=drops l [id]:=by
 unfold drops
 rw [List.filter_filter]
 congr 1
 funext x
 simp [has]
end Go.Eva
namespace Go.Eva
def u1 (n k:Int):Int:=1+(IntKind.u64.wrap n).tmod k
def Config.play (c:Config):Config:=if c.right=true∧c.cols≤3∧c.rows≤3∧c.players≤4 then c else ⟨u1 c.cols 3,u1 c.rows 3,u1 c.players 4,u1 c.window 8,c.seed⟩
theorem Ag1 {n:Int}:0≤IntKind.u64.wrap n:=by simp [zp,IntKind.bits,IntKind.signed];omega
theorem Aa6 {n k:Int} (hk:0<k):0≤(IntKind.u64.wrap n).tmod k∧(IntKind.u64.wrap n).tmod k<k:=AaL hk Ag1
theorem Config.play_ok {c:Config}:c.play.right=true∧(1≤c.play.cols∧c.play.cols≤3)∧(1≤c.play.rows∧c.play.rows≤3)∧(1≤c.play.players∧c.play.players≤4)∧1≤c.play.window∧c.play.window≤16:=by
 unfold Config.play
 split
 ·rename_i h
  have:=Config.right_iff.1 h.1
  exact ⟨h.1,by omega,by omega,by omega,by omega⟩
 ·have h1:= @Aa6 c.cols 3 (by decide)
  have h2:= @Aa6 c.rows 3 (by decide)
  have h3:= @Aa6 c.players 4 (by decide)
  have h4:= @Aa6 c.window 8 (by decide)
  simp only [Config.right_iff,u1]
  omega
end Go.Eva
namespace Go.Eva
def cmpI (x y:Int):Int:=if x<y then-1 else if x>y then 1 else 0
def orI:List Int→Int
 | []=>0
 |x::r=>if x≠0 then x else orI r
def Cross.cmp (a b:Cross):Int:=
 if orI [cmpI a.to b.to,cmpI a.kind b.kind]≠0 then orI [cmpI a.to b.to,cmpI a.kind b.kind]
 else if a.kind=1 then cmpI a.ent.id b.ent.id
 else orI [cmpI a.x b.x,cmpI a.y b.y]
def Cross.less (a b:Cross):Bool:=decide (a.cmp b<0)
def toL (l:List Cross) (r:Int):List Cross:=l.filter fun c=>decide (c.to=r)
end Go.Eva
namespace Go.Eva
structure Swo {α:Type} (lt:α→α→Bool):Prop where
 asymm: ∀ {x y},lt x y=true→lt y x=false
 ntrans: ∀ {x y z},lt x y=false→lt y z=false→lt x z=false
section
variable {α:Type} {lt:α→α→Bool}
abbrev Sd (lt:α→α→Bool) (l:List α):Prop:=l.Pairwise fun a b=>lt b a=false
def eqv (lt:α→α→Bool) (x y:α):Bool:= !lt x y&& !lt y x
def StEq (lt:α→α→Bool) (s l:List α):Prop:= ∀x,s.filter (eqv lt x)=l.filter (eqv lt x)
theorem Swo.irr (h:Swo lt) (x:α):lt x x=false:=by
 cases hx:lt x x with
 |false=>rfl
 |true=>exact absurd (h.asymm hx) (by rw [hx];simp)
theorem Swo.trans (h:Swo lt) {x y z:α} (h1:lt x y=true) (h2:lt y z=true):lt x z=true:=by
 cases hx:lt x z with
 |true=>rfl
 |false=>
  have:=h.ntrans hx (h.asymm h2)
  rw [h1] at this
  contradiction
theorem Swo.lt_le (h:Swo lt) {x y z:α} (h1:lt x y=true) (h2:lt z y=false):lt x z=true:=by
 cases hx:lt x z with
 |true=>rfl
 |false=>exact absurd (h.ntrans hx h2) (by rw [h1];simp)
theorem Aer (h:Swo lt) (x:α):eqv lt x x=true:=by simp [eqv,h.irr x]
theorem StEq.refl (l:List α):StEq lt l l:=fun _=>rfl
theorem StEq.symm {s l:List α} (h:StEq lt s l):StEq lt l s:=fun x=>(h x).symm
theorem StEq.trans {s l m:List α} (h:StEq lt s l) (k:StEq lt l m):StEq lt s m:=fun x=>(h x).trans (k x)
theorem StEq.append {s l s' l':List α} (h:StEq lt s l) (k:StEq lt s' l'):StEq lt (s++s') (l++l'):=fun x=>by rw [List.filter_append,List.filter_append,h x,k x]
theorem StEq.nil {s:List α} (hw:Swo lt) (h:StEq lt s []):s= []:=by
 cases s with
 |nil=>rfl
 |cons x s=>
  have:=h x
  rw [List.filter_cons,if_pos (Aer hw x)] at this
  simp at this
theorem StEq.mem {s l:List α} (hw:Swo lt) (h:StEq lt s l) {x:α} (hx:x∈s):x∈l:=by
 have:x∈s.filter (eqv lt x):=List.mem_filter.2 ⟨hx,Aer hw x⟩
 rw [h x] at this
 exact (List.mem_filter.1 this).1
theorem uniq (hw:Swo lt): ∀ {s t:List α},Sd lt s→Sd lt t→StEq lt s t→s=t
 | [],t,_,_,h=>(h.symm.nil hw).symm
 |x::s,[],_,_,h=>h.nil hw
 |x::s,y::t,hs,ht,h=>by
  have hx:x∈y::t:=h.mem hw (List.mem_cons_self ..)
  have hy:y∈x::s:=h.symm.mem hw (List.mem_cons_self ..)
  obtain ⟨h1,h2⟩:=List.pairwise_cons.1 hs
  obtain ⟨h3,h4⟩:=List.pairwise_cons.1 ht
  have e1:lt x y=false:=by
   rcases List.mem_cons.1 hx with rfl|hx
   ·exact hw.irr _
   ·exact h3 x hx
  have e2:lt y x=false:=by
   rcases List.mem_cons.1 hy with rfl|hy
   ·exact hw.irr _
   ·exact h1 y hy
  have e3:eqv lt x y=true:=by simp [eqv,e1,e2]
  have:=h x
  rw [List.filter_cons,if_pos (Aer hw x),List.filter_cons,if_pos e3] at this
  obtain ⟨rfl,_⟩:=List.cons.inj this
  have h5:StEq lt s t:=by
   intro z
   have:=h z
   rw [List.filter_cons,List.filter_cons] at this
   split at this
   ·exact (List.cons.inj this).2
   ·exact this
  rw [uniq hw h2 h4 h5]
theorem StEq.swap (hw:Swo lt) {u v:List α} (h: ∀x∈v,∀y∈u,lt x y=true):StEq lt (u++v) (v++u):=by
 intro z
 rw [List.filter_append,List.filter_append]
 by_cases hu: ∃y∈u,eqv lt z y=true
 ·obtain ⟨y,hy,hzy⟩:=hu
  have:v.filter (eqv lt z)= []:=by
   rw [List.filter_eq_nil_iff]
   intro x hx hzx
   have hxy:=h x hx y hy
   simp only [eqv,Bool.and_eq_true,Bool.not_eq_true'] at hzy hzx
   have:=hw.ntrans hzx.2 hzy.1
   rw [hxy] at this
   contradiction
  rw [this];simp
 ·have:u.filter (eqv lt z)= []:=by
   rw [List.filter_eq_nil_iff]
   intro y hy hzy
   exact hu ⟨y,hy,hzy⟩
  rw [this];simp
def insS (lt:α→α→Bool):List α→α→List α
 | [],x=> [x]
 |y::l,x=>match lt x y with
  |true=>x::y::l
  |false=>y::insS lt l x
def sortS (lt:α→α→Bool) (l:List α):List α:=l.foldl (insS lt) []
theorem Agn {x z:α}: ∀ {l:List α},z∈insS lt l x↔z=x∨z∈l
 | []=>by simp [insS]
 |y::l=>by
  simp only [insS]
  cases lt x y with
  |true=>simp
  |false=>
   simp only [List.mem_cons,Agn]
   constructor<;>(intro h;rcases h with h|h|h<;>simp [h])
theorem AhW (hw:Swo lt) {x:α}: ∀ {l:List α},Sd lt l→Sd lt (insS lt l x)
 | [],_=>by simp [insS,Sd]
 |y::l,h=>by
  obtain ⟨h1,h2⟩:=List.pairwise_cons.1 h
  simp only [insS]
  cases hxy:lt x y with
  |true=>
   refine List.pairwise_cons.2 ⟨fun z hz=> ?_,h⟩
   rcases List.mem_cons.1 hz with rfl|hz
   ·exact hw.asymm hxy
   ·exact hw.ntrans (h1 z hz) (hw.asymm hxy)
  |false=>
   refine List.pairwise_cons.2 ⟨fun z hz=> ?_,AhW hw h2⟩
   rcases Agn.1 hz with rfl|hz
   ·exact hxy
   ·exact h1 z hz
theorem Ahy (hw:Swo lt) {x:α}: ∀ {l:List α},Sd lt l→StEq lt (insS lt l x) (l++ [x])
 | [],_=> .refl _
 |y::l,h=>by
  obtain ⟨h1,h2⟩:=List.pairwise_cons.1 h
  simp only [insS]
  cases hxy:lt x y with
  |true=>
   have:StEq lt ((y::l)++ [x]) ([x]++(y::l)):= .swap hw fun a ha b hb=>by
    simp at ha;subst ha
    rcases List.mem_cons.1 hb with rfl|hb
    ·exact hxy
    ·exact hw.lt_le hxy (h1 b hb)
   exact this.symm
  |false=>exact StEq.append (s:= [y]) (l:= [y]) (.refl _) (Ahy hw h2)
theorem AdZ (hw:Swo lt): ∀ {l acc:List α},Sd lt acc→Sd lt (l.foldl (insS lt) acc)∧StEq lt (l.foldl (insS lt) acc) (acc++l)
 | [],acc,h=>⟨h,by simpa using StEq.refl acc⟩
 |x::l,acc,h=>by
  obtain ⟨h1,h2⟩:=AdZ hw (l:=l) (AhW hw (x:=x) h)
  refine ⟨h1,h2.trans ?_⟩
  have:=StEq.append (Ahy hw (x:=x) h) (StEq.refl (lt:=lt) l)
  simpa using this
theorem Aiq (hw:Swo lt) (l:List α):Sd lt (sortS lt l):=(AdZ hw (by simp [Sd])).1
theorem Aia (hw:Swo lt) (l:List α):StEq lt (sortS lt l) l:=by
 have:=(AdZ hw (l:=l) (acc:= []) (by simp [Sd])).2
 simpa [sortS] using this
theorem Aiw (hw:Swo lt) {s l:List α} (h:Sd lt s) (k:StEq lt s l):s=sortS lt l:=uniq hw h (Aiq hw l) (k.trans (Aia hw l).symm)
theorem StEq.len (hw:Swo lt): ∀ {s l:List α},Sd lt s→StEq lt s l→s.length=l.length:=by
 intro s l hs h
 rw [Aiw hw hs h]
 have: ∀(l acc:List α),(l.foldl (insS lt) acc).length=acc.length+l.length:=by
  intro l
  induction l with
  |nil=>simp
  |cons x l ih=>
   intro acc
   have: ∀acc:List α,(insS lt acc x).length=acc.length+1:=by
    intro acc
    induction acc with
    |nil=>rfl
    |cons y acc ih=>simp only [insS];cases lt x y<;>simp [ih]
   simp [ih,this];omega
 simpa [sortS] using this l []
end
end Go.Eva
namespace Go.Eva
def Entity.cmp (a b:Entity):Int:=cmpI a.id b.id
def Entity.less (a b:Entity):Bool:=decide (a.cmp b<0)
def bs (P:Nat→Bool):Nat→Nat→Nat→Nat
 |0,i,_=>i
 |d+1,i,j=>if i<j then (match P ((i+j)/2) with|true=>bs P d ((i+j)/2+1) j|false=>bs P d i ((i+j)/2)) else i
section
variable {α:Type} [Inhabited α]
def sw (A:List α) (i j:Nat):List α:=(A.set i (gt A j)).set j (gt A i)
theorem Aju {A:List α} {i k:Nat} {x:α} (h:i<A.length):gt (A.set i x) k=if k=i then x else gt A k:=by
 unfold gt
 rw [List.getElem?_set]
 by_cases hk:i=k
 ·subst hk;simp [h]
 ·simp [hk,show¬k=i by omega]
def up:Nat→List α→Nat→List α
 |0,A,_=>A
 |n+1,A,k=>up n (sw A k (k+1)) (k+1)
def down:Nat→List α→Nat→List α
 |0,A,_=>A
 |n+1,A,k=>down n (sw A k (k-1)) (k-1)
end
end Go.Eva
namespace Go.Eva.S8
theorem Acd (c:Config):Fn cx 19 [c.enc] c.play.enc:=by
 have k1:= @Aa6 c.cols 3 (by decide)
 have k2:= @Aa6 c.rows 3 (by decide)
 have k3:= @Aa6 c.players 4 (by decide)
 have k4:= @Aa6 c.window 8 (by decide)
 refine Wp.ev ?_
 refine gg [.a _ _] ⟨o_a (Aas c),trivial⟩ ?_
 refine br (b:=Config.right c) (by kernel_rfl) (fun h1=> ?_) (fun h1=> ?_)
 ·refine gg [.tt,.tt,.tt] trivial ?_
  refine brp (p:=c.cols≤3) (by kernel_rfl) (fun h2=> ?_) (fun h2=> ?_)
  ·refine gg [.tt,.tt,.tt] trivial ?_
   refine brp (p:=c.rows≤3) (by kernel_rfl) (fun h3=> ?_) (fun h3=> ?_)
   ·refine gg [.tt,.tt,.tt] trivial ?_
    refine brp (p:=c.players≤4) (by kernel_rfl) (fun h4=> ?_) (fun h4=> ?_)
    ·refine rT (a:=qy qg [V.t (Config.enc c)] []) ?_
     (unfold Config.play;first|(rw [if_pos (by simp_all)];done)|(rw [if_pos (by simp_all)];rfl)|(rw [if_neg (by rintro ⟨q1,q2,q3,q4⟩;simp_all;try omega)];simp [Config.enc,u1];done))
    ·refine gg [.i zf c.cols (zp zf c.cols),.w ((3:Int)≠(0:Int)),.s (T.int zf (zg (zp zf c.cols) 3)),.i zd (zg (zp zf c.cols) 3) (zg (zp zf c.cols) 3),.i zd (1+zg (zp zf c.cols) 3) (1+zg (zp zf c.cols) 3),.i zf c.rows (zp zf c.rows),.w ((3:Int)≠(0:Int)),.s (T.int zf (zg (zp zf c.rows) 3)),.i zd (zg (zp zf c.rows) 3) (zg (zp zf c.rows) 3),.i zd (1+zg (zp zf c.rows) 3) (1+zg (zp zf c.rows) 3),.i zf c.players (zp zf c.players),.w ((4:Int)≠(0:Int)),.s (T.int zf (zg (zp zf c.players) 4)),.i zd (zg (zp zf c.players) 4) (zg (zp zf c.players) 4),.i zd (1+zg (zp zf c.players) 4) (1+zg (zp zf c.players) 4),.i zf c.window (zp zf c.window)] ⟨o_i rfl,o_w (by intro h;cases h),oI,oI,o_i rfl,o_w (by intro h;cases h),oI,oI,o_i rfl,o_w (by intro h;cases h),oI,oI,o_i rfl,trivial⟩ ?_
     refine gg [.w ((8:Int)≠(0:Int)),.s (T.int zf (zg (zp zf c.window) 8)),.i zd (zg (zp zf c.window) 8) (zg (zp zf c.window) 8),.i zd (1+zg (zp zf c.window) 8) (1+zg (zp zf c.window) 8)] ⟨o_w (by intro h;cases h),oI,oI,trivial⟩ ?_
     refine rT (a:=qy qg [V.t (T.agg [ti (1+zg (zp zf c.cols) 3),ti (1+zg (zp zf c.rows) 3),ti (1+zg (zp zf c.players) 4),ti (1+zg (zp zf c.window) 8),T.int zf c.seed])] []) ?_
     (unfold Config.play;first|(rw [if_pos (by simp_all)];done)|(rw [if_pos (by simp_all)];rfl)|(rw [if_neg (by rintro ⟨q1,q2,q3,q4⟩;simp_all;try omega)];simp [Config.enc,u1];done))
   ·refine gg [.ff,.ff,.ff,.ff,.i zf c.cols (zp zf c.cols),.w ((3:Int)≠(0:Int)),.s (T.int zf (zg (zp zf c.cols) 3)),.i zd (zg (zp zf c.cols) 3) (zg (zp zf c.cols) 3),.i zd (1+zg (zp zf c.cols) 3) (1+zg (zp zf c.cols) 3),.i zf c.rows (zp zf c.rows),.w ((3:Int)≠(0:Int)),.s (T.int zf (zg (zp zf c.rows) 3)),.i zd (zg (zp zf c.rows) 3) (zg (zp zf c.rows) 3),.i zd (1+zg (zp zf c.rows) 3) (1+zg (zp zf c.rows) 3),.i zf c.players (zp zf c.players),.w ((4:Int)≠(0:Int))] ⟨o_i rfl,o_w (by intro h;cases h),oI,oI,o_i rfl,o_w (by intro h;cases h),oI,oI,o_i rfl,o_w (by intro h;cases h),trivial⟩ ?_
    refine gg [.s (T.int zf (zg (zp zf c.players) 4)),.i zd (zg (zp zf c.players) 4) (zg (zp zf c.players) 4),.i zd (1+zg (zp zf c.players) 4) (1+zg (zp zf c.players) 4),.i zf c.window (zp zf c.window),.w ((8:Int)≠(0:Int)),.s (T.int zf (zg (zp zf c.window) 8)),.i zd (zg (zp zf c.window) 8) (zg (zp zf c.window) 8),.i zd (1+zg (zp zf c.window) 8) (1+zg (zp zf c.window) 8)] ⟨oI,oI,o_i rfl,o_w (by intro h;cases h),oI,oI,trivial⟩ ?_
    refine rT (a:=qy qg [V.t (T.agg [ti (1+zg (zp zf c.cols) 3),ti (1+zg (zp zf c.rows) 3),ti (1+zg (zp zf c.players) 4),ti (1+zg (zp zf c.window) 8),T.int zf c.seed])] []) ?_
    (unfold Config.play;first|(rw [if_pos (by simp_all)];done)|(rw [if_pos (by simp_all)];rfl)|(rw [if_neg (by rintro ⟨q1,q2,q3,q4⟩;simp_all;try omega)];simp [Config.enc,u1];done))
  ·refine gg [.ff,.ff,.ff,.ff,.ff,.ff,.ff,.ff,.i zf c.cols (zp zf c.cols),.w ((3:Int)≠(0:Int)),.s (T.int zf (zg (zp zf c.cols) 3)),.i zd (zg (zp zf c.cols) 3) (zg (zp zf c.cols) 3),.i zd (1+zg (zp zf c.cols) 3) (1+zg (zp zf c.cols) 3),.i zf c.rows (zp zf c.rows),.w ((3:Int)≠(0:Int)),.s (T.int zf (zg (zp zf c.rows) 3))] ⟨o_i rfl,o_w (by intro h;cases h),oI,oI,o_i rfl,o_w (by intro h;cases h),trivial⟩ ?_
   refine gg [.i zd (zg (zp zf c.rows) 3) (zg (zp zf c.rows) 3),.i zd (1+zg (zp zf c.rows) 3) (1+zg (zp zf c.rows) 3),.i zf c.players (zp zf c.players),.w ((4:Int)≠(0:Int)),.s (T.int zf (zg (zp zf c.players) 4)),.i zd (zg (zp zf c.players) 4) (zg (zp zf c.players) 4),.i zd (1+zg (zp zf c.players) 4) (1+zg (zp zf c.players) 4),.i zf c.window (zp zf c.window),.w ((8:Int)≠(0:Int)),.s (T.int zf (zg (zp zf c.window) 8)),.i zd (zg (zp zf c.window) 8) (zg (zp zf c.window) 8),.i zd (1+zg (zp zf c.window) 8) (1+zg (zp zf c.window) 8)] ⟨oI,oI,o_i rfl,o_w (by intro h;cases h),oI,oI,o_i rfl,o_w (by intro h;cases h),oI,oI,trivial⟩ ?_
   refine rT (a:=qy qg [V.t (T.agg [ti (1+zg (zp zf c.cols) 3),ti (1+zg (zp zf c.rows) 3),ti (1+zg (zp zf c.players) 4),ti (1+zg (zp zf c.window) 8),T.int zf c.seed])] []) ?_
   (unfold Config.play;first|(rw [if_pos (by simp_all)];done)|(rw [if_pos (by simp_all)];rfl)|(rw [if_neg (by rintro ⟨q1,q2,q3,q4⟩;simp_all;try omega)];simp [Config.enc,u1];done))
 ·refine gg [.ff,.ff,.ff,.ff,.ff,.ff,.ff,.ff,.ff,.ff,.ff,.ff,.i zf c.cols (zp zf c.cols),.w ((3:Int)≠(0:Int)),.s (T.int zf (zg (zp zf c.cols) 3)),.i zd (zg (zp zf c.cols) 3) (zg (zp zf c.cols) 3)] ⟨o_i rfl,o_w (by intro h;cases h),oI,trivial⟩ ?_
  refine gg [.i zd (1+zg (zp zf c.cols) 3) (1+zg (zp zf c.cols) 3),.i zf c.rows (zp zf c.rows),.w ((3:Int)≠(0:Int)),.s (T.int zf (zg (zp zf c.rows) 3)),.i zd (zg (zp zf c.rows) 3) (zg (zp zf c.rows) 3),.i zd (1+zg (zp zf c.rows) 3) (1+zg (zp zf c.rows) 3),.i zf c.players (zp zf c.players),.w ((4:Int)≠(0:Int)),.s (T.int zf (zg (zp zf c.players) 4)),.i zd (zg (zp zf c.players) 4) (zg (zp zf c.players) 4),.i zd (1+zg (zp zf c.players) 4) (1+zg (zp zf c.players) 4),.i zf c.window (zp zf c.window),.w ((8:Int)≠(0:Int)),.s (T.int zf (zg (zp zf c.window) 8)),.i zd (zg (zp zf c.window) 8) (zg (zp zf c.window) 8),.i zd (1+zg (zp zf c.window) 8) (1+zg (zp zf c.window) 8)] ⟨oI,o_i rfl,o_w (by intro h;cases h),oI,oI,o_i rfl,o_w (by intro h;cases h),oI,oI,o_i rfl,o_w (by intro h;cases h),oI,oI,trivial⟩ ?_
  refine rT (a:=qy qg [V.t (T.agg [ti (1+zg (zp zf c.cols) 3),ti (1+zg (zp zf c.rows) 3),ti (1+zg (zp zf c.players) 4),ti (1+zg (zp zf c.window) 8),T.int zf c.seed])] []) ?_
  (unfold Config.play;first|(rw [if_pos (by simp_all)];done)|(rw [if_pos (by simp_all)];rfl)|(rw [if_neg (by rintro ⟨q1,q2,q3,q4⟩;simp_all;try omega)];simp [Config.enc,u1];done))
end Go.Eva.S8
namespace Go.Eva
def colsL (base col:Int):Nat→List Int
 |0=> []
 |d+1=>(base+col)::colsL base (col+1) d
def rowsL (cols lo:Int) (w:Nat) (row:Int):Nat→List Int
 |0=> []
 |d+1=>colsL (row*cols) lo w++rowsL cols lo w (row+1) d
def loI (q:Int):Int:=maxI (q-1) 0
def hiI (q n:Int):Int:=minI (q+1) (n-1)
def nearP (cols rows r:Int):List Int:=
 rowsL cols (loI (r.tmod cols)) (hiI (r.tmod cols) cols+1-loI (r.tmod cols)).toNat (loI (r.tdiv cols)) (hiI (r.tdiv cols) rows+1-loI (r.tdiv cols)).toNat
def Config.near (c:Config) (r:Int):List Int:=if c.is r=true then nearP c.cols c.rows r else []
theorem Aiv {cols rows r:Int} (hc:1≤cols∧cols≤4) (hr:1≤rows∧rows≤4) (h:0≤r∧r<cols*rows):(nearP cols rows r).length≤9:=by
 have key: ∀a∈ [1,2,3,4],∀b∈ [1,2,3,4],∀k∈List.range (a*b),(nearP (a:Nat) (b:Nat) (k:Nat)).length≤9:=by decide+kernel
 obtain ⟨a,rfl⟩: ∃a:Nat,cols=a:=⟨cols.toNat,by omega⟩
 obtain ⟨b,rfl⟩: ∃b:Nat,rows=b:=⟨rows.toNat,by omega⟩
 obtain ⟨k,rfl⟩: ∃k:Nat,r=k:=⟨r.toNat,by omega⟩
 refine key a ?_ b ?_ k ?_
 ·have:a=1∨a=2∨a=3∨a=4:=by omega
  simpa using this
 ·have:b=1∨b=2∨b=3∨b=4:=by omega
  simpa using this
 ·rw [List.mem_range]
  have:=h.2
  exact_mod_cast this
theorem Config.is_iff {c:Config} {r:Int} (h:c.right=true):c.is r=true↔0≤r∧r<c.cols*c.rows:=by
 simp only [Config.is,AaJ,Config.regions,h,if_true];omega
theorem Config.is_right {c:Config} {r:Int} (h:c.is r=true):c.right=true:=by
 cases hr:c.right with
 |true=>rfl
 |false=>
  exfalso
  simp only [Config.is,AaJ,Config.regions,hr,Bool.false_eq_true,if_false] at h
  omega
theorem AgM {c:Config} {r:Int}:(c.near r).length≤9:=by
 unfold Config.near
 split
 ·rename_i h
  have hr:=Config.is_right h
  obtain ⟨hc,hrr,_⟩:=Config.right_iff.1 hr
  exact Aiv hc hrr ((Config.is_iff hr).1 h)
 ·simp
def Entity.zero:Entity:=⟨0,0,0,0,0,0,0,0,0⟩
def Cross.right (c:Config) (m:Cross):Bool:=has (c.near m.frm) m.to&&within m.frame 0 9999&&
 (if m.kind=1 then m.ent.right c&&decide (c.of m.ent.x m.ent.y=m.to)&&decide (m.x=0)&&decide (m.y=0)&& !decide (m.to=m.frm)
  else if m.kind=2 then c.inside m.x m.y&&decide (m.ent=Entity.zero) else false)
theorem Aa2 {e:Entity}:teq e.enc (.agg [ti 0,ti 0,ti 0,ti 0,ti 0,ti 0,ti 0,ti 0,ti 0])=decide (e=Entity.zero):=Ahx (b:=Entity.zero)
theorem teq_zero' {e:Entity}:teq (.agg [ti e.id,ti e.kind,ti e.x,ti e.y,ti e.vx,ti e.vy,ti e.health,ti e.age,ti e.owner]) (.agg [ti 0,ti 0,ti 0,ti 0,ti 0,ti 0,ti 0,ti 0,ti 0])=decide (e=Entity.zero):=Ahx (b:=Entity.zero)
end Go.Eva
namespace Go.Eva.S8
theorem Ac0 (c:Config) (r q H row:Int) (hc:1≤c.cols∧c.cols≤4) (hq:r.tmod c.cols=q) (hH:minI (q+1) (c.cols-1)=H) (hq1:0≤q∧q≤3) (hH1:H≤3) (hrow:0≤row∧row≤3) (hm:0≤row*c.cols∧row*c.cols≤16):
  ∀(d:Nat) (col:Int) (A:List Int),0≤col→col+d=H+1→A.length+d≤1000→
  Is cx (.loop 80 [0,1,0,0,1,0,0,1,0,1,1,1] 0 [vi r,.ptr 0 0 0,.all 1 none,vi row,vi col] [.one 5 (.t c.enc) false,.arr 1 (A.map ti) none false])
   ⟨.exit 2,[vi r,.ptr 0 0 0,.all 1 none,vi row,vi (H+1)],[.one 5 (.t c.enc) false,.arr 1 ((A++colsL (row*c.cols) col d).map ti) none false]⟩:=by
 intro d
 induction d with
 |zero=>
  intro col A h0 h1 h2
  refine Wp.ev ?_
  refine gg [.w (c.cols≠(0:Int)),.t (ti (zg r c.cols)) (ti q),.i zd (q+1) (q+1),.i zd (c.cols-1) (c.cols-1),.t (ti (minI (q+1) (c.cols-1))) (ti H),.b (decide (col≤H)) false] ⟨oW,o_t (by rw [hq]),oI,oI,o_t (by rw [hH]),fP,trivial⟩ ?_
  refine rT (a:=qy (qh 2) [vi r,V.ptr 0 0 0,qb 1 none,vi row,vi col] [qm 5 (V.t (Config.enc c)) false,qf 1 (zz ti A) none false]) ?_
  ((have e:col=H+1:=by omega);subst e;simp [colsL])
 |succ d ih=>
  intro col A h0 h1 h2
  have ih1:=ih (col+1) (A++ [row*c.cols+col]) (by omega) (by omega) (by simp;omega)
  clear ih
  refine Wp.ev ?_
  refine gg [.w (c.cols≠(0:Int)),.t (ti (zg r c.cols)) (ti q),.i zd (q+1) (q+1),.i zd (c.cols-1) (c.cols-1),.t (ti (minI (q+1) (c.cols-1))) (ti H),.b (decide (col≤H)) true,.i zd (row*c.cols) (row*c.cols),.i zd (row*c.cols+col) (row*c.cols+col),.w ((0:Nat)<(8:Nat)),.t (qp 0 [ti (row*c.cols+col)]) (qp 0 (zz (T.int zd) [row*c.cols+col])),.t (qp 0 (zz ti A++zz (T.int zd) [row*c.cols+col])) (qp 0 (zz ti (A++ [row*c.cols+col]))),.w (room (zq (zz ti (A++ [row*c.cols+col]))) (8:Nat)),.i zd (col+1) (col+1),.a _ _] ⟨o_w (by (simp [room,appendMax];omega)),o_t (by rw [hq]),o_i (w64 (by (simp [room,appendMax];omega))),o_i (w64 (by (simp [room,appendMax];omega))),o_t (by rw [hH]),tP,o_i (w64 (by (simp [room,appendMax];omega))),o_i (w64 (by (simp [room,appendMax];omega))),oW,o_l (Afm rfl AhS),o_l (AiA rfl rfl),o_w (by (simp [room,appendMax];omega)),o_i (w64 (by (simp [room,appendMax];omega))),o_a ih1,trivial⟩ ?_
  refine rT (a:=qy (qh 2) [vi r,V.ptr 0 0 0,qb 1 none,vi row,vi (H+1)] [qm 5 (V.t (Config.enc c)) false,qf 1 (zz ti (A++ [row*c.cols+col]++colsL (row*c.cols) (col+1) d)) none false]) ?_
  simp [colsL]
theorem Ae1 (b:Int): ∀(d:Nat) (c:Int),(colsL b c d).length=d
 |0,_=>rfl
 |d+1,c=>by simp [colsL,Ae1 b d]
theorem Acz (c:Config) (r q H p G:Int) (w:Nat) (hc:1≤c.cols∧c.cols≤4) (hr0:1≤c.rows∧c.rows≤4) (hq:r.tmod c.cols=q) (hp:r.tdiv c.cols=p) (hH:minI (q+1) (c.cols-1)=H) (hG:minI (p+1) (c.rows-1)=G) (hq1:0≤q∧q≤3) (hp1:0≤p∧p≤3) (hH1:H≤3) (hG1:G≤3) (hw:maxI (q-1) 0+w=H+1) (hl:0≤maxI (q-1) 0):
  ∀(d:Nat) (row:Int) (A:List Int),0≤row→row+d=G+1→A.length+d*100≤900→
  Is cx (.loop 80 [0,1,0,1,1,1] 0 [vi r,.ptr 0 0 0,.all 1 none,vi row] [.one 5 (.t c.enc) false,.arr 1 (A.map ti) none false])
   ⟨.exit 0,[vi r,.ptr 0 0 0,.all 1 none,vi (G+1)],[.one 5 (.t c.enc) false,.arr 1 ((A++rowsL c.cols (maxI (q-1) 0) w row d).map ti) none false]⟩:=by
 intro d
 induction d with
 |zero=>
  intro row A h0 h1 h2
  refine Wp.ev ?_
  refine gg [.w (c.cols≠(0:Int)),.i zd (Int.tdiv r c.cols) p,.i zd (p+1) (p+1),.i zd (c.rows-1) (c.rows-1),.t (ti (minI (p+1) (c.rows-1))) (ti G),.b (decide (row≤G)) false] ⟨oW,oI,oI,oI,o_t (by rw [hG]),fP,trivial⟩ ?_
  refine rT (a:=qy (qh 0) [vi r,V.ptr 0 0 0,qb 1 none,vi row] [qm 5 (V.t (Config.enc c)) false,qf 1 (zz ti A) none false]) ?_
  ((have e:row=G+1:=by omega);subst e;simp [rowsL])
 |succ d ih=>
  intro row A h0 h1 h2
  have hm:=mul4 (a:=row) (b:=c.cols) (by omega) (by omega)
  have hi:=Ac0 c r q H row hc hq hH hq1 hH1 (by omega) hm w (maxI (q-1) 0) A hl hw (by omega)
  have ih1:=ih (row+1) (A++colsL (row*c.cols) (maxI (q-1) 0) w) (by omega) (by omega) (by simp [Ae1];omega)
  clear ih
  refine Wp.ev ?_
  refine gg [.w (c.cols≠(0:Int)),.i zd (Int.tdiv r c.cols) p,.i zd (p+1) (p+1),.i zd (c.rows-1) (c.rows-1),.t (ti (minI (p+1) (c.rows-1))) (ti G),.b (decide (row≤G)) true,.w (c.cols≠(0:Int)),.t (ti (zg r c.cols)) (ti q),.i zd (q-1) (q-1),.s (ti (maxI (q-1) 0)),.a _ _,.i zd (row+1) (row+1),.a _ _] ⟨oW,oI,oI,oI,o_t (by rw [hG]),tP,oW,o_t (by rw [hq]),oI,o_a hi,oI,o_a ih1,trivial⟩ ?_
  refine rT (a:=qy (qh 0) [vi r,V.ptr 0 0 0,qb 1 none,vi (G+1)] [qm 5 (V.t (Config.enc c)) false,qf 1 (zz ti (A++colsL (row*c.cols) (maxI (q-1) 0) w++rowsL c.cols (maxI (q-1) 0) w (row+1) d)) none false]) ?_
  simp [rowsL]
theorem AeX (c:Config) (r:Int):Fn cx 80 [c.enc,ti r] (.sl 1 ((c.near r).map ti)):=by
 cases h:c.is r with
 |false=>
  have hN:c.near r= []:=by simp [Config.near,h]
  rw [hN]
  refine Wp.ev ?_
  refine gg [.a _ _,.b (!Config.is c r) true] ⟨o_a (AeG c r),AeZ (by assumption),trivial⟩ ?_
  exact ge
 |true=>
  have hr:=Config.is_right h
  have hi:=(Config.is_iff hr).1 h
  obtain ⟨hc,hrr,_⟩:=Config.right_iff.1 hr
  have hml:=Config.mul_le hr
  have hN:c.near r=nearP c.cols c.rows r:=by simp [Config.near,h]
  rw [hN]
  have k1:=Abe (v:=r) (k:=c.cols) (m:=c.rows) (by omega) (by omega) (by omega)
  have k2:=AaL (v:=r) (k:=c.cols) (by omega) (by omega)
  have hH1:minI (r.tmod c.cols+1) (c.cols-1)≤3∧maxI (r.tmod c.cols-1) 0≤minI (r.tmod c.cols+1) (c.cols-1)∧0≤maxI (r.tmod c.cols-1) 0:=by unfold minI maxI;split<;>split<;>omega
  have hG1:minI (r.tdiv c.cols+1) (c.rows-1)≤3∧maxI (r.tdiv c.cols-1) 0≤minI (r.tdiv c.cols+1) (c.rows-1)∧0≤maxI (r.tdiv c.cols-1) 0:=by unfold minI maxI;split<;>split<;>omega
  have hO:=Acz c r _ _ _ _ (minI (r.tmod c.cols+1) (c.cols-1)+1-maxI (r.tmod c.cols-1) 0).toNat hc hrr rfl rfl rfl rfl (by omega) (by omega) hH1.1 hG1.1 (by omega) hH1.2.2
   (minI (r.tdiv c.cols+1) (c.rows-1)+1-maxI (r.tdiv c.cols-1) 0).toNat (maxI (r.tdiv c.cols-1) 0) [] (by omega) (by omega) (by simp;omega)
  rw [List.nil_append] at hO
  refine Wp.ev ?_
  refine gg [.a _ _,.b (!Config.is c r) false,.w (c.cols≠(0:Int)),.i zd (Int.tdiv r c.cols) (Int.tdiv r c.cols),.i zd (Int.tdiv r c.cols-1) (Int.tdiv r c.cols-1),.s (ti (maxI (Int.tdiv r c.cols-1) 0)),.a _ _] ⟨o_a (AeG c r),Afv (by assumption),oW,oI,oI,o_a hO,trivial⟩ ?_
  exact ge
end Go.Eva.S8
namespace Go.Eva.S8
theorem Aem (c:Config) (m:Cross):Fn cx 73 [c.enc,m.enc] (.bool (m.right c)):=by
 have hn:= @AgM c m.frm
 have hs:small (c.near m.frm):=by unfold small;omega
 refine Wp.ev ?_
 refine gg [.a _ _,.a _ _] ⟨o_a (AeX c m.frm),o_a (Abw (Config.near c m.frm) m.to (by assumption)),trivial⟩ ?_
 refine brnot (b:=has (Config.near c m.frm) m.to) (by kernel_rfl) (fun h1=> ?_) (fun h1=> ?_)
 ·refine gg [.tt,.tt,.tt,.tt,.tt,.tt,.tt,.tt] trivial ?_
  refine rT (a:=qy qg [vb false] []) ?_
  (simp_all [Cross.right,within,beqd,bned,Aa2,teq_zero'];try omega)
 ·refine gg [.ff,.ff,.ff] trivial ?_
  refine brp (p:=m.frame<0) (by kernel_rfl) (fun h2=> ?_) (fun h2=> ?_)
  ·refine gg [.tt,.tt,.tt,.tt] trivial ?_
   refine rT (a:=qy qg [vb false] []) ?_
   (simp_all [Cross.right,within,beqd,bned,Aa2,teq_zero'];try omega)
  ·refine gg [.ff,.ff,.ff] trivial ?_
   refine brp (p:=m.frame≥10000) (by kernel_rfl) (fun h3=> ?_) (fun h3=> ?_)
   ·refine rT (a:=qy qg [vb false] []) ?_
    (simp_all [Cross.right,within,beqd,bned,Aa2,teq_zero'];try omega)
   ·refine bre (x:=m.kind) (y:=1) (by kernel_rfl) (fun h4=> ?_) (fun h4=> ?_)
    ·refine gg [.a _ _] ⟨o_a (AbG c m.ent),trivial⟩ ?_
     refine br (b:=Entity.right c m.ent) (by kernel_rfl) (fun h5=> ?_) (fun h5=> ?_)
     ·refine gg [.tt,.tt,.tt,.tt,.tt,.tt,.tt,.tt,.tt,.a _ _,.tt,.tt] ⟨o_a (Aet c m.ent.x m.ent.y),trivial⟩ ?_
      refine bre (x:=Config.of c m.ent.x m.ent.y) (y:=m.to) (by kernel_rfl) (fun h6=> ?_) (fun h6=> ?_)
      ·refine gg [.tt,.tt,.tt] trivial ?_
       refine bre (x:=m.x) (y:=0) (by kernel_rfl) (fun h7=> ?_) (fun h7=> ?_)
       ·refine gg [.tt,.tt,.tt] trivial ?_
        refine bre (x:=m.y) (y:=0) (by kernel_rfl) (fun h8=> ?_) (fun h8=> ?_)
        ·refine gg [.tt,.tt,.tt,.tt,.tt] trivial ?_
         refine rT (a:=qy qg [vb (m.to !=m.frm)] []) ?_
         (simp_all [Cross.right,within,beqd,bned,Aa2,teq_zero'];try omega)
        ·refine gg [.ff,.ff,.ff,.ff,.ff] trivial ?_
         refine rT (a:=qy qg [vb false] []) ?_
         (simp_all [Cross.right,within,beqd,bned,Aa2,teq_zero'];try omega)
       ·refine gg [.ff,.ff,.ff,.ff,.ff,.ff,.ff,.ff,.ff] trivial ?_
        refine rT (a:=qy qg [vb false] []) ?_
        (simp_all [Cross.right,within,beqd,bned,Aa2,teq_zero'];try omega)
      ·refine gg [.ff,.ff,.ff,.ff,.ff,.ff,.ff,.ff,.ff,.ff,.ff,.ff,.ff] trivial ?_
       refine rT (a:=qy qg [vb false] []) ?_
       (simp_all [Cross.right,within,beqd,bned,Aa2,teq_zero'];try omega)
     ·refine gg [.ff,.ff,.ff,.ff,.ff,.ff,.ff,.ff,.ff,.ff,.ff,.ff,.ff,.ff,.ff,.ff] trivial ?_
      refine gg [.ff,.ff,.ff,.ff,.ff,.ff,.ff,.ff,.ff] trivial ?_
      refine rT (a:=qy qg [vb false] []) ?_
      (simp_all [Cross.right,within,beqd,bned,Aa2,teq_zero'];try omega)
    ·refine bre (x:=m.kind) (y:=2) (by kernel_rfl) (fun h5=> ?_) (fun h5=> ?_)
     ·refine gg [.a _ _] ⟨o_a (Acl c m.x m.y),trivial⟩ ?_
      refine br (b:=Config.inside c m.x m.y) (by kernel_rfl) (fun h6=> ?_) (fun h6=> ?_)
      ·refine gg [.tt,.tt,.tt,.w (conform cx (40:Nat) (79:Nat) (T.agg [ti m.ent.id,ti m.ent.kind,ti m.ent.x,ti m.ent.y,ti m.ent.vx,ti m.ent.vy,ti m.ent.health,ti m.ent.age,ti m.ent.owner])=true∧conform cx (40:Nat) (79:Nat) (T.agg [ti (0:Int),ti (0:Int),ti (0:Int),ti (0:Int),ti (0:Int),ti (0:Int),ti (0:Int),ti (0:Int),ti (0:Int)])=true),.tt] ⟨o_w ⟨(by kernel_rfl),(by kernel_rfl)⟩,trivial⟩ ?_
       refine rT (a:=qy qg [vb (teq (T.agg [ti m.ent.id,ti m.ent.kind,ti m.ent.x,ti m.ent.y,ti m.ent.vx,ti m.ent.vy,ti m.ent.health,ti m.ent.age,ti m.ent.owner]) (T.agg [ti 0,ti 0,ti 0,ti 0,ti 0,ti 0,ti 0,ti 0,ti 0]))] []) ?_
       (simp_all [Cross.right,within,beqd,bned,Aa2,teq_zero'];try omega)
      ·refine gg [.ff,.ff,.ff,.ff] trivial ?_
       refine rT (a:=qy qg [vb false] []) ?_
       (simp_all [Cross.right,within,beqd,bned,Aa2,teq_zero'];try omega)
     ·refine rT (a:=qy qg [vb false] []) ?_
      (simp_all [Cross.right,within,beqd,bned,Aa2,teq_zero'];try omega)
end Go.Eva.S8
namespace Go.Eva
abbrev w64u (n:Int):Int:=IntKind.u64.wrap n
def x33 (x:Int):Int:=w64u ((zb 64 x^^^zb 64 (x.fdiv 8589934592)).toNat:Nat)
def mix (x:Int):Int:=x33 (w64u (x33 (w64u (x33 x*18397679294719823053))*14181476777654086739))
def atStep (h v:Int):Int:=mix (w64u (w64u (h+w64u v)+11400714819323198485))
def chanceAt (seed:Int) (l:List Int):Int:=l.foldl atStep (mix seed)
def below (n seed:Int) (l:List Int):Int:=if n<1 then 0 else (chanceAt seed l).tmod n
def held (v:Int):Int:=clamp v (-2147483647) 2147483647
def Input.right (i:Input):Bool:=within i.dx (-2) 2&&within i.dy (-2) 2
def Input.zero:Input:=⟨0,0,false⟩
section
variable (kind far:Int) (other:Entity→Entity→Bool) (turn:Int→Int)
end
def regionRight (c:Config) (r:Int) (s:Region):Bool:=
 c.is r&&within s.frame 0 10000&&sortedL s.ents&&decide (things s.ents≤24)&&s.ents.all fun e=>e.right c&&decide (c.of e.x e.y=r)
def arrive1 (l:List Entity) (m:Cross):List Entity:=if m.kind=1∧(m.ent.kind=1∨things l<24) then put1 l m.ent else l
def arriveL (l:List Entity) (inbox:List Cross):List Entity:=inbox.foldl arrive1 l
end Go.Eva
namespace Go.Eva
set_option linter.unusedSectionVars false
section
variable {α:Type} [Inhabited α]
variable (lt:α→α→Bool)
variable {lt}
abbrev seg (A:List α) (a b:Nat):List α:=(A.drop a).take (b-a)
def srt (lt:α→α→Bool) (A:List α) (a b:Nat):List α:=A.take a++sortS lt (seg A a b)++A.drop b
end
end Go.Eva
namespace Go.Eva
set_option linter.unusedSectionVars false
section
variable {α:Type} [Inhabited α] {lt:α→α→Bool}
end
end Go.Eva
namespace Go.Eva
set_option linter.unusedSectionVars false
section
variable {α:Type} [Inhabited α] {lt:α→α→Bool}
end
end Go.Eva
namespace Go.Eva
set_option linter.unusedSectionVars false
section
variable {α:Type} [Inhabited α] {lt:α→α→Bool}
end
end Go.Eva
namespace Go.Eva
set_option linter.unusedSectionVars false
section
variable {α:Type} [Inhabited α] {lt:α→α→Bool}
inductive Blks (lt:α→α→Bool) (n:Nat):List α→Prop
 |last {R:List α}:R.length≤n→Sd lt R→Blks lt n R
 |cons {S R:List α}:S.length=n→Sd lt S→Blks lt n R→Blks lt n (S++R)
inductive Full (lt:α→α→Bool) (n:Nat):List α→Prop
 |nil:Full lt n []
 |snoc {P S:List α}:Full lt n P→S.length=n→Sd lt S→Full lt n (P++S)
theorem Blks.more {n:Nat} {R:List α} (h:Blks lt n R) (hl:n<R.length): ∃S R',R=S++R'∧S.length=n∧Sd lt S∧Blks lt n R':=by
 cases h with
 |last h _=>omega
 |cons h1 h2 h3=>exact ⟨_,_,rfl,h1,h2,h3⟩
theorem Blks.more' {n:Nat} {R:List α} (h:Blks lt n R) (hl:n≤R.length): ∃S R',R=S++R'∧S.length=n∧Sd lt S∧Blks lt n R':=by
 by_cases hx:n<R.length
 ·exact h.more hx
 ·cases h with
  |last h2 h3=>exact ⟨R,[],by simp,by omega,h3,.last (by simp) (by simp [Sd])⟩
  |cons h1 h2 h3=>exact ⟨_,_,rfl,h1,h2,h3⟩
theorem Blks.sd {n:Nat} {R:List α} (h:Blks lt n R) (hl:R.length≤n):Sd lt R:=by
 cases h with
 |last _ h=>exact h
 | @cons S R' h1 h2 h3=>
  have:R'= []:=by
   rw [List.length_append] at hl
   exact List.eq_nil_of_length_eq_zero (by omega)
  subst this
  simpa using h2
theorem Blks.two {n:Nat} {R:List α} (h:Blks lt n R) (hn:0<n) (hl:2*n≤R.length): ∃S1 S2 R',R=S1++S2++R'∧S1.length=n∧S2.length=n∧Sd lt S1∧Sd lt S2∧Blks lt n R':=by
 obtain ⟨S1,R1,rfl,h1,h2,h3⟩:=h.more (by omega)
 rw [List.length_append] at hl
 obtain ⟨S2,R2,rfl,h4,h5,h6⟩:=h3.more' (by omega)
 exact ⟨S1,S2,R2,by simp,h1,h4,h2,h5,h6⟩
theorem Blks.one {n:Nat} {R:List α} (h:Blks lt n R) (hl:n<R.length) (h2:R.length<2*n): ∃S1 S2,R=S1++S2∧S1.length=n∧Sd lt S1∧Sd lt S2∧0<S2.length:=by
 obtain ⟨S1,R1,rfl,h3,h4,h5⟩:=h.more hl
 rw [List.length_append] at hl h2
 exact ⟨S1,R1,rfl,h3,h4,h5.sd (by omega),by omega⟩
end
end Go.Eva
namespace Go.Eva
def parts (s:List Cross) (r:Int):Nat→List Cross
 |0=> []
 |d+1=>toL s r++parts s (r+1) d
def alike (l:List Cross) (x:Cross):Nat→List Cross
 |0=> []
 |d+1=>alike l x d++ [{x with frame:=(d:Int),frm:=(gt l d).frm}]
end Go.Eva
namespace Go.Eva
structure Stg where
 l:List Entity
 made:Int
 out:List Cross
def Stg.room (s:Stg):Bool:=decide (s.made<8)&&decide (things s.l<24)
section
variable (c:Config) (r f:Int)
end
def Region.zero:Region:=⟨0,[]⟩
end Go.Eva
namespace Go.Eva
theorem AcF {l:List Entity} {e x:Entity} (h:x∈put1 l e):x=e∨x∈l:=by
 unfold put1 at h
 split at h
 ·exact .inr h
 ·exact Afa.1 h
theorem Aja {l:List Entity}: ∀ {a b:Int},Srt l→(∀x∈l,a≤x.id∧x.id≤b)→(l.length:Int)≤max 0 (b-a+1):=by
 induction l with
 |nil=>intro a b _ _;simp;omega
 |cons e l ih=>
  intro a b hs h
  obtain ⟨h1,h2⟩:=List.pairwise_cons.1 hs
  have:=ih (a:=a+1) (b:=b) h2 fun x hx=>by
   have k1:=h1 x hx
   have k2:=h e (List.mem_cons_self ..)
   have k3:=h x (List.mem_cons_of_mem _ hx)
   omega
  have k2:=h e (List.mem_cons_self ..)
  simp only [List.length_cons]
  omega
theorem AgA {l:List Entity} {p:Entity→Bool} (h:Srt l):Srt (l.filter p):=List.Pairwise.filter _ h
theorem Ag5 {l:List Entity} {n:Int} (hs:Srt l) (h: ∀x∈l,x.kind=1→1≤x.id∧x.id≤n) (hn:0≤n):((l.countP fun e=>e.kind==1:Nat):Int)≤n:=by
 rw [List.countP_eq_length_filter]
 have:=Aja (a:=1) (b:=n) (AgA (p:=fun e=>e.kind==1) hs) fun x hx=>by
  obtain ⟨h1,h2⟩:=List.mem_filter.1 hx
  exact h x h1 (by simpa using h2)
 omega
theorem Ah1 {l:List Entity} {n:Int} (hs:Srt l) (h: ∀x∈l,x.kind=1→1≤x.id∧x.id≤n) (hn:0≤n):(l.length:Int)≤things l+n:=by
 have h1:=Ag5 hs h hn
 have h2:= @Adu l
 unfold things
 omega
theorem Entity.right_player {c:Config} {e:Entity} (h:e.right c=true) (hk:e.kind=1):1≤e.id∧e.id≤c.players:=by
 simp only [Entity.right,hk,if_true,Bool.and_eq_true,AaJ] at h
 omega
structure Fine (c:Config) (r:Int) (s:Region) (ins:List Input) (inbox:List Cross):Prop where
 is:c.is r=true
 frame:0≤s.frame∧s.frame<10000
 srt:Srt s.ents
 things:things s.ents≤24
 ents: ∀e∈s.ents,e.right c=true∧c.of e.x e.y=r
 len:(ins.length:Int)=c.players
 ins: ∀i∈ins,i.right=true
 box: ∀m∈inbox,m.right c=true∧m.to=r∧m.frame=s.frame-1
structure Sane (c:Config) (r:Int) (l:List Entity):Prop where
 srt:Srt l
 things:things l≤24
 ents: ∀e∈l,e.right c=true∧c.of e.x e.y=r
theorem AcW {l:List Entity} {e:Entity}:things (put1 l e)≤things l+(if e.kind=1 then 0 else 1):=by
 have ins_things: ∀l:List Entity,things (ins l e)=things l+(if e.kind=1 then 0 else 1):=by
  intro l
  unfold ins things
  split
  ·rename_i k hk
   have:(l.take k++e::l.drop k).countP (fun e=>e.kind !=1)=l.countP (fun e=>e.kind !=1)+(if e.kind=1 then 0 else 1):=by
    rw [List.countP_append,List.countP_cons]
    conv=>rhs;rw [←List.take_append_drop k l,List.countP_append]
    by_cases h:e.kind=1<;>simp [h]<;>omega
   rw [this]
   split<;>simp
  ·rw [List.countP_append,List.countP_cons,List.countP_nil]
   by_cases h:e.kind=1<;>simp [h]
 unfold put1
 split
 ·split<;>omega
 ·rw [ins_things];omega
theorem AeK {c:Config} {r:Int} {l:List Entity} {m:Cross} (h:Sane c r l) (hm:m.right c=true) (ht:m.to=r):Sane c r (arrive1 l m):=by
 unfold arrive1
 split
 ·rename_i hk
  have hp:= @AcW l m.ent
  have ht2:=h.things
  simp only [Cross.right,hk.1,if_true,Bool.and_eq_true,decide_eq_true_eq] at hm
  refine ⟨Adn h.srt,by split at hp<;>omega,fun e he=> ?_⟩
  rcases AcF he with rfl|he
  ·exact ⟨hm.2.1.1.1.1,by omega⟩
  ·exact h.ents e he
 ·exact h
theorem Afn {c:Config} {r:Int} {inbox:List Cross}: ∀ {l:List Entity},Sane c r l→(∀m∈inbox,m.right c=true∧m.to=r)→Sane c r (arriveL l inbox):=by
 induction inbox with
 |nil=>intro l h _;exact h
 |cons m inbox ih=>
  intro l h hm
  have h1:=hm m (List.mem_cons_self ..)
  exact ih (AeK h h1.1 h1.2) fun x hx=>hm x (List.mem_cons_of_mem _ hx)
theorem Fine.sane {c:Config} {r:Int} {s:Region} {ins:List Input} {inbox:List Cross} (h:Fine c r s ins inbox):Sane c r (arriveL s.ents inbox):=
 Afn ⟨h.srt,h.things,h.ents⟩ fun m hm=>⟨(h.box m hm).1,(h.box m hm).2.1⟩
theorem Sane.len {c:Config} {r:Int} {l:List Entity} (h:Sane c r l) (hc:c.right=true):l.length≤30:=by
 have h1:=Ah1 (n:=c.players) h.srt (fun x hx hk=>Entity.right_player (h.ents x hx).1 hk) (by have:=Config.right_iff.1 hc;omega)
 have h2:=h.things
 have h3:=Config.right_iff.1 hc
 omega
end Go.Eva
namespace Go.Eva
structure Steer (c:Config) (r:Int) (s:Stg):Prop where
 sane:Sane c r s.l
 made:0≤s.made∧s.made≤8
end Go.Eva
namespace Go.Eva.S8
end Go.Eva.S8
namespace Go.Eva
theorem Agq {v hi:Int} (h:0≤v∧v≤hi):clamp v 0 hi=v:=by unfold clamp;rw [if_neg (by omega),if_neg (by omega)]
def weak (c:Config) (e:Entity):Prop:=({e with health:=1}:Entity).right c=true∧e.health≤100∧(e.kind≠1→e.health=1)
structure Moved (c:Config) (r:Int) (l:List Entity):Prop where
 srt:Srt l
 things:things l≤24
 ents: ∀e∈l,weak c e∧has (c.near r) (c.of e.x e.y)=true
end Go.Eva
namespace Go.Eva
theorem of_eq {c:Config} {x y:Int} (hr:c.right=true) (hx:0≤x∧x<c.width) (hy:0≤y∧y<c.height):c.of x y=y.tdiv 1024*c.cols+x.tdiv 1024∧(0≤x.tdiv 1024∧x.tdiv 1024<c.cols)∧(0≤y.tdiv 1024∧y.tdiv 1024<c.rows):=by
 have h:=Config.right_iff.1 hr
 have hw:c.width=c.cols*1024:=by simp [Config.width,hr]
 have hh:c.height=c.rows*1024:=by simp [Config.height,hr]
 refine ⟨?_,Abe (by omega) hx.1 (by omega),Abe (by omega) hy.1 (by omega)⟩
 unfold Config.of
 rw [if_pos hr,Agq (by omega),Agq (by omega)]
end Go.Eva
namespace Go.Eva
def core (e:Entity):Entity:=if e.kind=1 then {e with health:=0} else e
section
variable {kind far:Int} {other:Entity→Entity→Bool} {turn:Int→Int}
end
structure Hit (l m:List Entity):Prop where
 sub: ∃k:List Entity,l.Sublist k∧k.map core=m.map core∧l.filter (fun e=>decide (e.kind=1))=k.filter fun e=>decide (e.kind=1)
 low: ∀e∈l,e.kind=1→e.health≤100
theorem Ajv {k m:List Entity} (h:k.map core=m.map core):(k.filter fun e=>decide (e.kind=1)).map Entity.id=(m.filter fun e=>decide (e.kind=1)).map Entity.id:=by
 have hk: ∀e:Entity,(core e).kind=e.kind:=fun e=>by unfold core;split<;>rfl
 have hi: ∀e:Entity,(core e).id=e.id:=fun e=>by unfold core;split<;>rfl
 have e: ∀l:List Entity,(l.filter fun e=>decide (e.kind=1)).map Entity.id=((l.map core).filter fun e=>decide (e.kind=1)).map Entity.id:=fun l=>by
  rw [List.filter_map,List.map_map]
  have e1:Entity.id∘core=Entity.id:=funext hi
  have e2:(fun e:Entity=>decide (e.kind=1))∘core=fun e=>decide (e.kind=1):=funext fun e=>by simp [hk]
  rw [e1,e2]
 rw [e k,e m,h]
theorem Hit.players {l m:List Entity} (h:Hit l m):(l.filter fun e=>decide (e.kind=1)).map Entity.id=(m.filter fun e=>decide (e.kind=1)).map Entity.id:=by
 obtain ⟨⟨k,h1,h2,h3⟩,h4⟩:=h
 rw [h3,Ajv h2]
end Go.Eva
namespace Go.Eva.S8
end Go.Eva.S8
namespace Go.Eva.S8
theorem AaG (l:List Entity) (g:Nat) (cs:List T) (p:Entity→Bool) (hb:isFnB cx g=true) (hn:small l)
  (hg: ∀e∈l,Fn cx g (e.enc::cs) (.bool (p e))):Fn cx 184 [.sl 9 (l.map Entity.enc),.clo g cs] (.bool (l.any p)):=by
 have h:=AaT l g cs p hb hn hg
 clear hg
 cases hq:l.findIdx? p with
 |some k=>
  rw [AfI hq] at h
  have e:l.any p=true:=by
   obtain ⟨hk,h1,_⟩:=List.findIdx?_eq_some_iff_getElem.1 hq
   exact List.any_eq_true.2 ⟨_,List.getElem_mem hk,h1⟩
  rw [e]
  refine Wp.ev ?_
  refine gg [.a _ _] ⟨o_a h,trivial⟩ ?_
  exact ge
 |none=>
  rw [Agh hq] at h
  have e:l.any p=false:=by
   rw [List.any_eq_false]
   intro x hx
   simpa using List.findIdx?_eq_none_iff.1 hq x hx
  rw [e]
  refine Wp.ev ?_
  refine gg [.a _ _] ⟨o_a h,trivial⟩ ?_
  exact ge
theorem Aff (c:Config) (r:Int):Fn cx 181 [c.enc,ti r] (.bool (c.is r)):=by
 have h1:= @Config.regions_le c
 refine Wp.ev ?_
 refine brp (p:=r≥0) (by kernel_rfl) (fun h1=> ?_) (fun h1=> ?_)
 ·refine gg [.tt,.tt,.a _ _,.tt,.tt] ⟨o_a (Aay c),trivial⟩ ?_
  refine rT (a:=qy qg [vb (decide (r<Config.regions c))] []) ?_
  (simp only [Config.is,within];first|rfl|(congr 3;rw [Bool.eq_iff_iff];simp;omega))
 ·refine gg [.ff,.ff,.ff,.ff] trivial ?_
  refine rT (a:=qy qg [vb false] []) ?_
  (simp only [Config.is,within];first|rfl|(congr 3;rw [Bool.eq_iff_iff];simp;omega))
theorem AcL (c:Config) (r:Int) (e:Entity):Fn cx 185 [e.enc,.ip 5 c.enc 0,.ip 1 (ti r) 0] (.bool (!(e.right c&&decide (c.of e.x e.y=r)))):=by
 have h1:=AbG c e
 have h2:=Aet c e.x e.y
 cases hr:e.right c with
 |true=>
  rw [hr] at h1
  refine Wp.ev ?_
  refine gg [.a _ _,.b (!true) false,.ff,.ff,.ff,.ff,.ff,.ff,.a _ _,.ff,.ff] ⟨o_a h1,bK,o_a h2,trivial⟩ ?_
  refine rT (a:=qy qg [vb (Config.of c e.x e.y !=r)] []) ?_
  simp [bned]
 |false=>
  rw [hr] at h1
  refine Wp.ev ?_
  refine gg [.a _ _,.b (!false) true,.tt,.tt,.tt,.tt,.tt,.tt,.tt,.tt] ⟨o_a h1,bK,trivial⟩ ?_
  refine rT (a:=qy qg [vb true] []) ?_
  simp
theorem Adt (c:Config) (r:Int) (s:Region) (hn:small s.ents):Fn cx 113 [c.enc,ti r,s.enc] (.bool (regionRight c r s)):=by
 have q1:=Aff c r
 have q2:=Adc s.ents hn
 have q3:=AcX s.ents hn
 have q4:=AaG s.ents 185 [.ip 5 c.enc 0,.ip 1 (ti r) 0] (fun e=> !(e.right c&&decide (c.of e.x e.y=r))) (by kernel_rfl) hn (fun e _=>AcL c r e)
 have e4:(s.ents.any fun e=> !(e.right c&&decide (c.of e.x e.y=r)))= !(s.ents.all fun e=>e.right c&&decide (c.of e.x e.y=r)):=by rw [List.any_eq_not_all_not];simp
 rw [e4] at q4
 unfold regionRight within
 generalize c.is r=b1 at*
 generalize sortedL s.ents=b2 at*
 generalize things s.ents=n3 at*
 generalize (s.ents.all fun e=>e.right c&&decide (c.of e.x e.y=r))=b4 at*
 obtain ⟨f,l⟩:=s
 refine Wp.ev ?_
 refine gg [.a _ _] ⟨o_a q1,trivial⟩ ?_
 refine brnot (b:=b1) (by kernel_rfl) (fun h1=> ?_) (fun h1=> ?_)
 ·refine gg [.tt,.tt,.tt,.tt,.tt,.tt,.tt,.tt,.tt,.tt,.tt,.tt,.tt,.tt,.tt,.tt] trivial ?_
  refine gg [.tt,.tt] trivial ?_
  refine rT (a:=qy qg [vb false] []) ?_
  (simp_all;try omega)
 ·refine gg [.ff,.ff,.ff] trivial ?_
  refine brp (p:=f<0) (by kernel_rfl) (fun h2=> ?_) (fun h2=> ?_)
  ·refine gg [.tt,.tt,.tt,.tt,.tt,.tt,.tt,.tt,.tt,.tt,.tt,.tt,.tt,.tt] trivial ?_
   refine rT (a:=qy qg [vb false] []) ?_
   (simp_all;try omega)
  ·refine gg [.ff,.ff,.ff] trivial ?_
   refine brp (p:=f>10000) (by kernel_rfl) (fun h3=> ?_) (fun h3=> ?_)
   ·refine gg [.tt,.tt,.tt,.tt,.tt,.tt,.tt,.tt,.tt,.tt] trivial ?_
    refine rT (a:=qy qg [vb false] []) ?_
    (simp_all;try omega)
   ·refine gg [.ff,.ff,.a _ _,.ff,.ff] ⟨o_a q2,trivial⟩ ?_
    refine brnot (b:=b2) (by kernel_rfl) (fun h4=> ?_) (fun h4=> ?_)
    ·refine gg [.tt,.tt,.tt,.tt,.tt] trivial ?_
     refine rT (a:=qy qg [vb false] []) ?_
     (simp_all;try omega)
    ·refine gg [.ff,.ff,.a _ _,.ff,.ff] ⟨o_a q3,trivial⟩ ?_
     refine brp (p:=n3>24) (by kernel_rfl) (fun h5=> ?_) (fun h5=> ?_)
     ·refine rT (a:=qy qg [vb false] []) ?_
      (simp_all;try omega)
     ·refine gg [.a _ _,.b (flats [T.bool !b4]) true] ⟨o_a q4,bK,trivial⟩ ?_
      refine rT (a:=qy qg [vb !!b4] []) ?_
      (simp_all;try omega)
theorem AeM {c:Config} {r:Int}:(0≤c.cornerX r∧c.cornerX r≤4096)∧0≤c.cornerY r∧c.cornerY r≤4096:=by
 unfold Config.cornerX Config.cornerY
 split
 ·rename_i hi
  have hr:=Config.is_right hi
  have hi2:=(Config.is_iff hr).1 hi
  obtain ⟨hc,hrr,_⟩:=Config.right_iff.1 hr
  have k1:=Abe (v:=r) (k:=c.cols) (m:=c.rows) (by omega) (by omega) (by omega)
  have k2:=AaL (v:=r) (k:=c.cols) (by omega) (by omega)
  omega
 ·omega
end Go.Eva.S8
namespace Go.Eva
end Go.Eva
namespace Go.Eva
theorem Moved.len {c:Config} {r:Int} {l:List Entity} (h:Moved c r l) (hc:c.right=true):l.length≤30:=by
 have h3:=Config.right_iff.1 hc
 have h1:=Ah1 (n:=c.players) h.srt (fun x hx hk=>by
  have:=Entity.right_player (h.ents x hx).1.1 hk
  exact this) (by omega)
 have h2:=h.things
 omega
structure Still2 (c:Config) (r:Int) (l:List Entity):Prop where
 srt:Srt l
 things:things l≤24
 ents: ∀e∈l,e.right c=true∧has (c.near r) (c.of e.x e.y)=true
def blastOk (c:Config) (r f:Int) (m:Cross):Prop:=m.right c=true∧m.frm=r∧m.frame=f∧has (c.near r) m.to=true
end Go.Eva
namespace Go.Eva
end Go.Eva
namespace Go.Eva
structure World where
 regions:List Region
 outs:List CrossL
deriving DecidableEq,Inhabited
def World.enc (w:World):T:= .agg [.sl 2 (w.regions.map Region.enc),.sl 1 (w.outs.map encL)]
def playerP (cols n i:Int):Entity:=⟨i,1,((i-1).tmod n).tmod cols*1024+512,((i-1).tmod n).tdiv cols*1024+512,0,0,100,0,0⟩
def begin1 (cols n:Int) (rs:List Region) (i:Int):List Region:=rs.set ((i-1).tmod n).toNat ⟨(gt rs ((i-1).tmod n).toNat).frame,put1 (gt rs ((i-1).tmod n).toNat).ents (playerP cols n i)⟩
def beginP (cols n:Int):Nat→Int→List Region→List Region
 |0,_,rs=>rs
 |d+1,i,rs=>beginP cols n d (i+1) (begin1 cols n rs i)
def beginW (cols n:Int) (players:Nat):World:=⟨beginP cols n players 1 (zj n.toNat ⟨0,[]⟩),zj n.toNat []⟩
def handed (l:List Cross):List Entity:=(l.filter fun m=>decide (m.kind=1)).map Cross.ent
theorem Ad3 {cols n:Int}: ∀ {d:Nat} {i:Int} {rs:List Region},(beginP cols n d i rs).length=rs.length
 |0,_,_=>rfl
 |d+1,i,rs=>by rw [beginP,Ad3];simp [begin1]
end Go.Eva
namespace Go.Eva
structure Col where
 l:List Input
 fin:Int
 ended:Bool
instance:Inhabited Col:=⟨⟨[],0,false⟩⟩
def Col.enc (c:Col):T:= .agg [.sl 3 (c.l.map Input.enc),ti c.fin,.bool c.ended]
def Col.new:Col:=⟨[],0,false⟩
structure Eng where
 c:Config
 cols:List Col
 outs:List T
 ks:List T
 xs:List T
 now:Int
 dirty:Int
 steps:Int
def Eng.enc (e:Eng):T:= .agg [.box 1 (.agg [.row 3 (e.cols.map Col.enc)]),ti e.c.cols,ti e.c.rows,ti e.c.players,ti e.c.window,.int .u64 e.c.seed,.box 1 (.agg [.vrow 1 e.outs]),.dict e.ks e.xs,ti e.now,ti e.dirty,ti e.steps]
abbrev Eng.ob (e:Eng):Ob:= .one 11 (.t e.enc) false
def Eng.new (c:Config):Eng:=⟨c,zj c.players.toNat Col.new,zj c.regions.toNat (.dict [] []),[],[],0,0,0⟩
def subNew (s:Region):T:= .box 10 (.agg [ti s.frame,.sl 9 (s.ents.map Entity.enc),.row 15 [],.row 1 [],.row 1 [],.bool false,ti 0,.row 15 [],ti 0,ti 0])
end Go.Eva
namespace Go.Eva.S8
theorem AbI (e:Eng) (f:Int):Is cx (.call 61 [.ptr 0 0 0,vi f] [e.ob]) ⟨.ret,[],[Eng.ob {e with dirty:=minI e.dirty f}]⟩:=by
 refine Wp.ev ?_
 refine gg [.s (ti (minI e.dirty f))] trivial ?_
 exact ge
theorem Abk (e:Eng) (r:Int):Is cx (.call 57 [.ptr 0 0 0,vi r] [e.ob]) ⟨.ret,[vb (decide (0≤r)&&decide (r<e.c.regions))],[e.ob]⟩:=by
 have h:=Aay e.c
 refine Wp.ev ?_
 refine brp (p:=r≥0) (by kernel_rfl) (fun h1=> ?_) (fun h1=> ?_)
 ·refine gg [.tt,.tt,.tt,.tt,.tt,.a _ _,.tt,.tt] ⟨o_a h,trivial⟩ ?_
  refine rT (a:=qy qg [vb (decide (r<Config.regions e.c))] [qm 11 (V.t (Eng.enc e)) false]) ?_
  (simp_all;try omega)
 ·refine gg [.ff,.ff,.ff,.ff,.ff,.ff,.ff] trivial ?_
  refine rT (a:=qy qg [vb false] [qm 11 (V.t (Eng.enc e)) false]) ?_
  (simp_all;try omega)
theorem Aew (e:Eng):Is cx (.call 30 [.ptr 0 0 0] [e.ob]) ⟨.ret,[vi e.now],[e.ob]⟩:=by
 refine Wp.ev ?_
 refine gg [.ff] trivial ?_
 exact ge
theorem Abg (e:Eng) (n:Int):Is cx (.call 16 [.ptr 0 0 0,vi n] [e.ob]) (if n<e.now then ⟨.ret,[vi 1],[e.ob]⟩ else if n>10000 then ⟨.ret,[vi 16],[e.ob]⟩ else ⟨.ret,[vi 0],[Eng.ob {e with now:=n,dirty:=minI e.dirty e.now}]⟩):=by
 have h:=AbI e e.now
 refine Wp.ev ?_
 refine gg [.ff] trivial ?_
 refine brp (p:=n<e.now) (by kernel_rfl) (fun h1=> ?_) (fun h1=> ?_)
 ·refine rT (a:=qy qg [vi 1] [qm 11 (V.t (Eng.enc e)) false]) ?_
  (repeat' split)<;>first|rfl|omega
 ·refine brp (p:=n>10000) (by kernel_rfl) (fun h2=> ?_) (fun h2=> ?_)
  ·refine rT (a:=qy qg [vi 16] [qm 11 (V.t (Eng.enc e)) false]) ?_
   (repeat' split)<;>first|rfl|omega
  ·refine gg [.a _ _] ⟨o_a h,trivial⟩ ?_
   refine rT (a:=qy qg [vi 0] [qm 11 (V.t (T.agg [T.box 1 (T.agg [T.row 3 (zz Col.enc e.cols)]),ti e.c.cols,ti e.c.rows,ti e.c.players,ti e.c.window,T.int zf e.c.seed,T.box 1 (T.agg [T.vrow 1 e.outs]),T.dict e.ks e.xs,ti n,ti (minI e.dirty e.now),ti e.steps])) false]) ?_
   (repeat' split)<;>first|rfl|omega
end Go.Eva.S8