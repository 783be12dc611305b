/- A reading of the program, proved sound against the model, and what its functions answer by it: part 2. -/
import Derived.Test.YtcoidajoabkhkaaGreatEva1
import Derived.Laws.Externs
import Derived.OrdersHeld
import Derived.KernelRfl
import Derived.ChangeArms
import Derived.SizedLaws
import Derived.Carry
import Derived.OpenShut
import Derived.ChangeOld
import Derived.Test.YtcoidajoabkhkaaGreatProg
import Derived.Shelf.SlIterI.Nil
import Derived.Shelf.SortM.Plain
import Derived.Shelf.SortM.SortNone
import Derived.Shelf.SlMaps.Clone
set_option linter.unusedSimpArgs false
set_option linter.unusedVariables false
open List renaming length → zq, map → zz, replicate → zj, set → zx, take → zw, drop → zk
open Int renaming toNat → zy, tmod → zg, fdiv → zh
open Go.IntKind renaming i64 → zd, u64 → zf, wrap → zp
open BitVec renaming ofInt → zb
open Go.Eva.Res renaming mk → z8
open Go.Eva.Ex renaming ret → qq, exit → qz
open Go.Eva.Ob renaming arr → qw, one → qy
open Go.Eva.T renaming sl → qv
open Go.Eva.V renaming all → qk
namespace Go.Eva
open Go.RowKit
theorem Ab2 {α β:Type} (f:α→β) (l:Array α):l.map f=(l.toList.map f).toArray:=by rw [←Array.toList_map]
def opTy (cx:Cx) (o:Oper):Bool:=match o.op with
 | .load t _=>(cx.ti.get t).isSome
 | .store t _ _=>(cx.ti.get t).isSome
 | .convert t _ _=>(cx.ti.get t).isSome
 |_=>true
def Callable (P : Program) (cx : Cx) : Prop := ∀ f fi, cx.fn.get f = some (some fi) → ∃ fn, P.funcs[f]? = some fn ∧ fn.name ≠ "runtime.NumGoroutine" ∧ fn.body ≠ none
section
variable {P:Program} {cx:Cx} {S:Task→(Res→Prop)→Prop} {o:Oper} {e:Env} {H:Heap} {a:Act} {w:World} {ι:Io} {F:Nat→Prop} {R:V×Heap→Prop} {Q:Exit→Act→World→Prop}
theorem AaD (hcal:Callable P cx) {f:Nat} {fi:FI} (hf:cx.fn.get f=some (some fi)) (args:Array Value):(callFunc f args).run P w= .ok (.enter f args) w:=by
 obtain ⟨fn,h1,h2,h3⟩:=hcal f fi hf
 simp [callFunc,h1,h2,h3]
theorem Aa5 (hs:Sim ι F w H e a) {xs:List Operand} {ts:List Nat} {R:List V→Prop} (h:wpQ S (args cx e xs ts) R): ∃vs,R vs∧VRs ι F w H vs (xs.map a.eval):=by
 obtain ⟨vs,h1,h2,h3⟩:=Acq hs h
 refine ⟨vs,h1,by simpa using h2,?_⟩
 intro i v u hv hu
 simp at hu
 obtain ⟨x,hx,rfl⟩:=hu
 exact h3 i v x hv hx
theorem Acu {f:Nat} {vals:Array Value} (hrun:(execOp a.eval o).run P w= .ok (.enter f vals) w) {K:World→Prop} (h:Calls P f vals w (fun en w'=>CPost R ι F H w en w'∧K w')):o.wp P a w (OpPost R o ι F H w a) Q:=by
 unfold Oper.wp
 rw [hrun]
 refine Calls.mono h ?_
 rintro en w' ⟨⟨v,r,H',ι',F',rfl,h1,h2,h3,h4⟩,_⟩
 exact ⟨r,H',ι',F',v,h1,rfl,h2,h3,h4⟩
theorem Abr (b:Builtin) (c:Call) (ho:o.op= .call c) (hb:c.callee= .builtin b) {us:List Value} (hus:c.args.toList.map a.eval=us): ∃consts,∀w,(execOp a.eval o).run P w=(builtin b c.argTypes o.type consts us.toArray).run P w:=by
 have hargs:c.args.map a.eval=us.toArray:=by rw [←hus];exact Ab2 _ _
 refine ⟨c.args.map fun| .const _=>true|_=>false,fun w=> ?_⟩
 simp only [execOp,ho,resolve,hb,hargs,Sem.run_bind,Sem.run_pure,Result.andThen_ok,invoke]
 rfl
def quietB:Builtin→Bool
 | .len=>true
 | .cap=>true
 | .min=>true
 | .max=>true
 |_=>false
theorem AeD (hc:CxTy P cx) (hg:Good ι F w H) (hs:Sim ι F w H e a) (c:Call) (b:Builtin) (ho:o.op= .call c) (hb:c.callee= .builtin b) (hq:quietB b=true) (h:wpQ S (opQ cx o e H) R):Still Any P R o ι F H w a:=by
 unfold opQ at h
 rw [ho] at h
 simp only [hb] at h
 obtain ⟨vs,h1,h2⟩:=Aa5 hs (Aaa _ _ _ h)
 clear h
 obtain ⟨hl,hv⟩:=h2
 obtain ⟨consts,hex⟩:=Abr (P:=P) (a:=a) b c ho hb rfl
 generalize c.args.toList.map a.eval=us at*
 generalize hts:c.argTypes=ts at*
 obtain ⟨tl⟩:=ts
 simp only at h1
 have fin: ∀ {val:Value},(∀w,(execOp a.eval o).run P w= .ok (.value val) w)→BPost R ι F H w val w→Still Any P R o ι F H w a:=by
  rintro val hr ⟨r,H',ι',F',k1,k2,k3,k4⟩
  exact ⟨r,H',ι',F',val,k1,k2,k3,k4,fun w _=>hr w⟩
 have one: ∀(v:V),vs= [v]→ ∃u,us= [u]∧VR ι F w H v u:=by
  rintro v rfl
  match us,hl with
  | [u],_=>exact ⟨u,rfl,hv 0 v u rfl rfl⟩
 have hq':=h1
 unfold builtinV at hq'
 split at hq'
 ·split at hq'
  ·obtain ⟨u,rfl,hu⟩:=one _ rfl
   obtain ⟨val,k1,k2⟩:=b_len (P:=P) (ty:=o.type) hc hg hu h1
   exact fin (fun w=>by rw [hex];simp only [builtin,Sem.run_bind,k1,Result.andThen_ok,Sem.run_pure]) k2
  ·exact hq'.elim
 ·split at hq'
  ·obtain ⟨u,rfl,hu⟩:=one _ rfl
   obtain ⟨val,k1,k2⟩:=b_cap (P:=P) (ty:=o.type) hc hg hu h1
   exact fin (fun w=>by rw [hex];simp only [builtin,Sem.run_bind,k1,Result.andThen_ok,Sem.run_pure]) k2
  ·exact hq'.elim
 ·simp [quietB] at hq
 ·simp [quietB] at hq
 ·simp [quietB] at hq
 ·simp [quietB] at hq
 ·obtain ⟨val,k1,k2⟩:=b_min (P:=P) (ts:=⟨tl⟩) (ty:=o.type) hg hl hv h1
  exact fin (fun w=>by rw [hex];simp only [builtin,Sem.run_bind,k1,Result.andThen_ok,Sem.run_pure]) k2
 ·obtain ⟨val,k1,k2⟩:=b_max (P:=P) (ts:=⟨tl⟩) (ty:=o.type) hg hl hv h1
  exact fin (fun w=>by rw [hex];simp only [builtin,Sem.run_bind,k1,Result.andThen_ok,Sem.run_pure]) k2
 ·exact hq'.elim
theorem Agj {sz:Nat} {xs:List T} {u:Value} (hz:0<sz) (h:TR F w (.sl sz xs) u): ∃ad la ca,u= .slice ad la ca∧(la=0∨ ∃bl o,ad=some ⟨bl,o,none⟩∧F bl∧ ∃c ty fr,w.heap[bl]?=some (.cells c ty fr)∧c.size≠0):=by
 cases h with
 |slN _ a cap=>exact ⟨_,_,_,rfl,.inl rfl⟩
 |slC _ _ b o cap c hn hcap hF hc hl hr=>
  refine ⟨_,_,_,rfl,.inr ⟨b,o,rfl,hF,?_⟩⟩
  have:=(hc 0 0 (List.length_pos_iff.2 hn) hz).1
  unfold World.cell? at this
  split at this
  ·rename_i cc ty fr hh
   refine ⟨_,_,_,hh,fun h0=> ?_⟩
   simp at this
   have:=(Array.getElem?_eq_some_iff.1 this).1
   omega
  ·contradiction
theorem Ahn (hg:Good ι F w H) {b:V} {y:Value} (hb:isOwnSl H b=true) (h:VR ι F w H b y): ∃ad la ca,y= .slice ad la ca∧(la=0∨ ∃bl o,ad=some ⟨bl,o,none⟩∧ ¬F bl∧ ∃c ty,w.heap[bl]?=some (.cells c ty (0,0))∧c.size≠0):=by
 have key: ∀ {id off:Nat} {n lim:Option Nat} {sz:Nat} {xs:List T} {sp:Option Nat},H[id]?=some (.arr sz xs sp false)→OwnSl ι w H id off n lim y→
   ∃ad la ca,y= .slice ad la ca∧(la=0∨ ∃bl o,ad=some ⟨bl,o,none⟩∧ ¬F bl∧ ∃c ty,w.heap[bl]?=some (.cells c ty (0,0))∧c.size≠0):=by
  intro id off n lim sz xs sp hid ho
  have hob:=hg.obj id _ hid
  unfold OwnSl at ho
  rw [hid] at ho
  simp only at ho
  obtain ⟨ad,cap,rfl,h1,h2,h3⟩:=ho
  refine ⟨_,_,_,rfl,?_⟩
  by_cases h0:n.getD xs.length=0
  ·exact .inl h0
  refine .inr ?_
  obtain ⟨hz,_,hob⟩:=hob
  rcases hob with ⟨_,rfl,_⟩|⟨b,cs,e,hb,hh,hsz,_⟩
  ·exfalso;simp at h2 h0;omega
  ·rw [hb] at h3
   simp only at h3
   rcases h3.1 with h3|rfl
   ·omega
   ·refine ⟨b,_,rfl,hg.sep b ⟨id,_,hid,rfl,.inl hb⟩,cs,e,hh,fun h=> ?_⟩
    have:0<xs.length:=by omega
    have:=Nat.mul_pos this hz
    omega
 unfold isOwnSl at hb
 split at hb
 ·split at hb
  ·rename_i hn
   rw [Aad] at hn
   cases h with|all _ _ _ h=>exact key hn h
  ·contradiction
 ·split at hb
  ·rename_i hn
   rw [Aad] at hn
   cases h with|sl _ _ _ _ _ h=>exact key hn h
  ·contradiction
 ·contradiction
theorem Ahs (hc:CxTy P cx) (hg:Good ι F w H) {f t0:Nat} (hx:exAt cx.ex f=some (.overlaps t0)) {vs:List V} {us:List Value} (h:wpQ S (extV cx (.overlaps t0) vs H) R) (hv:VRs ι F w H vs us):
  ∃val,R (.t (.bool false),H)∧(callFunc f us.toArray).run P w= .ok (.value val) w∧VR ι F w H (.t (.bool false)) val:=by
 have hex:=hc.ex f _ hx
 unfold extV at h
 split at h
 ·rename_i e;cases e
 ·rename_i t a b e
  cases e
  obtain ⟨fn,k1,k2,k3,k4,k5,k6,el,hel⟩:=hex
  rw [hel] at h
  simp only at h
  split at h
  ·rename_i hcond
   simp only [Bool.and_eq_true] at hcond
   match us,hv with
   | [u,y],⟨_,hv⟩=>
    have hu:=hv 0 a u rfl rfl
    have hy:=hv 1 b y rfl rfl
    refine ⟨.bool false,h,?_,.t _ _ (.bool _)⟩
    obtain ⟨e1,i,inf,e2,e3,e4,e5,e6,e7,e8⟩:=AaA hc hel
    rw [run_callFunc_extern k1 k2 k3 k4 k5]
    suffices hov:(Extern.SlicesOverlaps.overlaps fn.params fn.resultTypes [u,y].toArray).run P w= .ok (.bool false) w by rw [hov];rfl
    have hpos:0<sizeOf cx el:=by omega
    have htree: ∃ad la ca,u= .slice ad la ca∧(la=0∨ ∃bl o,ad=some ⟨bl,o,none⟩∧F bl∧ ∃c ty fr,w.heap[bl]?=some (.cells c ty fr)∧c.size≠0):=by
     have h1:=hcond.1
     unfold isTreeSl at h1
     split at h1
     ·obtain rfl:=Nat.eq_of_beq_eq_true h1
      cases hu with|fit _ _ _ h=>exact Agj hpos h
     ·obtain rfl:=Nat.eq_of_beq_eq_true h1
      exact Agj hpos hu.t_inv
     ·contradiction
    obtain ⟨aa,la,ca,rfl,ha⟩:=htree
    obtain ⟨ab,lb,cb,rfl,hb⟩:=Ahn hg hcond.2 hy
    have hsz:=Aap hc e2 w
    change Sem.run P (α:=Value) (do
     let some t := fn.params[0]? | stuck "slices.overlaps: no parameter types"
     let .slice elem ← underlying t | stuck "slices.overlaps: slice type expected"
     let size←Go.sizeOf elem
     match (aa:Option Addr),(ab:Option Addr) with
     |some a,some b=>
      if la=0∨lb=0∨size=0 then pure (Value.bool false)
      else if a.block !=b.block&&(←frozen a)&&(←frozen b) then unsupported .addressObserved
      else do
       if a.block !=b.block then do
        noView a;noView b
        if ← mayBeOne a b then return Value.bool ((← choose (.extern "sameAddr.stringBytes" 2)) == 1)
       pure (Value.bool (a.block==b.block&&a.off<b.off+lb*size&&b.off<a.off+la*size))
     |_,_=>pure (Value.bool false)) w=_
    by_cases h0:la=0∨lb=0
    ·cases aa<;>cases ab<;>rcases h0 with h0|h0<;>simp [k6,run_underlying e1,hsz,h0]
    ·obtain ⟨b1,o1,rfl,hF1,c1,ty1,fr1,hh1,hz1⟩:=ha.resolve_left (fun h=>h0 (.inl h))
     obtain ⟨b2,o2,rfl,hF2,c2,ty2,hh2,hz2⟩:=hb.resolve_left (fun h=>h0 (.inr h))
     have hne:b1≠b2:=fun e=>hF2 (e ▸ hF1)
     have hnb:(b1 !=b2)=true:=by simpa using hne
     have hnb':(b1==b2)=false:=by simpa using hne
     have s1:w.shape? b1=some (ty1,c1.size):=by simp [World.shape?,hh1]
     have s2:w.shape? b2=some (ty2,c2.size):=by simp [World.shape?,hh2]
     have f2: ∀o,w.frozen? ⟨b2,o,none⟩=false:=by intro o;simp [World.frozen?,hh2]
     have hs0: ¬sizeOf cx el=0:=by omega
     obtain ⟨q1,q2⟩:=not_or.1 h0
     obtain ⟨m1,hm1⟩:=Nat.exists_eq_succ_of_ne_zero hz1
     obtain ⟨m2,hm2⟩:=Nat.exists_eq_succ_of_ne_zero hz2
     rw [hm1] at s1
     rw [hm2] at s2
     simp [k6,run_underlying e1,hsz,q1,q2,hs0,hnb,hnb',frozen,noView,viewAt,mayBeOne,stringish,shape,Sem.run,s1,s2,f2]
  ·exact h.elim
 ·rename_i e;cases e
 ·rename_i e;cases e
 ·exact h.elim
theorem Agh {w':World} (hg:Good ι F w H) (hb:Below w.heap.size w w'):
  Good ι (fun b=>F b∨(w.heap.size≤b∧b<w'.heap.size)) w' H∧Step ι F H w ι (fun b=>F b∨(w.heap.size≤b∧b<w'.heap.size)) H w':=by
 have hl: ∀i oi,H[i]?=some oi→ ∃o'',H[i]?=some o''∧Like ι ι w w' i oi o'':=
  fun i oi hi=>⟨oi,hi,Like.of rfl fun hd b hbb=>hb.block b (hg.lt i _ b hi hd hbb)⟩
 have hlt: ∀b,Own ι H b→b<w.heap.size:=by
  rintro b ⟨id,ob,h1,h2,h3⟩
  exact hg.ltB id ob b h1 (Aao h2) h3
 refine ⟨⟨?_,fun id ob h=>(hg.obj id ob h).mono (fun _ h=> .inl h) (fun b hbb=>hb.block b (hg.fin b hbb)) hl (fun _=>⟨rfl,rfl⟩) (fun hd b hbb=>hb.block b (hg.ltB id ob b h hd hbb)),hg.inj,?_,fun id ob b h hd hr hb=> .inl (hg.rof id ob b h hd hr hb),hg.nd⟩,
  ⟨hb.os,hb.tape,hb.output,hb.size,fun b hbb _=>hb.block b hbb,fun _ _ h=>h,fun _ h=> .inl h,?_,hl,fun _ _ h=>h⟩⟩
 ·rintro b (h|h)
  ·exact Nat.lt_of_lt_of_le (hg.fin b h) hb.size
  ·exact h.2
 ·rintro b ho (h|h)
  ·exact hg.sep b ho h
  ·exact absurd (hlt _ ho) (by omega)
 ·rintro b hbb (h|h)
  ·exact .inl h
  ·omega
theorem Acl: ∀ {xs:List T},noShutT xs=true→ ∀(i:Nat) x,xs[i]?=some x→x.shut=false
 | [],_,i,x,h=>by simp at h
 |y::r,hn,i,x,h=>by
  unfold noShutT at hn
  split at hn
  ·contradiction
  ·rename_i hy
   cases i with
   |zero=>simp at h;subst h;exact hy
   |succ i=>exact Acl hn i x (by simpa using h)
theorem Aey: ∀ {ks:List T},keysB .i64 ks=true→ks=(keyInts ks).map (.int .i64)
 | [],_=>rfl
 |x::r,h=>by
  unfold keysB at h
  split at h
  ·rename_i e;cases e
  ·rename_i e
   cases e
   simp only [Bool.and_eq_true,decide_eq_true_eq] at h
   obtain ⟨rfl,h⟩:=h
   simp only [keyInts,List.map_cons]
   rw [←Aey h]
  ·contradiction
theorem AgU (hc:CxTy P cx) (hg:Good ι F w H) {f:Nat} {gs:List Nat} (hx:exAt cx.ex f=some (.keys gs)) {vs:List V} {us:List Value} (h:wpQ S (extV cx (.keys gs) vs H) R) (hv:VRs ι F w H vs us):
  (∀args w,(callFunc f args).run P w= .ok (.enter f args) w)∧Calls P f us.toArray w (fun en w'=>CPost R ι F H w en w'∧True):=by
 obtain ⟨he,hex⟩:=hc.ex f _ hx
 refine ⟨he,?_⟩
 unfold extV at h
 split at h
 ·rename_i g' f' b e
  cases e
  split at h
  ·rename_i m ro hf hb
   have hf:=mem_iff.1 hf
   split at h
   ·rename_i ks xs ps hm
    obtain ⟨hk,h⟩:=h
    rw [Aad] at hb hm
    match us,hv with
    | [u],⟨_,hv⟩=>
     have hu:=hv 0 _ u rfl rfl
     cases hu with
     |clo _ _ cvs hl hcs=>
     obtain ⟨cvs⟩:=cvs
     match cvs,hl with
     | [c],_=>
     have hc1:=hcs 0 _ c rfl rfl
     cases hc1 with
     |ptr _ _ _ _ hp=>
     unfold OwnPtr at hp
     rw [hb] at hp
     obtain ⟨bb,hbb,rfl⟩:=hp
     obtain ⟨h1,h2,h0,b1,cs,ty,fp,h3,h4,h5,h6,h7,h8⟩:=hg.obj _ _ hb
     rw [hbb] at h3
     cases h3
     have hcs0:cs[0]?=some (cs[0]'(by omega)):=Array.getElem?_eq_getElem _
     have hcell:=((h7 0 (.map m) _ rfl hcs0).open rfl).1
     generalize cs[0]'(by omega)=c0 at hcs0 hcell
     cases hcell with
     |map _ _ hmap=>
     unfold OwnMap at hmap
     rw [hm] at hmap
     obtain ⟨bm,hbm,rfl⟩:=hmap
     obtain ⟨g1,g2,b2,es,clock,fp2,g3,g4,g5,g6,g7,g8,g9,g10⟩:=hg.obj _ _ hm
     rw [hbm] at g3
     cases g3
     simp only [goodKeys,Bool.and_eq_true] at hk
     obtain ⟨⟨hkb,hgood⟩,hsz⟩:=hk
     have hks:=Aey hkb
     have hlen:ks.length=(keyInts ks).length:=by have:=congrArg zq hks;rwa [List.length_map] at this
     have hcell1:w.cell? ⟨bb,0,none⟩=some (.map (some bm)):=by
      simp [World.cell?,h4,hcs0]
     refine (hex _ hf w bb bm es clock (keyInts ks) hcell1 g4 g6 (by omega) (fun i z e hz he=> ?_) hgood (by have:=Nat.le_of_ble_eq_true hsz;omega)).mono ?_
     ·have hkk:ks[i]?=some (.int .i64 z):=by rw [hks,List.getElem?_map,hz];rfl
      have:=g7 i _ e hkk he
      generalize e.key=kv at this
      cases this
      rfl
     ·rintro en w' ⟨v,rfl,htr,hbl⟩
      obtain ⟨q1,q2⟩:=Agh hg hbl
      exact ⟨⟨v,_,H,ι,_,rfl,h,q1,q2,.t _ _ (htr.mono (fun _ h=> .inr h) (fun _ _=>rfl))⟩,trivial⟩
   ·exact h.elim
  ·exact h.elim
 ·rename_i e;cases e
 ·rename_i e;cases e
 ·rename_i e;cases e
 ·exact h.elim
theorem AgX (hc:CxTy P cx) (hg:Good ι F w H) {f:Nat} (hx:exAt cx.ex f=some .twin) {vs:List V} {us:List Value} (h:wpQ S (extV cx .twin vs H) R) (hv:VRs ι F w H vs us):
  (∀args w,(callFunc f args).run P w= .ok (.enter f args) w)∧Calls P f us.toArray w (fun en w'=>CPost R ι F H w en w'∧True):=by
 obtain ⟨he,hn,hex⟩:=hc.ex f _ hx
 refine ⟨he,?_⟩
 unfold extV at h
 split at h
 ·rename_i e;cases e
 ·rename_i e;cases e
 ·match us,hv with
  | [u],⟨_,hv⟩=>
   have hu:=(hv 0 _ u rfl rfl).t_inv
   cases hu
   refine (hn w).mono ?_
   rintro en w' ⟨rfl,rfl⟩
   exact ⟨⟨_,_,H,ι,F,rfl,h,hg,.refl ι F H _,.t _ _ .nilm⟩,trivial⟩
 ·rename_i id _
  match us,hv with
  | [u],⟨_,hv⟩=>
   have hu:=hv 0 _ u rfl rfl
   cases hu with
   |map _ _ hm=>
   split at h
   ·rename_i ks xs ho
    rw [Aad] at ho
    obtain ⟨hns,h⟩:=AaB h
    replace h:=Aak (Aaa _ _ _ h)
    unfold OwnMap at hm
    rw [ho] at hm
    obtain ⟨m,hm,rfl⟩:=hm
    obtain ⟨h0,hto,m',es,clock,fp,q1,q2,q3,q4,q5,q7,q6,q8⟩:=hg.obj id _ ho
    rw [hm] at q1
    obtain rfl:=Option.some.inj q1
    refine (hex w m es clock q2).mono ?_
    rintro en w' ⟨rfl,rfl⟩
    obtain ⟨g1,g2⟩:=Ab6 hg (.map ks xs []) (.map es clock) rfl (by
     refine ⟨h0,hto,w.heap.size,es,clock,fun _=> [],Aag.1,Aaj,q3,q4,fun i x e hx he=>(q5 i x e hx he).mono (fun _ h=>h) (fun b hb=>Aae (hg.fin b hb)),q7,fun i v e hv he=> ?_,by simp [Aag.2]⟩
     have hsh:v.shut=false:=by
      simp only [memP,findP] at hv
      obtain ⟨x,hx,rfl⟩:=Option.map_eq_some_iff.1 hv
      exact Acl hns i x hx
     exact .v _ _ (((q6 i v e hv he).open hsh).1.mono (fun _ h=>h) (fun b hb=>Aae (hg.fin b hb)) (Abd hg.lt)))
    exact ⟨⟨_,_,_,_,F,rfl,h,g1,g2,.map _ _ (by
     unfold OwnMap
     rw [show (H++ [Ob.map ks xs []])[H.length]?=some (.map ks xs []) by simp]
     exact ⟨_,Aag.1,rfl⟩)⟩,trivial⟩
   ·exact h.elim
 ·exact h.elim
theorem Ahl (hc:CxTy P cx) (hcal:Callable P cx) (hS: ∀f az H R,S (.call f az H) R→CallS P f az H R) (hg:Good ι F w H) (hs:Sim ι F w H e a) (c:Call) (ho:o.op= .call c) (h:wpQ S (opQ cx o e H) R):o.wp P a w (OpPost R o ι F H w a) Q:=by
 have h0:=h
 unfold opQ at h
 rw [ho] at h
 simp only at h
 split at h
 ·
  rename_i b hb
  by_cases hqb:quietB b=true
  ·exact (AeD hc hg hs c b ho hb hqb h0).wp trivial
  obtain ⟨vs,h1,h2⟩:=Aa5 hs (Aaa _ _ _ h)
  clear h
  have fin: ∀ {val:Value} {w':World},(execOp a.eval o).run P w= .ok (.value val) w'→BPost R ι F H w val w'→o.wp P a w (OpPost R o ι F H w a) Q:=by
   rintro val w' hr ⟨r,H',ι',F',k1,k2,k3,k4⟩
   exact Aam hr ⟨r,H',ι',F',val,k1,rfl,k2,k3,k4⟩
  obtain ⟨hl,hv⟩:=h2
  obtain ⟨consts,hex⟩:=Abr (P:=P) (a:=a) b c ho hb rfl
  generalize c.args.toList.map a.eval=us at*
  generalize hts:c.argTypes=ts at*
  obtain ⟨tl⟩:=ts
  simp only at h1
  have one: ∀(v:V),vs= [v]→ ∃u,us= [u]∧VR ι F w H v u:=by
   rintro v rfl
   match us,hl with
   | [u],_=>exact ⟨u,rfl,hv 0 v u rfl rfl⟩
  have two: ∀(v x:V),vs= [v,x]→ ∃u y,us= [u,y]∧VR ι F w H v u∧VR ι F w H x y:=by
   rintro v x rfl
   match us,hl with
   | [u,y],_=>exact ⟨u,y,rfl,hv 0 v u rfl rfl,hv 1 x y rfl rfl⟩
  have hq:=h1
  unfold builtinV at hq
  split at hq
  ·simp [quietB] at hqb
  ·simp [quietB] at hqb
  ·split at hq
   ·obtain ⟨u,y,rfl,hu,hy⟩:=two _ _ rfl
    obtain ⟨val,w',k1,k2,_⟩:=Ae3 (ty:=o.type) hc hg hu hy h1
    exact fin (by rw [hex];simp only [builtin,Sem.run_bind,k1,Result.andThen_ok,Sem.run_pure]) k2
   ·exact hq.elim
  ·split at hq
   ·obtain ⟨u,rfl,hu⟩:=one _ rfl
    obtain ⟨val,w',k1,k2⟩:=AgW (ty:=o.type) hc hg hu h1
    exact fin (by rw [hex];simp only [builtin,Sem.run_bind,k1,Result.andThen_ok,Sem.run_pure]) k2
   ·exact hq.elim
  ·split at hq
   ·obtain ⟨u,y,rfl,hu,hy⟩:=two _ _ rfl
    obtain ⟨val,w',k1,k2⟩:=Ah0 (ty:=o.type) hc hg hu hy h1
    exact fin (by rw [hex];simp only [builtin,Sem.run_bind,k1,Result.andThen_ok,Sem.run_pure]) k2
   ·exact hq.elim
  ·split at hq
   ·obtain ⟨u,y,rfl,hu,hy⟩:=two _ _ rfl
    obtain ⟨w',k1,H',ι',k2,k3,k4⟩:=AfG (ty:=o.type) hc hg hu hy hq
    exact fin (by rw [hex];simp only [builtin,Sem.run_bind,k1,Result.andThen_ok,Sem.run_pure]) ⟨_,H',ι',F,k2,k3,k4,.tup [] #[] rfl (by simp)⟩
   ·exact hq.elim
  ·simp [quietB] at hqb
  ·simp [quietB] at hqb
  ·exact hq.elim
 ·
  rename_i f hf
  split at h
  ·rename_i x hx
   obtain ⟨vs,h1,h2⟩:=Aa5 hs (Aaa _ _ _ h)
   have hargs:c.args.map a.eval=((c.args.toList.map a.eval).toArray):=Ab2 _ _
   cases x with
   |twin=>
    obtain ⟨k1,k2⟩:=AgX (P:=P) hc hg hx h1 h2
    refine Acu ?_ k2
    simp only [execOp,ho,resolve,hf,show a.eval (.func f)= .func (.func f) #[] #[] from rfl]
    simp [Deferred.ofValue,invoke,k1,hargs]
   |keys g=>
    obtain ⟨k1,k2⟩:=AgU (P:=P) hc hg hx h1 h2
    refine Acu ?_ k2
    simp only [execOp,ho,resolve,hf,show a.eval (.func f)= .func (.func f) #[] #[] from rfl]
    simp [Deferred.ofValue,invoke,k1,hargs]
   |overlaps t0=>
   obtain ⟨val,h3,h4⟩:=Ahs (P:=P) hc hg hx h1 h2
   refine Aam (w':=w) (val:=val) ?_ ⟨_,_,ι,F,val,h3,rfl,hg,.refl ι F H w,h4.2⟩
   simp only [execOp,ho,resolve,hf,show a.eval (.func f)= .func (.func f) #[] #[] from rfl]
   simp [Deferred.ofValue,invoke,h4.1,hargs]
  obtain ⟨vs,h1,h2⟩:=Aa5 hs (Aaa _ _ _ h)
  clear h
  have hfi: ∃fi,cx.fn.get f=some (some fi):=by
   unfold callF at h1
   split at h1
   ·rename_i fi hfi;exact ⟨fi,hfi⟩
   ·exact h1.elim
  obtain ⟨fi,hfi⟩:=hfi
  have hk:=Adm (P:=P) hS hg h1 h2
  have hargs:c.args.map a.eval=((c.args.toList.map a.eval).toArray):=Ab2 _ _
  refine Acu ?_ hk
  simp only [execOp,ho,resolve,hf,show a.eval (.func f)= .func (.func f) #[] #[] from rfl]
  simp [Deferred.ofValue,invoke,AaD hcal hfi,hargs]
 ·rename_i x _ hx
  have hev:=Aaf hs x
  have hargs:c.args.map a.eval=((c.args.toList.map a.eval).toArray):=Ab2 _ _
  split at h
  ·rename_i f cs he
   rw [he] at hev
   ·obtain ⟨hfb,h⟩:=h
    obtain ⟨fi,hfi⟩: ∃fi,cx.fn.get f=some (some fi):=by
     unfold isFnB at hfb
     split at hfb
     ·exact ⟨_,by assumption⟩
     ·contradiction
    obtain ⟨vs,h1,h2⟩:=Aa5 hs (Aaa _ _ _ h)
    have hv:=hev.t_inv
    generalize hxe:a.eval x=u at hv hev
    cases hv with
    |clo _ _ cvs hl hcs=>
    have hk:=Abo (P:=P) (cvs:=cvs.toList) hS hg h1 h2 (by simpa using hl) (fun i t u ht hu=>hcs i t u ht (by simpa using hu))
    refine Acu ?_ hk
    simp only [execOp,ho,resolve,hx,hxe]
    simp [Deferred.ofValue,invoke,AaD hcal hfi]
  ·rename_i f cs he
   rw [he] at hev
   obtain ⟨vs,h1,h2⟩:=Aa5 hs (Aaa _ _ _ h)
   have hfi: ∃fi,cx.fn.get f=some (some fi):=by
    unfold callF at h1
    split at h1
    ·rename_i fi hfi;exact ⟨fi,hfi⟩
    ·exact h1.elim
   obtain ⟨fi,hfi⟩:=hfi
   generalize hxe:a.eval x=u at hev
   cases hev with
   |clo _ _ cvs hl hcs=>
   have hall:VRs ι F w H (vs++cs) (c.args.toList.map a.eval++cvs.toList):=by
    refine ⟨by simp [h2.1,hl],?_⟩
    intro i v u hv hu
    have hlen:vs.length=(c.args.toList.map a.eval).length:=h2.1
    rcases Nat.lt_or_ge i vs.length with hi|hi
    ·rw [List.getElem?_append_left hi] at hv
     rw [List.getElem?_append_left (by omega)] at hu
     exact h2.2 i v u hv hu
    ·rw [List.getElem?_append_right hi] at hv
     rw [List.getElem?_append_right (by omega)] at hu
     exact hcs _ v u hv (by rw [hlen];simpa using hu)
   have hk:=Adm (P:=P) hS hg h1 hall
   refine Acu ?_ hk
   simp only [execOp,ho,resolve,hx,hxe]
   simp [Deferred.ofValue,invoke,AaD hcal hfi]
  ·exact h.elim
 ·exact h.elim
theorem Ahq (hc:CxTy P cx) (hcal:Callable P cx) (hS: ∀f az H R,S (.call f az H) R→CallS P f az H R) (hg:Good ι F w H) (hs:Sim ι F w H e a) (hty:opTy cx o=true) (h:wpQ S (opQ cx o e H) R):o.wp P a w (OpPost R o ι F H w a) Q:=by
 have h0:=h
 unfold opTy at hty
 unfold opQ at h
 simp only at h
 split at h
 ·rename_i x ho;rw [show o.op=_ from ho] at hty;exact (Adj hg hs x (.inl ho) h).wp trivial
 ·rename_i x ho;exact (Adj hg hs x (.inr ho) h).wp trivial
 ·rename_i c x y ho;exact (Agi hg hs c x y ho h0).wp trivial
 ·rename_i t ho;exact Oper.wp_mono (fun _ _ h=>h.1) (AeI hc hg t ho h0)
 ·rename_i t x ho;exact Oper.wp_mono (fun _ _ h=>h.1) (AgL hg hs t x ho h0)
 ·rename_i t ps ho;exact (Ae5 hc hg hs t ps ho h0).wp trivial
 ·rename_i t n ps ho;exact Oper.wp_mono (fun _ _ h=>h.1) (Abw hc hg hs t n ps ho h0)
 ·rename_i t x ho;rw [ho] at hty;exact (Agl hc hg hs t x ho (Option.isSome_iff_exists.1 hty) h0).wp (OldSame.refl w)
 ·rename_i t x y ho;rw [ho] at hty;exact AgA hc hg hs t x y ho (Option.isSome_iff_exists.1 hty) h0
 ·rename_i x ho;exact (Acm hg hs x ho h0).wp trivial
 ·rename_i op t x y yt ho;exact (AgJ hc hg hs op t x y yt ho h0).wp trivial
 ·rename_i op t x ho;exact (op_un hg hs op t x ho h0).wp trivial
 ·rename_i s t x ho;rw [ho] at hty;exact (Ac8 hc hg hs s t x ho (Option.isSome_iff_exists.1 hty) h0).wp trivial
 ·rename_i t ho;exact Oper.wp_mono (fun _ _ h=>h.1) (AcQ hg t ho h0)
 ·rename_i t x i b ho;exact Afs hc hg hs t x i b ho h0
 ·rename_i t x i v ho;exact AdR hc hg hs t x i v ho h0
 ·rename_i t x ho;exact Agv hc hg hs t x ho h0
 ·rename_i x ho;exact AgY hg hs x ho h0
 ·rename_i x ho;exact AgG hg hs x ho h0
 ·rename_i f fi cs ho;exact (Acn hg hs f fi cs ho h0).wp trivial
 ·rename_i t l c ho;exact Oper.wp_mono (fun _ _ h=>h.1) (AbQ hc hg hs t l c ho h0)
 ·rename_i t x lo hi mx ho;exact (Aex hc hg hs t x lo hi mx ho h0).wp trivial
 ·rename_i t x f ho;exact (AbX hc hg hs t x f ho h0).wp trivial
 ·rename_i t x f ho;exact (Ae2 hc hg hs t x f ho h0).wp trivial
 ·rename_i t x i ho;exact (AbS hc hg hs t x i ho h0).wp trivial
 ·rename_i x i ho;exact (AcM hg hs x i ho h0).wp trivial
 ·rename_i c ho;exact Ahl hc hcal hS hg hs c ho h0
 ·exact h.elim
end
end Go.Eva
namespace Go.Eva
open Go.RowKit
section
variable {P:Program} {cx:Cx} {S:Task→(Res→Prop)→Prop} {w:World} {F:Nat→Prop}
theorem Agn {ι:Io} {H:Heap} {v:V} {u:Value} {R:V×Heap→Prop} (hg:Good ι F w H) (h:wpQ S (ownV v H) R) (hv:VR ι F w H v u):
  ∃v' H' ι',R (v',H')∧Good ι' F w H'∧Step ι F H w ι' F H' w∧VR ι' F w H' v' u:=by
 unfold ownV at h
 split at h
 ·rename_i s
  split at h
  ·rename_i hs
   have hs:0<s:=by simpa using hs
   replace h:=Aak (Aaa _ _ _ h)
   obtain ⟨k1,k2⟩:=AbC hg s hs
   refine ⟨_,_,_,h,k1,k2,.all _ _ _ ?_⟩
   cases hv with
   |fit _ _ a h=>
    unfold OwnSl
    rw [List.getElem?_append_right (Nat.le_refl _)]
    simp only [Nat.sub_self,List.getElem?_cons_zero]
    refine ⟨a,0,rfl,Nat.le_refl _,Nat.le_refl _,?_⟩
    simp [upd,updH]
  ·exact ⟨_,_,ι,h,hg,.refl ι F H w,hv⟩
 ·exact ⟨_,_,ι,h,hg,.refl ι F H w,hv⟩
theorem Adi {ι:Io} {H:Heap} {v:V} {vs:List V} {u:Value} {us:List Value} (h:VR ι F w H v u) (k:VRs ι F w H vs us):VRs ι F w H (v::vs) (u::us):=by
 refine ⟨by simp [k.1],fun i x y hx hy=> ?_⟩
 cases i with
 |zero=>simp at hx hy;subst hx;subst hy;exact h
 |succ i=>exact k.2 i x y (by simpa using hx) (by simpa using hy)
theorem AaQ {ι ι':Io} {F':Nat→Prop} {w':World} {H H':Heap} (hg:Good ι F w H) (h:Step ι F H w ι' F' H' w') {vs:List V} {us:List Value} (hv:VRs ι F w H vs us):VRs ι' F' w' H' vs us:=
 ⟨hv.1,fun i x y hx hy=>h.vr hg (hv.2 i x y hx hy)⟩
theorem Afr {own:List Nat}: ∀ {ts:List Nat} {vs:List V} {us:List Value} {ι:Io} {H:Heap} {R:List V×Heap→Prop},Good ι F w H→wpQ S (ownL own ts vs H) R→VRs ι F w H vs us→
  ∃vs' H' ι',R (vs',H')∧Good ι' F w H'∧Step ι F H w ι' F H' w∧VRs ι' F w H' vs' us:=by
 intro ts
 induction ts with
 |nil=>
  intro vs us ι H R hg h hv
  have h:R (vs,H):=by cases vs<;>exact h
  exact ⟨_,_,ι,h,hg,.refl ι F H w,hv⟩
 |cons t ts ih=>
  intro vs us ι H R hg h hv
  match vs,us,hv with
  | [],us,hv=>exact ⟨_,_,ι,h,hg,.refl ι F H w,hv⟩
  |v::vs,[],hv=>exact absurd hv.1 (by simp)
  |v::vs,u::us,hv=>
   have h0:=hv.2 0 v u rfl rfl
   have ht:VRs ι F w H vs us:=⟨by simpa using hv.1,fun i x y hx hy=>hv.2 (i+1) x y (by simpa using hx) (by simpa using hy)⟩
   unfold ownL at h
   split at h
   ·obtain ⟨v',H1,ι1,h1,g1,s1,r1⟩:=Agn hg (Aaa _ _ _ h) h0
    obtain ⟨vs',H2,ι2,h2,g2,s2,r2⟩:=ih g1 (Aaa _ _ _ h1) (AaQ hg s1 ht)
    exact ⟨_,_,ι2,h2,g2,s1.trans s2,Adi (s2.vr g1 r1) r2⟩
   ·obtain ⟨vs',H2,ι2,h2,g2,s2,r2⟩:=ih hg (Aaa _ _ _ h) ht
    exact ⟨_,_,ι2,h2,g2,s2,Adi (s2.vr hg h0) r2⟩
theorem AeX {ι:Io} {H:Heap} (hg:Good ι F w H) {id s:Nat} {xs:List T} {sp:Option Nat} (ho:H[id]?=some (.arr s xs sp false)) (n:Nat):
  Good (upd ι H.length (ι id)) F w (H.set id .dead++ [.arr s (xs.take n) none false])∧Step ι F H w (upd ι H.length (ι id)) F (H.set id .dead++ [.arr s (xs.take n) none false]) w:=by
 refine Aci hg ho rfl rfl rfl rfl rfl rfl rfl (fun _ _=>rfl) (fun _ _=> ?_)
 have new:upd ι H.length (ι id) H.length=ι id:=by exact Aag.1
 obtain ⟨h0,_,h⟩:=hg.obj id _ ho
 refine ⟨h0,Aag.2,?_⟩
 rw [new]
 rcases h with ⟨h1,rfl,h3⟩|⟨b,cs,e,h1,h2,h3,h4,h5,h6,h7⟩
 ·exact .inl ⟨h1,by simp,fun k hk=>by simp at hk⟩
 ·have hle:(xs.take n).length≤xs.length:=by simp;omega
  refine .inr ⟨b,cs,e,h1,h2,Nat.le_trans (Nat.mul_le_mul_right s hle) h3,fun k hk=>by simp at hk,h5,h6,?_⟩
  obtain ⟨c,c1,c2,c3⟩:=h7
  have get: ∀(i:Nat) x,(xs.take n)[i]?=some x→xs[i]?=some x:=by
   intro i x hx
   rw [List.getElem?_take] at hx
   split at hx
   ·exact hx
   ·contradiction
  exact ⟨c,fun i j hi hj=>c1 i j (by omega) hj,fun i x hx=>c2 i x (get i x hx),fun i j x t hx=>c3 i j x t (get i x hx)⟩
theorem AgC {ι:Io} {H:Heap} {v:V} {u:Value} {R:V×Heap→Prop} (hg:Good ι F w H) (h:wpQ S (tidyV v H) R) (hv:VR ι F w H v u):
  ∃v' H' ι',R (v',H')∧Good ι' F w H'∧Step ι F H w ι' F H' w∧VR ι' F w H' v' u:=by
 have key: ∀ {id s len:Nat} {xs:List T} {sp:Option Nat} {n:Option Nat},H[id]?=some (.arr s xs sp false)→OwnSl ι w H id 0 n none u→n.getD xs.length=len→
   OwnSl (upd ι H.length (ι id)) w (H.set id .dead++ [.arr s (xs.take len) none false]) H.length 0 none none u:=by
  intro id s len xs sp n hid ho hn
  unfold OwnSl at ho⊢
  rw [hid] at ho
  simp only [SlAt,hn] at ho
  rw [List.getElem?_append_right (by simp)]
  simp only [List.length_set,Nat.sub_self,List.getElem?_cons_zero,SlAt,Option.getD_none]
  obtain ⟨a,cap,rfl,h1,h2,h3⟩:=ho
  have hl:(xs.take len).length=len:=by simp;omega
  refine ⟨a,cap,by rw [hl],by rw [hl];exact h1,by rw [hl];omega,?_⟩
  have new:upd ι H.length (ι id) H.length=ι id:=by exact Aag.1
  rw [new]
  exact h3
 unfold tidyV at h
 split at h
 ·rename_i id
  split at h
  ·rename_i s xs sp hid
   rw [Aad] at hid
   obtain ⟨_,h⟩:=Aai (Aaa _ _ _ h)
   replace h:=Aak (Aaa _ _ _ h)
   cases hv with
   |all _ _ _ ho=>
    obtain ⟨k1,k2⟩:=AeX hg hid xs.length
    have k3:=key hid ho (len:=xs.length) rfl
    rw [List.take_length] at k1 k2 k3
    simp only [List.length_set] at h
    exact ⟨_,_,_,h,k1,k2,.all _ _ _ k3⟩
  ·exact h.elim
 ·rename_i id off len
  split at h
  ·rename_i s xs sp hid hoff
   obtain rfl:=Nat.eq_of_beq_eq_true hoff
   rw [Aad] at hid
   replace h:wpQ S ((setH H id .dead).bind fun H=>(alloc (.arr s (xs.take len) none false) H).bind fun x=> .ret (.all x.1 none,x.2)) R:=h
   obtain ⟨_,h⟩:=Aai (Aaa _ _ _ h)
   replace h:=Aak (Aaa _ _ _ h)
   cases hv with
   |sl _ _ _ _ _ ho=>
    obtain ⟨k1,k2⟩:=AeX hg hid len
    have k3:=key hid ho (len:=len) rfl
    simp only [List.length_set] at h
    exact ⟨_,_,_,h,k1,k2,.all _ _ _ k3⟩
  ·exact h.elim
 ·exact Agn hg h hv
theorem Ag8: ∀ {vs:List V} {us:List Value} {ι:Io} {H:Heap} {R:List V×Heap→Prop},Good ι F w H→wpQ S (tidyL vs H) R→VRs ι F w H vs us→
  ∃vs' H' ι',R (vs',H')∧Good ι' F w H'∧Step ι F H w ι' F H' w∧VRs ι' F w H' vs' us:=by
 intro vs
 induction vs with
 |nil=>intro us ι H R hg h hv;exact ⟨_,_,ι,h,hg,.refl ι F H w,hv⟩
 |cons v vs ih=>
  intro us ι H R hg h hv
  match us,hv with
  | [],hv=>exact absurd hv.1 (by simp)
  |u::us,hv=>
   have h0:=hv.2 0 v u rfl rfl
   have ht:VRs ι F w H vs us:=⟨by simpa using hv.1,fun i x y hx hy=>hv.2 (i+1) x y (by simpa using hx) (by simpa using hy)⟩
   unfold tidyL at h
   obtain ⟨v',H1,ι1,h1,g1,s1,r1⟩:=AgC hg (Aaa _ _ _ h) h0
   obtain ⟨vs',H2,ι2,h2,g2,s2,r2⟩:=ih g1 (Aaa _ _ _ h1) (AaQ hg s1 ht)
   exact ⟨_,_,ι2,h2,g2,s1.trans s2,Adi (s2.vr g1 r1) r2⟩
theorem AeV {b:Bool} {vs:List V} {us:List Value} {ι:Io} {H:Heap} {R:List V×Heap→Prop} (hg:Good ι F w H) (h:wpQ S (tidyR b vs H) R) (hv:VRs ι F w H vs us):
  ∃vs' H' ι',R (vs',H')∧Good ι' F w H'∧Step ι F H w ι' F H' w∧VRs ι' F w H' vs' us:=by
 unfold tidyR at h
 split at h
 ·exact Ag8 hg h hv
 ·exact ⟨_,_,ι,h,hg,.refl ι F H w,hv⟩
theorem AgV {ι:Io} {us:List Value} {vs:List V}: ∀(n k:Nat) (H1 H:Heap),H1.length=k→Good ι F w (H1++H)→VRs ι F w (H1++H) vs us→
  Good ι F w (H1++killK n H)∧Step ι F (H1++H) w ι F (H1++killK n H) w∧VRs ι F w (H1++killK n H) vs us:=by
 intro n
 induction n with
 |zero=>intro k H1 H _ hg hv;exact ⟨hg,.refl ι F _ w,hv⟩
 |succ n ih=>
  intro k H1 H hk hg hv
  cases H with
  |nil=>exact ⟨hg,.refl ι F _ w,hv⟩
  |cons o r=>
   have same: ∀o',H1++o'::killK n r=(H1++ [o'])++killK n r:=by intro o';simp
   have same': ∀o',H1++o'::r=(H1++ [o'])++r:=by intro o';simp
   by_cases hd:killO o=o
   ·simp only [killK,hd]
    rw [same,same'] at*
    exact ih (k+1) _ _ (by simp [hk]) hg hv
   ·have hdd:killO o= .dead:=by cases o<;>simp_all [killO]
    simp only [killK,hdd]
    have hget:(H1++o::r)[k]?=some o:=by rw [List.getElem?_append_right (by omega)];simp [hk]
    have hset:(H1++o::r).set k .dead=H1++ .dead::r:=by rw [List.set_append_right _ _ (by omega)];simp [hk]
    obtain ⟨g1,s1⟩:=Acf hg hget
    rw [hset] at g1 s1
    have v1:=AaQ hg s1 hv
    rw [same'] at g1 v1
    obtain ⟨g2,s2,v2⟩:=ih (k+1) _ _ (by simp [hk]) g1 v1
    rw [←same,←same'] at s2
    rw [←same] at g2 v2
    exact ⟨g2,s1.trans s2,v2⟩
theorem Ag9 {b:Bool} {n:Nat} {ι:Io} {us:List Value} {vs:List V} {H:Heap} (hg:Good ι F w H) (hv:VRs ι F w H vs us):
  Good ι F w (killR b n H)∧Step ι F H w ι F (killR b n H) w∧VRs ι F w (killR b n H) vs us:=by
 unfold killR
 split
 ·simpa using AgV n 0 [] H rfl hg hv
 ·exact ⟨hg,.refl ι F H w,hv⟩
end
end Go.Eva
namespace Go.Eva
open Go.RowKit
def sort (cx:Cx) (o:Oper):Nat:=match o.op with
 | .move _=>0| .assign _=>0| .pick _ _ _=>0| .build _ _=>0| .nilCheck _=>0| .binOp _ _ _ _ _=>0| .unOp _ _ _=>0| .convert _ _ _=>0
 | .makeFunc (.func _) _ _=>0| .slice _ _ _ _ _=>0| .fieldAddr _ _ _=>0| .field _ _ _=>0| .indexAddr _ _ _=>0| .extract _ _=>0
 | .load _ _=>1
 | .alloc _=>2| .box _ _=>2| .buildSlice _ _ _=>2| .makeSlice _ _ _=>2| .makeMap _ none=>2
 | .call c=>match c.callee with
  | .builtin b=>match quietB b with
   |true=>0
   |false=>match b,c.args.toList with
    | .append,.const (.slice none 0 0)::_=>2
    |_,_=>3
  | .value (.func f)=>match exAt cx.ex f with
   |some _=>3
   |none=>match cx.fn.get f with
    |some (some fi)=>match fi.mode with| .inout=>3| .both=>3|_=>2
    |_=>3
  |_=>3
 |_=>3
section
variable {P:Program} {cx:Cx} {S:Task→(Res→Prop)→Prop} {o:Oper} {e:Env} {H:Heap} {a:Act} {w:World} {ι:Io} {F:Nat→Prop} {R:V×Heap→Prop} {Q:Exit→Act→World→Prop}
theorem Still.mono {C C':World→Prop} (h:Still C P R o ι F H w a) (hC: ∀w,C' w→C w):Still C' P R o ι F H w a:=by
 obtain ⟨v,H',ι',F',val,h1,h2,h3,h4,h5⟩:=h
 exact ⟨v,H',ι',F',val,h1,h2,h3,h4,fun w hw=>h5 w (hC w hw)⟩
theorem AeF (hc:CxTy P cx) (hg:Good ι F w H) (hs:Sim ι F w H e a) (hty:opTy cx o=true) (hk:sort cx o=0) (h:wpQ S (opQ cx o e H) R):Still Any P R o ι F H w a:=by
 have h0:=h
 unfold opTy at hty
 unfold sort at hk
 unfold opQ at h
 simp only at h
 split at h
 ·rename_i x ho;exact Adj hg hs x (.inl ho) h
 ·rename_i x ho;exact Adj hg hs x (.inr ho) h
 ·rename_i c x y ho;exact Agi hg hs c x y ho h0
 ·rename_i t ho;rw [ho] at hk;simp at hk
 ·rename_i t x ho;rw [ho] at hk;simp at hk
 ·rename_i t ps ho;exact Ae5 hc hg hs t ps ho h0
 ·rename_i t n ps ho;rw [ho] at hk;simp at hk
 ·rename_i t x ho;rw [ho] at hk;simp at hk
 ·rename_i t x y ho;rw [ho] at hk;simp at hk
 ·rename_i x ho;exact Acm hg hs x ho h0
 ·rename_i op t x y yt ho;exact AgJ hc hg hs op t x y yt ho h0
 ·rename_i op t x ho;exact op_un hg hs op t x ho h0
 ·rename_i s t x ho;rw [ho] at hty;exact Ac8 hc hg hs s t x ho (Option.isSome_iff_exists.1 hty) h0
 ·rename_i t ho;rw [ho] at hk;simp at hk
 ·rename_i t x i b ho;rw [ho] at hk;simp at hk
 ·rename_i t x i v ho;rw [ho] at hk;simp at hk
 ·rename_i t x ho;rw [ho] at hk;simp at hk
 ·rename_i x ho;rw [ho] at hk;simp at hk
 ·rename_i x ho;rw [ho] at hk;simp at hk
 ·rename_i f fi cs ho;exact Acn hg hs f fi cs ho h0
 ·rename_i t l c ho;rw [ho] at hk;simp at hk
 ·rename_i t x lo hi mx ho;exact Aex hc hg hs t x lo hi mx ho h0
 ·rename_i t x f ho;exact AbX hc hg hs t x f ho h0
 ·rename_i t x f ho;exact Ae2 hc hg hs t x f ho h0
 ·rename_i t x i ho;exact AbS hc hg hs t x i ho h0
 ·rename_i x i ho;exact AcM hg hs x i ho h0
 ·rename_i c ho
  rw [ho] at hk
  simp only at hk
  split at hk
  ·rename_i b hb
   split at hk
   ·rename_i hq;exact AeD hc hg hs c b ho hb hq h0
   ·split at hk<;>simp at hk
  ·split at hk
   ·simp at hk
   ·split at hk
    ·split at hk<;>simp at hk
    ·simp at hk
  ·simp at hk
 ·exact h.elim
theorem Acc (hc:CxTy P cx) (hg:Good ι F w H) (hs:Sim ι F w H e a) (hty:opTy cx o=true) (hk:sort cx o≤1) (h:wpQ S (opQ cx o e H) R):Still (OldSame w) P R o ι F H w a:=by
 rcases Nat.lt_or_ge (sort cx o) 1 with h0|h1
 ·exact (AeF hc hg hs hty (by omega) h).mono fun _ _=>trivial
 ·have hk:sort cx o=1:=by omega
  have: ∃t x,o.op= .load t x:=by
   unfold sort at hk
   split at hk<;>simp_all
   repeat' split at hk
   all_goals simp_all
  obtain ⟨t,x,ho⟩:=this
  unfold opTy at hty
  rw [ho] at hty
  exact Agl hc hg hs t x ho (Option.isSome_iff_exists.1 hty) h
theorem Still.wpK {C:World→Prop} (h:Still C P R o ι F H w a) (hC:C w):o.wp P a w (fun a' w'=>OpPost R o ι F H w a a' w'∧OldSame w w') Q:=by
 obtain ⟨v,H',ι',F',val,h1,h2,h3,h4,h5⟩:=h
 exact Aam (h5 w hC) ⟨⟨v,H',ι',F',val,h1,rfl,h2,h3,h4⟩,.refl w⟩
theorem AcC {ts:List Nat} {vs:List V} (h:wpQ S (builtinV cx .append ts vs H) R): ∃t t' s x,ts= [t,t']∧vs= [s,x]:=by
 unfold builtinV at h
 split at h<;>rename_i hb<;>try contradiction
 ·split at h
  ·exact ⟨_,_,_,_,rfl,rfl⟩
  ·exact h.elim
theorem Ag4 (hc:CxTy P cx) (hcal:Callable P cx) (hS: ∀f az H R,S (.call f az H) R→CallS P f az H R) (hg:Good ι F w H) (hs:Sim ι F w H e a) (hty:opTy cx o=true) (hk:sort cx o≤2) (h:wpQ S (opQ cx o e H) R):
  o.wp P a w (fun a' w'=>OpPost R o ι F H w a a' w'∧OldSame w w') Q:=by
 rcases Nat.lt_or_ge (sort cx o) 2 with h0|h1
 ·exact (Acc hc hg hs hty (by omega) h).wpK (.refl w)
 have hk:sort cx o=2:=by omega
 clear h1
 unfold sort at hk
 split at hk<;>try contradiction
 ·rename_i t ho;exact AeI hc hg t ho h
 ·rename_i t x ho;exact AgL hg hs t x ho h
 ·rename_i t n ps ho;exact Abw hc hg hs t n ps ho h
 ·rename_i t l c ho;exact AbQ hc hg hs t l c ho h
 ·rename_i t ho;exact AcQ hg t ho h
 ·rename_i c ho
  split at hk
  ·rename_i b hb
   split at hk
   ·contradiction
   ·split at hk
    ·rename_i tail hargs0 _
     unfold opQ at h
     rw [ho] at h
     simp only [hb] at h
     obtain ⟨consts,hex⟩:=Abr (P:=P) (a:=a) .append c ho hb rfl
     rw [hargs0] at h hex
     generalize hts:c.argTypes=ts at*
     obtain ⟨tl⟩:=ts
     simp only at h
     cases tl with
     |nil=>
      obtain ⟨vs,h1,h2⟩:=Aa5 hs (Aaa _ _ _ h)
      obtain ⟨_,_,_,_,e,_⟩:=AcC h1
      simp at e
     |cons t tl=>
      have h:=Aaa _ _ _ h
      simp only [args] at h
      have h1:=Aaa _ _ _ h
      have hn:evalO e (.const (.slice none 0 0))= .nil:=rfl
      rw [hn] at h1
      unfold typed at h1
      simp only at h1
      split at h1
      ·split at h1
       ·replace h1:=Aa2 (Aaa _ _ _ h1)
        obtain ⟨vs,h2,h3⟩:=Aa5 hs (Aaa _ _ _ h1)
        simp only [wpQ] at h2
        obtain ⟨h3,h4⟩:=h3
        simp only [List.map_cons] at hex
        generalize tail.map a.eval=us at*
        obtain ⟨t1,t2,s1,x1,e1,e2⟩:=AcC h2
        simp only [List.cons.injEq] at e1 e2
        obtain ⟨rfl,rfl⟩:=e1
        obtain ⟨rfl,rfl⟩:=e2
        match us,h3 with
        | [u],_=>
         obtain ⟨val,w',k1,⟨r,H',ι',F',q1,q2,q3,q4⟩,k3⟩:=Ae3 (P:=P) (ty:=o.type) (u:= .slice none 0 0) (v:=u) hc hg (.fit _ _ _ (.slN _ _ _)) (h4 0 _ _ rfl rfl) h2
         refine Aam (w':=w') (val:=val) ?_ ⟨⟨r,H',ι',F',val,q1,rfl,q2,q3,q4⟩,k3 ⟨_,_,rfl⟩⟩
         rw [hex]
         have:a.eval (.const (.slice none 0 0))= .slice none 0 0:=rfl
         simp only [builtin,Sem.run_bind,this,k1,Result.andThen_ok,Sem.run_pure]
       ·exact h1.elim
      ·exact h1.elim
    ·contradiction
  ·rename_i f hf
   split at hk
   ·contradiction
   rename_i hx
   split at hk
   ·rename_i fi hfi
    split at hk
    ·contradiction
    ·contradiction
    ·rename_i hm1 hm2
     unfold opQ at h
     rw [ho] at h
     simp only [hf,hx] at h
     obtain ⟨vs,h1,h2⟩:=Aa5 hs (Aaa _ _ _ h)
     have hkk:=Adm (P:=P) hS hg h1 h2
     have hargs:c.args.map a.eval=((c.args.toList.map a.eval).toArray):=Ab2 _ _
     have hrun:(execOp a.eval o).run P w= .ok (.enter f (c.args.toList.map a.eval).toArray) w:=by
      simp only [execOp,ho,resolve,hf,show a.eval (.func f)= .func (.func f) #[] #[] from rfl]
      simp [Deferred.ofValue,invoke,AaD hcal hfi,hargs]
     unfold Oper.wp
     rw [hrun]
     refine Calls.mono hkk ?_
     rintro en w' ⟨⟨v,r,H',ι',F',rfl,k1,k2,k3,k4⟩,hold⟩
     exact ⟨⟨r,H',ι',F',v,k1,rfl,k2,k3,k4⟩,hold (fun fi' hfi'=>by
      rw [hfi] at hfi'
      simp at hfi'
      subst hfi'
      exact ⟨hm1,hm2⟩)⟩
   ·contradiction
  ·contradiction
end
end Go.Eva
namespace Go.Eva
open Go.RowKit
theorem Ag6 (dst:Option Nat) (v:V) (e:Env) (t:Nat):look (put dst v e) t=if dst=some t then v else look e t:=by
 cases dst with
 |none=>simp [put]
 |some d=>
  simp only [put,look]
  by_cases h:d=t
  ·subst h;simp
  ·have:Nat.beq d t=false:=by
    cases hb:Nat.beq d t with
    |false=>rfl
    |true=>exact absurd (Nat.eq_of_beq_eq_true hb) h
   rw [this]
   simp [h]
structure In (n:Nat) (ι:Io) (F:Nat→Prop) (w:World) (H:Heap) (e:Env) (a:Act):Prop where
 good:Good ι F w H
 sim:Sim ι F w H e a
 size:a.tmps.size=n
 defers:a.defers= []
def fitO (cx:Cx) (n:Nat) (o:Oper):Bool:=opTy cx o&&(match o.dst with
 |some d=>Nat.blt d n
 |none=>true)
section
variable {P:Program} {cx:Cx} {S:Task→(Res→Prop)→Prop} {n:Nat} {ι:Io} {F:Nat→Prop} {w:World} {H:Heap} {e:Env} {a:Act}
theorem In.put {ι':Io} {F':Nat→Prop} {w':World} {H':Heap} {o:Oper} {v:V} {val:Value} (h:In n ι F w H e a) (hf:fitO cx n o=true) (hg:Good ι' F' w' H') (hst:Step ι F H w ι' F' H' w') (hv:VR ι' F' w' H' v val):
  In n ι' F' w' H' (Eva.put o.dst v e) (a.put o.dst val):=by
 refine ⟨hg,fun t=> ?_,?_,?_⟩
 ·rw [Ag6]
  unfold fitO at hf
  cases hd:o.dst with
  |none=>simp only [Act.put];simpa using hst.vr h.good (h.sim t)
  |some d=>
   rw [hd] at hf
   simp only [Bool.and_eq_true] at hf
   have hlt:d<n:=by simpa using hf.2
   by_cases e:d=t
   ·subst e
    simp [Act.put,h.size,hlt,hv]
   ·have:(some d=some t)=False:=by simp [e]
    simp only [Act.put,this,if_false]
    have h1:=hst.vr h.good (h.sim t)
    simp only [Array.getD_eq_getD_getElem?] at h1⊢
    rw [Array.getElem?_setIfInBounds_ne e]
    exact h1
 ·cases o.dst<;>simp [Act.put,h.size]
 ·cases o.dst<;>simp [Act.put,h.defers]
theorem In.known {g:Nat} {b:Bool} (h:In n ι F w H e a) (hb:look e g= .t (.bool b)):In n ι F w H ((g,.t (.bool b))::e) a:=by
 refine ⟨h.good,fun t=> ?_,h.size,h.defers⟩
 simp only [look]
 split
 ·rename_i hbq
  obtain rfl:=Nat.eq_of_beq_eq_true hbq
  rw [←hb];exact h.sim g
 ·exact h.sim t
theorem AgE:VR ι F w H (.tup []) undef:= .tup [] #[] rfl (by simp)
def NextOk (n:Nat) (ι:Io) (F:Nat→Prop) (w:World) (H:Heap) (R:Env×Heap→Prop) (a':Act) (w':World):Prop:=
 ∃e' H' ι' F',R (e',H')∧In n ι' F' w' H' e' a'∧Step ι F H w ι' F' H' w'
theorem AfE {ops:Array Oper} {j g:Nat} (h:dstOf ops.toList j=some g):(ops[j]?).bind (·.dst)=some g:=by
 unfold dstOf at h
 rw [Aad] at h
 simp only [Array.getElem?_toList] at h
 cases ho:ops[j]? with
 |none=>simp [ho] at h
 |some o=>simp [ho] at h;simp [h]
theorem Aer {g:Nat} {v:V} (h:In n ι F w H e a) (hv:look e g=v):VR ι F w H v (a.tmps.getD g undef):=hv ▸ h.sim g
theorem Ado {ops:Array Oper} {j g:Nat} {b:Bool} (hd:dstOf ops.toList j=some g) (h:In n ι F w H e a) (hb:look e g= .t (.bool b)):yielded ops a.tmps j=some b:=by
 have h1:=(Aer h hb).t_inv.bool_inv
 have hlt:g<a.tmps.size:=by
  rcases Nat.lt_or_ge g a.tmps.size with h|h
  ·exact h
  ·simp [Array.getD,Nat.not_lt.2 h,undef] at h1
 unfold yielded
 rw [AfE hd]
 simp only [Option.bind_some]
 have:a.tmps[g]?=some (.bool b):=by
  rw [Array.getElem?_eq_getElem hlt]
  simpa [Array.getD,hlt] using h1
 rw [this]
theorem Aeh {ops:Array Oper} {j g:Nat} (hd:dstOf ops.toList j=some g) (h:In n ι F w H e a) (hb:look e g= .tup []):yielded ops a.tmps j=none:=by
 have h1:=Aer h hb
 generalize hu:a.tmps.getD g undef=u at h1
 cases h1 with
 |tup _ cs hl hc=>
 unfold yielded
 rw [AfE hd]
 simp only [Option.bind_some]
 cases hq:a.tmps[g]? with
 |none=>rfl
 |some v=>
  have:v= .tuple cs:=by
   rw [←hu]
   simp [Array.getD_eq_getD_getElem?,hq]
  subst this
  rfl
variable {ops:Array Oper} {i:Nat} {o:Oper} {R:Env×Heap→Prop} {Q:Exit→Act→World→Prop}
theorem AbN (hi:In n ι F w H e a) (hf:fitO cx n o=true) (h:wpQ S (stepQ cx ops.toList o e H) R):
  (Region.wanted o (yielded ops a.tmps)=true∧ ∃e1,In n ι F w H e1 a∧wpQ S (opQ cx o e1 H) (fun x=>R (Eva.put o.dst x.1 e1,x.2)))∨
  (Region.wanted o (yielded ops a.tmps)=false∧NextOk n ι F w H R (a.put o.dst undef) w):=by
 have skip: ∀e1,In n ι F w H e1 a→R (Eva.put o.dst (.tup []) e1,H)→NextOk n ι F w H R (a.put o.dst undef) w:=fun e1 hi1 hr=>
  ⟨_,_,ι,F,hr,hi1.put hf hi1.good (.refl ι F H w) AgE,.refl ι F H w⟩
 unfold stepQ at h
 unfold Region.wanted
 split at h
 ·rename_i hg
  rw [hg]
  exact .inl ⟨rfl,e,hi,Aaa _ _ _ h⟩
 ·rename_i j ww hg
  rw [hg]
  simp only
  split at h
  ·rename_i g hd
   split at h
   ·rename_i b hb
    rw [Ado hd hi hb]
    simp only [wpQ] at h
    split at h
    ·rename_i hbw
     have:b=ww:=by simpa using hbw
     subst this
     exact .inl ⟨by simp,_,hi.known hb,Aaa _ _ _ h⟩
    ·rename_i hbw
     refine .inr ⟨?_,skip _ (hi.known hb) h⟩
     have:b≠ww:=by simpa using hbw
     simp [this]
   ·rename_i hb
    rw [Aeh hd hi hb]
    exact .inr ⟨rfl,skip _ hi h⟩
   ·exact h.elim
  ·exact h.elim
theorem Afy {a':Act} {w':World} {e1:Env} (hi:In n ι F w H e1 a) (hf:fitO cx n o=true) (h:OpPost (fun x=>R (Eva.put o.dst x.1 e1,x.2)) o ι F H w a a' w'):NextOk n ι F w H R a' w':=by
 obtain ⟨v,H',ι',F',val,h1,rfl,h2,h3,h4⟩:=h
 exact ⟨_,_,ι',F',h1,hi.put hf h2 h3 h4,h3⟩
theorem AfY (hc:CxTy P cx) (hcal:Callable P cx) (hS: ∀f az H R,S (.call f az H) R→CallS P f az H R) (ho:ops[i]?=some o) (hi:In n ι F w H e a) (hf:fitO cx n o=true) (h:wpQ S (stepQ cx ops.toList o e H) R):
  wpOp P ops Q i (NextOk n ι F w H R) a w:=by
 unfold wpOp
 rw [ho]
 simp only
 have hty:opTy cx o=true:=by unfold fitO at hf;simp only [Bool.and_eq_true] at hf;exact hf.1
 rcases AbN hi hf h with ⟨h1,e1,h2,h3⟩|⟨h1,h2⟩
 ·rw [if_pos h1]
  exact .inl (Oper.wp_mono (fun a' w' hp=>Afy h2 hf hp) (Ahq hc hcal hS h2.good h2.sim hty h3))
 ·rw [h1]
  simpa using h2
theorem AeY (hc:CxTy P cx) (hcal:Callable P cx) (hS: ∀f az H R,S (.call f az H) R→CallS P f az H R) (ho:ops[i]?=some o) (hi:In n ι F w H e a) (hf:fitO cx n o=true) (hk:sort cx o≤2) (h:wpQ S (stepQ cx ops.toList o e H) R):
  wpOp P ops Q i (fun a' w'=>NextOk n ι F w H R a' w'∧OldSame w w') a w:=by
 unfold wpOp
 rw [ho]
 simp only
 have hty:opTy cx o=true:=by unfold fitO at hf;simp only [Bool.and_eq_true] at hf;exact hf.1
 rcases AbN hi hf h with ⟨h1,e1,h2,h3⟩|⟨h1,h2⟩
 ·rw [if_pos h1]
  exact .inl (Oper.wp_mono (fun a' w' hp=>⟨Afy h2 hf hp.1,hp.2⟩) (Ag4 hc hcal hS h2.good h2.sim hty hk h3))
 ·rw [h1]
  simpa using ⟨h2,.refl w⟩
theorem AbF {C:World→Prop} (hi:In n ι F w H e a) (hf:fitO cx n o=true) (hst: ∀ {e1:Env} {R:V×Heap→Prop},In n ι F w H e1 a→wpQ S (opQ cx o e1 H) R→Still C P R o ι F H w a) (h:wpQ S (stepQ cx ops.toList o e H) R):
  ∃v,YieldsIf P ops C o v a∧NextOk n ι F w H R (a.put o.dst v) w:=by
 rcases AbN hi hf h with ⟨h1,e1,h2,h3⟩|⟨h1,h2⟩
 ·obtain ⟨v,H',ι',F',val,k1,k2,k3,k4,k5⟩:=hst h2 h3
  exact ⟨val,.inl ⟨h1,k5⟩,_,_,ι',F',k1,h2.put hf k2 k3 k4,k3⟩
 ·exact ⟨undef,.inr ⟨h1,rfl⟩,h2⟩
theorem Adz (hc:CxTy P cx) (hcal:Callable P cx) (hS: ∀f az H R,S (.call f az H) R→CallS P f az H R) (hfit: ∀o∈ops.toList,fitO cx n o=true): ∀(l:List Oper) (k:Nat),(∀j,l[j]?=ops[k+j]?)→ ∀ {ι:Io} {F:Nat→Prop} {w:World} {H:Heap} {e:Env} {a:Act} {R:Env×Heap→Prop},
  In n ι F w H e a→wpQ S (runOps cx ops.toList l e H) R→(∀a' w',NextOk n ι F w H R a' w'→Q .normal a' w')→wpOps P ops Q (upto k l.length) a w
 | [],k,_,ι,F,w,H,e,a,R,hi,h,hQ=>by
  exact hQ a w ⟨e,H,ι,F,h,hi,.refl ι F H w⟩
 |o::l,k,hl,ι,F,w,H,e,a,R,hi,h,hQ=>by
  have ho:ops[k]?=some o:=by have:=hl 0;simpa using this.symm
  have hmem:o∈ops.toList:=by
   obtain ⟨hlt,rfl⟩:=Array.getElem?_eq_some_iff.1 ho
   simp
  simp only [List.length_cons,upto]
  rw [wpOps_cons]
  refine wpOp_mono ?_ (AfY (Q:=Q) hc hcal hS ho hi (hfit o hmem) (Aaa _ _ _ h))
  rintro a' w' ⟨e',H',ι',F',h1,h2,h3⟩
  refine Adz hc hcal hS hfit l (k+1) (fun j=>by have:=hl (j+1);simp at this;rw [this];congr 1;omega) h2 h1 ?_
  rintro a'' w'' ⟨e'',H'',ι'',F'',q1,q2,q3⟩
  exact hQ a'' w'' ⟨e'',H'',ι'',F'',q1,q2,h3.trans q3⟩
theorem Afh (n:Nat):upto 0 n=List.range n:=by
 apply List.ext_getElem?
 intro i
 by_cases h:i<n
 ·rw [Acd n 0 i h,List.getElem?_range h,Nat.zero_add]
 ·rw [List.getElem?_eq_none (by rw [Adc];omega),List.getElem?_eq_none (by simp;omega)]
theorem Af9 (hc:CxTy P cx) (hcal:Callable P cx) (hS: ∀f az H R,S (.call f az H) R→CallS P f az H R) (hfit: ∀o∈ops.toList,fitO cx n o=true) {id:Nat} (hi:In n ι F w H e a) (h:wpQ S (runOps cx ops.toList ops.toList e H) R)
  (hQ: ∀a' w',NextOk n ι F w H R a' w'→Q .normal a' w'):(Code.region id ops false).wp P Q a w:=by
 refine wp_region ?_
 rw [←Afh]
 have:=Adz (Q:=Q) hc hcal hS hfit ops.toList 0 (by simp) hi h hQ
 simpa using this
end
end Go.Eva
namespace Go.Eva
open Go.RowKit
section
variable {P:Program} {cx:Cx} {ops:Array Oper} {Q:Exit→Act→World→Prop}
def dstI (ops:Array Oper) (i:Nat):Option Nat:=(ops[i]?).bind (·.dst)
def puts (ops:Array Oper) (a:Act):List (Nat×Value)→Act
 | []=>a
 |(i,v)::r=>puts ops (a.put (dstI ops i) v) r
def unl (listed:Array Bool):List (Nat×Value)→Array Bool
 | []=>listed
 |(i,_)::r=>(unl listed r).setIfInBounds i false
theorem Aaq (listed:Array Bool) (j:Nat): ∀us:List (Nat×Value),(unl listed us)[j]?=if j∈us.map Prod.fst then (listed[j]?).map (fun _=>false) else listed[j]?
 | []=>by simp [unl]
 |(i,v)::r=>by
  simp only [unl,List.map_cons,List.mem_cons]
  rw [Array.getElem?_setIfInBounds]
  by_cases e:i=j
  ·subst e
   simp only [if_true,true_or]
   have:=Aaq listed i r
   have hs:(unl listed r).size=listed.size:=unl_size r
   by_cases h:i<listed.size
   ·simp [hs,h]
   ·simp [hs,h]
  ·have e':(j=i)=False:=eq_false fun h=>e h.symm
   rw [if_neg e,Aaq listed j r]
   simp only [e',false_or]
where
 unl_size: ∀us:List (Nat×Value),(unl listed us).size=listed.size
  | []=>rfl
  |(i,v)::r=>by simp [unl,unl_size r]
theorem Ad2 {listed:Array Bool} {us:List (Nat×Value)} {k:Nat} (hk:k∈Region.ready .any ops (unl listed us)) (hn:k∉us.map Prod.fst):k∈Region.ready .any ops listed:=by
 rw [mem_ready] at*
 obtain ⟨h0,o,ho,hall⟩:=hk
 refine ⟨?_,o,ho,fun e he hb=> ?_⟩
 ·have e:(unl listed us)[k]?=listed[k]?:=by rw [Aaq,if_neg hn]
  simpa [e] using h0
 ·have:=hall e he hb
  simp only [Array.getD_eq_getD_getElem?,Aaq] at this⊢
  split at this
  ·cases h:listed[e.on]?<;>simp [h] at this
  ·exact this
theorem Agt {listed:Array Bool} {us:List (Nat×Value)} {k:Nat} {o:Oper} (ho:ops[k]?=some o) (hk:k∈Region.ready .any ops (unl listed us)): ∀e∈o.after,Region.binds .any e=true→e.on∉us.map Prod.fst:=by
 rw [mem_ready] at hk
 obtain ⟨_,o',ho',hall⟩:=hk
 rw [ho] at ho'
 obtain rfl:=Option.some.inj ho'
 intro e he hb hm
 have:=hall e he hb
 simp only [Array.getD_eq_getD_getElem?,Aaq,if_pos hm] at this
 cases h:listed[e.on]?<;>simp [h] at this
theorem AdV {listed:Array Bool} {us:List (Nat×Value)} {k:Nat} (hn:k∉us.map Prod.fst):(unl listed us).setIfInBounds k true=unl (listed.setIfInBounds k true) us:=by
 refine Array.ext_getElem? fun j=> ?_
 rw [Array.getElem?_setIfInBounds,Aaq,Aaq,Array.getElem?_setIfInBounds,Aaq.unl_size]
 by_cases e:k=j
 ·subst e
  by_cases h:k<listed.size<;>simp [hn,h]
 ·simp [e]
theorem Ahd {listed:Array Bool} {l1 l2:List (Nat×Value)} {k:Nat} {v:Value} (hl:listed.getD k false=true) (h1:k∉l1.map Prod.fst) (h2:k∉l2.map Prod.fst):(unl listed (l1++(k,v)::l2)).setIfInBounds k true=unl listed (l1++l2):=by
 have hk:listed[k]?=some true:=by
  simp only [Array.getD_eq_getD_getElem?] at hl
  cases h:listed[k]? with
  |none=>simp [h] at hl
  |some b=>simp [h] at hl;rw [hl]
 refine Array.ext_getElem? fun j=> ?_
 rw [Array.getElem?_setIfInBounds,Aaq,Aaq,Aaq.unl_size]
 simp only [List.map_append,List.map_cons,List.mem_append,List.mem_cons]
 by_cases e:k=j
 ·subst e
  obtain ⟨q1,q2⟩:=Array.getElem?_eq_some_iff.1 hk
  simp [h1,h2,q1,q2]
 ·have e':(j=k)=False:=eq_false fun h=>e h.symm
  simp only [e,if_false,e',false_or]
structure Pd (P:Program) (cx:Cx) (ops:Array Oper) (w:World) (a:Act) (listed:Array Bool) (us:List (Nat×Value)):Prop where
 nd:(us.map Prod.fst).Nodup
 yl: ∀p∈us,∃o,ops[p.1]?=some o∧YieldsIf P ops (OldSame w) o p.2 a
 ap: ∀p∈us,∀q∈us,p.1≠q.1→ ∀o o',ops[p.1]?=some o→ops[q.1]?=some o'→o.apart ops o'=true
 ld: ∀p∈us,listed.getD p.1 false=true
 so: ∀p∈us,∀o,ops[p.1]?=some o→sort cx o≤1
 ed: ∀p∈us,∀o,ops[p.1]?=some o→ ∀e∈o.after,Region.binds .any e=true→listed.getD e.on false=true∧e.on∉us.map Prod.fst
theorem Aaw {i:Nat} {o:Oper} (h:ops[i]?=some o):dstI ops i=o.dst:=by simp [dstI,h]
theorem Adf {l:List (Nat×Value)}: ∀(a:Act) (k:Nat) (v:Value),(∀p∈l,∀d,dstI ops p.1=some d→dstI ops k≠some d)→puts ops (a.put (dstI ops k) v) l=(puts ops a l).put (dstI ops k) v:=by
 induction l with
 |nil=>intros;rfl
 |cons p r ih=>
  intro a k v h
  simp only [puts]
  rw [←Act.put_comm a p.2 v (h p (List.mem_cons_self ..))]
  exact ih _ k v fun q hq=>h q (List.mem_cons_of_mem _ hq)
theorem AeE {l1 l2:List (Nat×Value)} (a:Act) (k:Nat) (v:Value) (h: ∀p∈l1,∀d,dstI ops p.1=some d→dstI ops k≠some d):puts ops a (l1++(k,v)::l2)=puts ops (a.put (dstI ops k) v) (l1++l2):=by
 induction l1 generalizing a with
 |nil=>rfl
 |cons p r ih=>
  simp only [List.cons_append,puts]
  rw [ih _ fun q hq=>h q (List.mem_cons_of_mem _ hq),Act.put_comm a p.2 v (h p (List.mem_cons_self ..))]
theorem Pd.dst {w:World} {a:Act} {listed:Array Bool} {us:List (Nat×Value)} (h:Pd P cx ops w a listed us) {p q:Nat×Value} (hp:p∈us) (hq:q∈us) (hne:p.1≠q.1): ∀d,dstI ops p.1=some d→dstI ops q.1≠some d:=by
 obtain ⟨o,ho,_⟩:=h.yl p hp
 obtain ⟨o',ho',_⟩:=h.yl q hq
 intro d hd
 rw [Aaw ho] at hd
 rw [Aaw ho']
 exact (Oper.apart_spec (h.ap p hp q hq hne o o' ho ho')).2.1 d hd
theorem AcF {C:World→Prop} {o oj:Oper} {v u:Value} {a:Act} (hs: ∀cs b,o.op≠ .select cs b) (hap:o.apart ops oj=true):YieldsIf P ops C o v (a.put oj.dst u)↔YieldsIf P ops C o v a:=by
 have h3:=(Oper.apart_spec hap).2.2
 have e1:=execOp_put o hs a oj.dst u h3
 have e2:=wanted_put o a oj.dst u h3
 exact ⟨fun h=>h.of_same e1.symm e2.symm,fun h=>h.of_same e1 e2⟩
theorem yields_put' {C:World→Prop} {o oj:Oper} {v u:Value} {a:Act} (hs: ∀cs b,oj.op≠ .select cs b) (hap:o.apart ops oj=true):YieldsIf P ops C oj v (a.put o.dst u)↔YieldsIf P ops C oj v a:=by
 have h3:=(Oper.apart_spec hap).1
 have e1:=execOp_put oj hs a o.dst u h3
 have e2:=wanted_put oj a o.dst u h3
 exact ⟨fun h=>h.of_same e1.symm e2.symm,fun h=>h.of_same e1 e2⟩
theorem AdK {C:World→Prop} {j:Nat} {oj:Oper} {K:Act→World→Prop} {w:World} (hj:ops[j]?=some oj) (hsel: ∀(j:Nat) (o:Oper) cs b,ops[j]?=some o→o.op≠ .select cs b) (hQ: ∀c a w,¬Q (.panic c) a w):
  ∀(us:List (Nat×Value)) (a:Act),(us.map Prod.fst).Nodup→(∀p∈us,∃o,ops[p.1]?=some o∧o.apart ops oj=true∧YieldsIf P ops C o p.2 a)→(∀p∈us,∀q∈us,p.1≠q.1→ ∀o o',ops[p.1]?=some o→ops[q.1]?=some o'→o.apart ops o'=true)→
   wpOp P ops Q j K (puts ops a us) w→wpOp P ops Q j (fun a' w'=>(∀p∈us,∃o,ops[p.1]?=some o∧YieldsIf P ops C o p.2 a')∧K (puts ops a' us) w') a w
 | [],a,_,_,_,h=>wpOp_mono (fun a' w' k=>⟨by simp,k⟩) h
 |(i,v)::r,a,hnd,hy,hap,h=>by
  simp only [List.map_cons,List.nodup_cons] at hnd
  obtain ⟨o,ho,ha,hyi⟩:=hy (i,v) (List.mem_cons_self ..)
  simp only at ho ha hyi
  have hne: ∀p∈r,p.1≠i:=fun p hp e=>hnd.1 (e ▸ List.mem_map_of_mem hp)
  have hapr: ∀p∈r,∀o',ops[p.1]?=some o'→o.apart ops o'=true:=fun p hp o' ho'=>hap (i,v) (List.mem_cons_self ..) p (List.mem_cons_of_mem _ hp) (Ne.symm (hne p hp)) o o' ho ho'
  simp only [puts,Aaw ho] at h
  have h1:=AdK (C:=C) hj hsel hQ r (a.put o.dst v) hnd.2 (fun p hp=>by
   obtain ⟨o',ho',ha',hy'⟩:=hy p (List.mem_cons_of_mem _ hp)
   exact ⟨o',ho',ha',(yields_put' (fun cs b=>hsel _ o' cs b ho') (hapr p hp o' ho')).2 hy'⟩) (fun p hp q hq=>hap p (List.mem_cons_of_mem _ hp) q (List.mem_cons_of_mem _ hq)) h
  have h2:=wpOp_putIf hj ha (fun cs b=>hsel i o cs b ho) (fun cs b=>hsel j oj cs b hj) (fun c a w hq=>absurd hq (hQ c _ w)) hyi h1
  refine wpOp_mono (fun a' w' k=>⟨fun p hp=> ?_,?_⟩) h2
  ·rcases List.mem_cons.1 hp with rfl|hp
   ·exact ⟨o,ho,k.1⟩
   ·obtain ⟨o',ho',hy'⟩:=k.2.1 p hp
    exact ⟨o',ho',(yields_put' (fun cs b=>hsel _ o' cs b ho') (hapr p hp o' ho')).1 hy'⟩
  ·simp only [puts,Aaw ho]
   exact k.2.2
theorem AdL {o:Oper} (hs: ∀cs b,o.op≠ .select cs b): ∀(us:List (Nat×Value)) (a:Act),(∀p∈us,∃o',ops[p.1]?=some o'∧o'.apart ops o=true)→execOp (puts ops a us).eval o=execOp a.eval o∧Region.wanted o (yielded ops (puts ops a us).tmps)=Region.wanted o (yielded ops a.tmps)
 | [],a,_=>⟨rfl,rfl⟩
 |(i,v)::r,a,h=>by
  obtain ⟨o',ho',ha⟩:=h (i,v) (List.mem_cons_self ..)
  obtain ⟨h1,h2⟩:=AdL hs r (a.put (dstI ops i) v) fun p hp=>h p (List.mem_cons_of_mem _ hp)
  simp only [puts]
  rw [h1,h2,Aaw ho']
  exact ⟨execOp_put o hs a o'.dst v (Oper.apart_spec ha).1,wanted_put o a o'.dst v (Oper.apart_spec ha).1⟩
theorem AaT {C:World→Prop} {o:Oper} {v:Value} {us:List (Nat×Value)} {a:Act} (hs: ∀cs b,o.op≠ .select cs b) (h: ∀p∈us,∃o',ops[p.1]?=some o'∧o'.apart ops o=true):YieldsIf P ops C o v (puts ops a us)↔YieldsIf P ops C o v a:=by
 obtain ⟨h1,h2⟩:=AdL hs us a h
 exact ⟨fun k=>k.of_same h1.symm h2.symm,fun k=>k.of_same h1 h2⟩
theorem AcD {x y:Oper} (h:x.apart ops y=true):y.apart ops x=true:=by
 obtain ⟨h1,h2,h3⟩:=Oper.apart_spec h
 have key: ∀ {d:Nat} {l:List Nat},d∉l→(!l.contains d)=true:=fun h=>by simp [h]
 unfold Oper.apart
 simp only [Bool.and_eq_true]
 refine ⟨?_,?_⟩
 ·split
  ·rename_i d hd
   simp only [Bool.and_eq_true]
   refine ⟨key (h3 d hd),?_⟩
   simp only [bne_iff_ne,ne_eq]
   exact fun e=>h2 d e hd
  ·rfl
 ·split
  ·rename_i d hd
   exact key (h1 d hd)
  ·rfl
def depB (o:Oper) (p:Nat):Bool:=o.after.any fun e=>Region.binds .any e&&Nat.beq e.on p
def leftP (o:Oper) (ps:List Nat):List Nat:=ps.filter fun p=> !depB o p
def apartP (ops:Array Oper) (o:Oper) (ps:List Nat):Bool:=ps.all fun p=>match ops[p]? with
 |some q=>q.apart ops o
 |none=>false
def holdB (cx:Cx) (ops:Array Oper) (o:Oper):Bool:=Nat.ble (sort cx o) 1&&o.guard.isNone&&(match o.dst with
 |some d=> !(o.looksAt ops).contains d
 |none=>false)
def holdP (cx:Cx) (ops:Array Oper) (ps:List Nat):Bool:=ps.all fun p=>match ops[p]? with
 |some q=>holdB cx ops q
 |none=>false
theorem Aha {o:Oper} {p:Nat} (h: ∀e∈o.after,Region.binds .any e=true→e.on≠p):depB o p=false:=by
 unfold depB
 rw [Array.any_eq_false']
 intro e he
 simp only [Bool.and_eq_true,not_and]
 intro hb hq
 exact h e he hb (Nat.eq_of_beq_eq_true hq)
theorem AeP {o:Oper} {p:Nat} (h:depB o p=false): ∀e∈o.after,Region.binds .any e=true→e.on≠p:=by
 unfold depB at h
 rw [Array.any_eq_false'] at h
 intro e he hb hq
 refine h e he ?_
 simp [hb,hq,Nat.beq_refl]
theorem AaJ {o:Oper} {ps:List Nat} (h:apartP ops o ps=true) {p:Nat} (hp:p∈ps) {o':Oper} (ho:ops[p]?=some o'):o'.apart ops o=true:=by
 have:=List.all_eq_true.1 h p hp
 rw [ho] at this
 exact this
theorem Pd.next {w w':World} {a a':Act} {listed:Array Bool} {us us':List (Nat×Value)} {k:Nat} (h:Pd P cx ops w a listed us) (hf:us'.map Prod.fst=us.map Prod.fst) (hy: ∀p∈us',∃o,ops[p.1]?=some o∧YieldsIf P ops (OldSame w') o p.2 a'):Pd P cx ops w' a' (listed.setIfInBounds k true) us':=by
 have hm: ∀p∈us',∃q∈us,q.1=p.1:=fun p hp=>by
  have:p.1∈us.map Prod.fst:=hf ▸ List.mem_map_of_mem hp
  obtain ⟨q,hq,e⟩:=List.mem_map.1 this
  exact ⟨q,hq,e⟩
 refine ⟨hf ▸ h.nd,hy,fun p hp q hq hne o o' ho ho'=> ?_,fun p hp=> ?_,fun p hp o ho=> ?_,fun p hp o ho e he hb=> ?_⟩
 ·obtain ⟨p1,m1,e1⟩:=hm p hp
  obtain ⟨q1,m2,e2⟩:=hm q hq
  exact h.ap p1 m1 q1 m2 (by rw [e1,e2];exact hne) o o' (by rw [e1];exact ho) (by rw [e2];exact ho')
 ·obtain ⟨p1,m1,e1⟩:=hm p hp
  exact getD_set_true (e1 ▸ h.ld p1 m1)
 ·obtain ⟨p1,m1,e1⟩:=hm p hp
  exact h.so p1 m1 o (by rw [e1];exact ho)
 ·obtain ⟨p1,m1,e1⟩:=hm p hp
  obtain ⟨k1,k2⟩:=h.ed p1 m1 o (by rw [e1];exact ho) e he hb
  exact ⟨getD_set_true k1,by rw [hf];exact k2⟩
theorem Pd.drop {w:World} {a:Act} {listed:Array Bool} {l1 l2:List (Nat×Value)} {k:Nat} {v:Value} {o:Oper} (hsel: ∀(j:Nat) (o:Oper) cs b,ops[j]?=some o→o.op≠ .select cs b) (h:Pd P cx ops w a listed (l1++(k,v)::l2)) (ho:ops[k]?=some o):Pd P cx ops w (a.put o.dst v) listed (l1++l2):=by
 have hsub: ∀p∈l1++l2,p∈l1++(k,v)::l2:=fun p hp=>by
  rcases List.mem_append.1 hp with hp|hp
  ·exact List.mem_append_left _ hp
  ·exact List.mem_append_right _ (List.mem_cons_of_mem _ hp)
 have hnd:=h.nd
 simp only [List.map_append,List.map_cons] at hnd
 have hk:=(List.perm_middle.nodup_iff).1 hnd
 obtain ⟨hk1,hk2⟩:=List.nodup_cons.1 hk
 rw [←List.map_append] at hk1 hk2
 have hne: ∀p∈l1++l2,p.1≠k:=fun p hp e=>hk1 (e ▸ List.mem_map_of_mem hp)
 refine ⟨hk2,fun p hp=> ?_,fun p hp q hq=>h.ap p (hsub p hp) q (hsub q hq),fun p hp=>h.ld p (hsub p hp),fun p hp=>h.so p (hsub p hp),fun p hp o' ho' e he hb=> ?_⟩
 ·obtain ⟨o',ho',hy⟩:=h.yl p (hsub p hp)
  exact ⟨o',ho',(AcF (fun cs b=>hsel _ o' cs b ho') (h.ap p (hsub p hp) (k,v) (by simp) (hne p hp) o' o ho' ho)).2 hy⟩
 ·obtain ⟨k1,k2⟩:=h.ed p (hsub p hp) o' ho' e he hb
  refine ⟨k1,fun hm=>k2 ?_⟩
  simp only [List.map_append,List.map_cons,List.mem_append,List.mem_cons] at hm⊢
  exact hm.elim .inl fun h=> .inr (.inr h)
variable {S:Task→(Res→Prop)→Prop} {n:Nat}
theorem Ads (hc:CxTy P cx) (hcal:Callable P cx) (hS: ∀f az H R,S (.call f az H) R→CallS P f az H R) (hfit: ∀o∈ops.toList,fitO cx n o=true) (hsel: ∀(j:Nat) (o:Oper) cs b,ops[j]?=some o→o.op≠ .select cs b) (hQ: ∀c a w,¬Q (.panic c) a w)
  {k:Nat} {o:Oper} {listed:Array Bool} {us:List (Nat×Value)} {ps:List Nat} {ι:Io} {F:Nat→Prop} {w:World} {H:Heap} {e:Env} {a:Act} {R:Env×Heap→Prop} (ho:ops[k]?=some o) (hi:In n ι F w H e (puts ops a us)) (hp:Pd P cx ops w a listed us)
  (hk:k∈Region.ready .any ops (unl listed us)) (hs: ∀p∈us,p.1∈ps) (hap:apartP ops o (leftP o ps)=true) (h:wpQ S (stepQ cx ops.toList o e H) R):
  (∀p∈us,p.1∈leftP o ps)∧wpOp P ops Q k (fun a' w'=>(sort cx o≤2→OldSame w w')∧(∀p∈us,∃o',ops[p.1]?=some o'∧YieldsIf P ops (OldSame w) o' p.2 a')∧NextOk n ι F w H R (puts ops a' us) w') a w:=by
 have hleft: ∀p∈us,p.1∈leftP o ps:=fun p hpu=>by
  unfold leftP
  rw [List.mem_filter]
  refine ⟨hs p hpu,?_⟩
  rw [Aha fun e he hb hon=>Agt ho hk e he hb (hon ▸ List.mem_map_of_mem hpu)]
  rfl
 refine ⟨hleft,?_⟩
 have hf:fitO cx n o=true:=by
  obtain ⟨hlt,rfl⟩:=Array.getElem?_eq_some_iff.1 ho
  exact hfit _ (by simp)
 have h1:wpOp P ops Q k (fun a' w'=>(sort cx o≤2→OldSame w w')∧NextOk n ι F w H R a' w') (puts ops a us) w:=by
  by_cases hso:sort cx o≤2
  ·exact wpOp_mono (fun a' w' k=>⟨fun _=>k.2,k.1⟩) (AeY hc hcal hS ho hi hf hso h)
  ·exact wpOp_mono (fun a' w' k=>⟨fun h=>absurd h hso,k⟩) (AfY hc hcal hS ho hi hf h)
 have h2:=AdK (C:=OldSame w) ho hsel hQ us a hp.nd (fun p hpu=>by
  obtain ⟨o',ho',hy⟩:=hp.yl p hpu
  exact ⟨o',ho',AaJ hap (hleft p hpu) ho',hy⟩) hp.ap h1
 exact wpOp_mono (fun a' w' k=>⟨k.2.1,k.1,k.2.2⟩) h2
theorem In.again {ι ι':Io} {F F':Nat→Prop} {w:World} {H H':Heap} {e:Env} {a:Act} (h:In n ι F w H e a) (hg:Good ι' F' w H') (st:Step ι F H w ι' F' H' w):In n ι' F' w H' e a:=⟨hg,fun t=>st.vr h.good (h.sim t),h.size,h.defers⟩
theorem Ago (hc:CxTy P cx) (hfit: ∀o∈ops.toList,fitO cx n o=true) (hsel: ∀(j:Nat) (o:Oper) cs b,ops[j]?=some o→o.op≠ .select cs b) {a:Act} {w:World} {e:Env} {R:Env×Heap→Prop}: ∀(qs:List Nat) {us:List (Nat×Value)} {ι:Io} {F:Nat→Prop} {H:Heap},
  In n ι F w H e (puts ops a us)→(us.map Prod.fst).Nodup→(∀p∈us,∀q∈us,p.1≠q.1→ ∀o o',ops[p.1]?=some o→ops[q.1]?=some o'→o.apart ops o'=true)→(∀p∈us,∃o,ops[p.1]?=some o)→holdP cx ops qs=true→wpQ S (chkQ cx ops.toList qs e H) R→
  ∃us' ι' F' H',R (e,H')∧us'.map Prod.fst=us.map Prod.fst∧In n ι' F' w H' e (puts ops a us')∧Step ι F H w ι' F' H' w∧(∀p∈us',p∈us∨ ∃o,ops[p.1]?=some o∧YieldsIf P ops (OldSame w) o p.2 a)∧(∀p∈us',p.1∈qs→ ∃o,ops[p.1]?=some o∧YieldsIf P ops (OldSame w) o p.2 a)
 | [],us,ι,F,H,hi,_,_,_,_,h=>⟨us,ι,F,H,h,rfl,hi,.refl ι F H w,fun p hp=> .inl hp,by simp⟩
 |q::qs,us,ι,F,H,hi,hnd,hap,hex,hh,h=>by
  simp only [holdP,List.all_cons,Bool.and_eq_true] at hh
  obtain ⟨hh1,hh2⟩:=hh
  unfold chkQ at h
  rw [Aad] at h
  simp only [Array.getElem?_toList] at h
  split at h
  ·rename_i o ho
   rw [ho] at hh1
   simp only [holdB,Bool.and_eq_true] at hh1
   obtain ⟨⟨hs1,hgd⟩,hself⟩:=hh1
   split at h
   ·rename_i d hd
    rw [hd] at hself
    have hself:d∉o.looksAt ops:=by simpa using hself
    have hf:fitO cx n o=true:=by
     obtain ⟨hlt,rfl⟩:=Array.getElem?_eq_some_iff.1 ho
     exact hfit _ (by simp)
    have hty:opTy cx o=true:=by unfold fitO at hf;simp only [Bool.and_eq_true] at hf;exact hf.1
    have hdn:d<n:=by unfold fitO at hf;rw [hd] at hf;simp only [Bool.and_eq_true] at hf;simpa using hf.2
    obtain ⟨v,H1,ι1,F1,val,k1,k2,k3,k4,k5⟩:=Acc hc hi.good hi.sim hty (Nat.le_of_ble_eq_true hs1) (Aaa _ _ _ h)
    obtain ⟨heq,k1⟩:=k1
    have heq:=V.eqB_ok heq
    subst heq
    have hi1:=hi.again k2 k3
    have hw:Region.wanted o (yielded ops (puts ops a us).tmps)=true:=by
     unfold Region.wanted
     cases hg:o.guard with
     |none=>rfl
     |some x=>rw [hg] at hgd;simp at hgd
    by_cases hq:q∈us.map Prod.fst
    ·obtain ⟨p,hp,hpq⟩:=List.mem_map.1 hq
     obtain ⟨l1,l2,rfl⟩:=List.append_of_mem hp
     obtain ⟨q',u⟩:=p
     simp only at hpq
     subst hpq
     have hne: ∀p∈l1++l2,p.1≠q':=by
      simp only [List.map_append,List.map_cons] at hnd
      have:=(List.nodup_cons.1 ((List.perm_middle.nodup_iff).1 hnd)).1
      rw [←List.map_append] at this
      exact fun p hp e=>this (e ▸ List.mem_map_of_mem hp)
     have hsub: ∀p∈l1++l2,p∈l1++(q',u)::l2:=fun p hp=>by
      rcases List.mem_append.1 hp with hp|hp
      ·exact List.mem_append_left _ hp
      ·exact List.mem_append_right _ (List.mem_cons_of_mem _ hp)
     have hapo: ∀p∈l1++l2,∃o',ops[p.1]?=some o'∧o'.apart ops o=true:=fun p hp=>by
      obtain ⟨o',ho'⟩:=hex p (hsub p hp)
      exact ⟨o',ho',hap p (hsub p hp) (q',u) (by simp) (hne p hp) o' o ho' ho⟩
     have hdst: ∀p∈l1++l2,∀d',dstI ops p.1=some d'→dstI ops q'≠some d':=fun p hp d' hd'=>by
      obtain ⟨o',ho',ha⟩:=hapo p hp
      rw [Aaw ho'] at hd'
      rw [Aaw ho]
      exact (Oper.apart_spec ha).2.1 d' hd'
     have form: ∀x,puts ops a (l1++(q',x)::l2)=(puts ops a (l1++l2)).put (some d) x:=fun x=>by
      rw [AeE a q' x fun p hp=>hdst p (List.mem_append_left _ hp),Adf a q' x hdst,Aaw ho,hd]
     have hy:YieldsIf P ops (OldSame w) o val a:=by
      have h1:YieldsIf P ops (OldSame w) o val (puts ops a (l1++(q',u)::l2)):= .inl ⟨hw,k5⟩
      rw [form u] at h1
      have h2:YieldsIf P ops (OldSame w) o val (puts ops a (l1++l2)):=
       h1.of_same (execOp_put o (fun cs b=>hsel _ o cs b ho) _ (some d) u (fun d' hd'=>by cases hd';exact hself)).symm (wanted_put o _ (some d) u (fun d' hd'=>by cases hd';exact hself)).symm
      exact (AaT (fun cs b=>hsel _ o cs b ho) hapo).1 h2
     have hi2:In n ι1 F1 w H1 e (puts ops a (l1++(q',val)::l2)):=by
      rw [form val]
      rw [form u] at hi1
      refine ⟨hi1.good,fun t=> ?_,by have:=hi1.size;simpa [Act.put] using this,by have:=hi1.defers;simpa [Act.put] using this⟩
      have h1:=hi1.sim t
      by_cases e1:d=t
      ·subst e1
       have hsz:d<(puts ops a (l1++l2)).tmps.size:=by
        have h9:(puts ops a (l1++l2)).tmps.size=n:=by have:=hi1.size;simpa [Act.put] using this
        rw [h9];exact hdn
       simpa [Act.put,hsz] using k4
      ·simp only [Act.put,Array.getD_eq_getD_getElem?] at h1⊢
       rw [Array.getElem?_setIfInBounds_ne e1] at h1⊢
       exact h1
     have hmap:(l1++(q',val)::l2).map Prod.fst=(l1++(q',u)::l2).map Prod.fst:=by simp
     have hmem: ∀p∈l1++(q',val)::l2,p=(q',val)∨p∈l1++l2:=fun p hp=>by
      simp only [List.mem_append,List.mem_cons] at hp⊢
      rcases hp with hp|hp|hp
      ·exact .inr (.inl hp)
      ·exact .inl hp
      ·exact .inr (.inr hp)
     obtain ⟨us',ι2,F2,H2,r1,r2,r3,r4,r5,r6⟩:=Ago hc hfit hsel qs hi2 (hmap ▸ hnd) (fun p hp r hr hne o1 o2 h1 h2=>by
      have lift: ∀p∈l1++(q',val)::l2,∃p'∈l1++(q',u)::l2,p'.1=p.1:=fun p hp=>by
       rcases hmem p hp with rfl|hp
       ·exact ⟨(q',u),by simp,rfl⟩
       ·exact ⟨p,hsub p hp,rfl⟩
      obtain ⟨p',m1,e1⟩:=lift p hp
      obtain ⟨r',m2,e2⟩:=lift r hr
      exact hap p' m1 r' m2 (by rw [e1,e2];exact hne) o1 o2 (by rw [e1];exact h1) (by rw [e2];exact h2)) (fun p hp=>by
      rcases hmem p hp with rfl|hp
      ·exact ⟨o,ho⟩
      ·exact hex p (hsub p hp)) hh2 k1
     refine ⟨us',ι2,F2,H2,r1,r2.trans hmap,r3,k3.trans r4,fun p hp=> ?_,fun p hp hpq=> ?_⟩
     ·rcases r5 p hp with h|h
      ·rcases hmem p h with rfl|h
       ·exact .inr ⟨o,ho,hy⟩
       ·exact .inl (hsub p h)
      ·exact .inr h
     ·rcases List.mem_cons.1 hpq with hpq|hpq
      ·rcases r5 p hp with h|h
       ·rcases hmem p h with rfl|h
        ·exact ⟨o,ho,hy⟩
        ·exact absurd hpq (hne p h)
       ·exact h
      ·exact r6 p hp hpq
    ·obtain ⟨us',ι2,F2,H2,r1,r2,r3,r4,r5,r6⟩:=Ago hc hfit hsel qs hi1 hnd hap hex hh2 k1
     refine ⟨us',ι2,F2,H2,r1,r2,r3,k3.trans r4,r5,fun p hp hpq=> ?_⟩
     rcases List.mem_cons.1 hpq with hpq|hpq
     ·exact absurd (r2 ▸ List.mem_map_of_mem hp:p.1∈us.map Prod.fst) (hpq ▸ hq)
     ·exact r6 p hp hpq
   ·exact h.elim
  ·exact h.elim
end
end Go.Eva
namespace Go.Eva
open Go.RowKit
section
variable {P:Program} {cx:Cx} {ops:Array Oper} {Q:Exit→Act→World→Prop}
def wpAnyR (P:Program) (cx:Cx) (ops:Array Oper) (Q:Exit→Act→World→Prop):Nat→Array Bool→Act→World→Prop
 |0,listed,a,w=>Region.ready .any ops listed= []∧Q .normal a w
 |f+1,listed,a,w=>(Region.ready .any ops listed= []→Q .normal a w)∧
  ∀i∈Region.ready .any ops listed,wpOp P ops Q i (fun a' w'=>((∀o,ops[i]?=some o→sort cx o≤2)→OldSame w w')∧wpAnyR P cx ops Q f (listed.setIfInBounds i true) a' w') a w
theorem Ae8: ∀(f:Nat) (listed:Array Bool) (a:Act) (w:World),wpAnyR P cx ops Q f listed a w→wpAny P .any ops Q f listed a w
 |0,_,_,_,h=>h
 |f+1,_,_,_,h=>⟨h.1,fun i hi=>wpOp_mono (fun a' w' k=>Ae8 f _ a' w' k.2) (h.2 i hi)⟩
def lateOk (ops:Array Oper) (late:List Nat) (i:Nat):Bool:=late.all fun k=>Nat.beq k i||(match ops[k]? with
 |some o=>o.after.any fun e=>Region.binds .any e&&mem late e.on
 |none=>false)
def lateOf (ops:Array Oper):List Nat→List Nat→List Nat
 | [],acc=>acc
 |j::r,acc=>match ops[j]? with
  |some o=>match o.after.any fun e=>Region.binds .any e&&mem acc e.on with
   |true=>lateOf ops r (acc++ [j])
   |false=>lateOf ops r acc
  |none=>lateOf ops r acc
theorem AgQ {late:List Nat} {i:Nat} (h:lateOk ops late i=true): ∀k∈late,k≠i→ ∃o,ops[k]?=some o∧ ∃e∈o.after,Region.binds .any e=true∧e.on∈late:=by
 intro k hk hne
 have:=List.all_eq_true.1 h k hk
 simp only [Bool.or_eq_true] at this
 rcases this with this|this
 ·exact absurd (Nat.eq_of_beq_eq_true this) hne
 ·split at this
  ·rename_i o ho
   obtain ⟨ed,hed,hb⟩:=Array.any_eq_true'.1 this
   simp only [Bool.and_eq_true] at hb
   exact ⟨o,ho,ed,hed,hb.1,mem_iff.1 hb.2⟩
  ·contradiction
theorem Ac9 {i:Nat} {oi:Oper} {v:Value} {C:World→Prop} {late:List Nat} (hi:ops[i]?=some oi) (hsel: ∀(j:Nat) (o:Oper) cs b,ops[j]?=some o→o.op≠ .select cs b) (hQ: ∀c a w,¬Q (.panic c) a w)
  (hlate: ∀k∈late,k≠i→ ∃o,ops[k]?=some o∧ ∃e∈o.after,Region.binds .any e=true∧e.on∈late):
  ∀(f:Nat) (listed:Array Bool) (a:Act) (w:World),(∀k∈late,listed.getD k true=false)→
   (∀j oj,ops[j]?=some oj→j≠i→listed.getD j true=false→j∉late→oi.apart ops oj=true∧ ∀w1 w2,C w1→(sort cx oj≤2→OldSame w1 w2)→C w2)→
   i∈Region.ready .any ops listed→YieldsIf P ops C oi v a→C w→
   wpAnyR P cx ops Q f (listed.setIfInBounds i true) (a.put oi.dst v) w→wpAnyR P cx ops Q (f+1) listed a w:=by
 intro f
 induction f with
 |zero=>
  intro listed a w _ _ hr hy hC h
  refine ⟨fun h0=>by rw [h0] at hr;simp at hr,fun j hj=> ?_⟩
  by_cases e:j=i
  ·subst e;exact hy.wpOp hi hC ⟨fun _=> .refl w,h⟩
  ·have:=ready_mono hj e
   rw [h.1] at this
   simp at this
 |succ f ih=>
  intro listed a w hl hfree hr hy hC h
  refine ⟨fun h0=>by rw [h0] at hr;simp at hr,fun j hj=> ?_⟩
  by_cases e:j=i
  ·subst e;exact hy.wpOp hi hC ⟨fun _=> .refl w,h⟩
  ·have h1:=h.2 j (ready_mono hj e)
   obtain ⟨hun,oj,hoj,hall⟩:=mem_ready.1 hj
   have hnl:j∉late:=by
    intro hjl
    obtain ⟨o,ho,ed,hed,hb,hon⟩:=hlate j hjl e
    rw [hoj] at ho
    obtain rfl:=Option.some.inj ho
    have h2:=hall ed hed hb
    have h3:=hl ed.on hon
    rcases Nat.lt_or_ge ed.on listed.size with hlt|hge
    ·simp [hlt] at h2 h3;rw [h3] at h2;contradiction
    ·simp [Array.getElem?_eq_none hge] at h2
   obtain ⟨hap,hkeep⟩:=hfree j oj hoj e hun hnl
   have h2:=wpOp_putIf hoj hap (fun cs b=>hsel i oi cs b hi) (fun cs b=>hsel j oj cs b hoj) (fun c a w hq=>absurd hq (hQ c _ w)) hy h1
   refine wpOp_mono (fun a' w' k=>⟨k.2.1,?_⟩) h2
   have hC':C w':=hkeep w w' hC (fun hs=>k.2.1 (fun o ho=>by rw [hoj] at ho;obtain rfl:=Option.some.inj ho;exact hs))
   refine ih (listed.setIfInBounds j true) a' w' ?_ ?_ (ready_mono hr (Ne.symm e)) k.1 hC' ?_
   ·intro k' hk'
    rw [getD_set_ne true (show j≠k' from fun h=>hnl (by rw [h];exact hk'))]
    exact hl k' hk'
   ·intro k' ok hk hki hunk hno
    refine hfree k' ok hk hki ?_ hno
    by_cases hjk:j=k'
    ·subst hjk;exact hun
    ·rw [getD_set_ne true hjk] at hunk;exact hunk
   ·rw [Array.setIfInBounds_comm _ _ e]
    exact k.2.2
def freeL (cx:Cx) (ops:Array Oper) (listed:Array Bool) (late:List Nat) (i:Nat) (oi:Oper) (ld:Bool):Bool:=lateOk ops late i&&late.all (fun k=> !listed.getD k true)&&(List.range ops.size).all fun j=>
 Nat.beq j i||listed.getD j true||mem late j||(match ops[j]? with
  |some o=>oi.apart ops o&&(!ld||Nat.ble (sort cx o) 2)
  |none=>true)
theorem Ae4 {listed:Array Bool} {late:List Nat} {i:Nat} {oi:Oper} {ld:Bool} (h:freeL cx ops listed late i oi ld=true):
  (∀k∈late,k≠i→ ∃o,ops[k]?=some o∧ ∃e∈o.after,Region.binds .any e=true∧e.on∈late)∧(∀k∈late,listed.getD k true=false)∧
  ∀(j:Nat) oj,ops[j]?=some oj→j≠i→listed.getD j true=false→j∉late→oi.apart ops oj=true∧(ld=true→sort cx oj≤2):=by
 unfold freeL at h
 simp only [Bool.and_eq_true] at h
 refine ⟨AgQ h.1.1,fun k hk=> ?_,?_⟩
 ·have:=List.all_eq_true.1 h.1.2 k hk
  simpa using this
 intro j oj hj hne hl hno
 have hlt:=(Array.getElem?_eq_some_iff.1 hj).1
 have:=List.all_eq_true.1 h.2 j (List.mem_range.2 hlt)
 simp only [hl,hj,Bool.or_eq_true,Bool.or_false] at this
 rcases this with (this|this)|this
 ·exact absurd (Nat.eq_of_beq_eq_true this) hne
 ·exact absurd (mem_iff.1 this) hno
 ·simp only [Bool.and_eq_true,Bool.or_eq_true] at this
  refine ⟨this.1,fun hld=> ?_⟩
  rcases this.2 with h|h
  ·rw [hld] at h;simp at h
  ·exact Nat.le_of_ble_eq_true h
def isOne (l:List Nat) (i:Nat):Bool:=match l with
 | [x]=>Nat.beq x i
 |_=>false
def isTwo (l:List Nat) (i j:Nat):Bool:=match l with
 | [x,y]=>Nat.beq x i&&Nat.beq y j
 |_=>false
def oneB (cx:Cx) (ops:Array Oper) (listed:Array Bool) (ex ps:List Nat) (i:Nat) (o:Oper):Bool:=isOne ((Region.ready .any ops listed).filter fun k=> !mem ex k) i&&apartP ops o (leftP o ps)
def quietP (cx:Cx) (o:Oper) (ps:List Nat):Bool:=Nat.ble (sort cx o) 2||(leftP o ps).isEmpty
def earlyB (cx:Cx) (ops:Array Oper) (listed:Array Bool) (ps:List Nat) (i:Nat) (o:Oper):Bool:=(Region.ready .any ops listed).contains i&&(ps.all (fun p=> !depB o p)&&apartP ops o ps&&(match sort cx o with
 |0=>freeL cx ops listed (lateOf ops (List.range ops.size) [i]) i o false
 |1=>freeL cx ops listed (lateOf ops (List.range ops.size) [i]) i o true
 |_=>false))
def okTo (cx:Cx) (ops:Array Oper) (fin:Nat→Array Bool→Bool):Ord→Nat→Array Bool→List Nat→List Nat→Bool
 | .done,f,listed,ex,ps=>ex.isEmpty&&ps.isEmpty&&fin f listed
 | .one _ _,0,_,_,_=>false
 | .one i r,f+1,listed,ex,ps=>(match ops[i]? with
  |some o=>((ex.isEmpty&&earlyB cx ops listed ps i o)||(oneB cx ops listed ex ps i o&&quietP cx o ps))&&okTo cx ops fin r f (listed.setIfInBounds i true) [] (leftP o ps)
  |none=>false)
 | .two _ _ _ _,0,_,_,_=>false
 | .two i r j s,f+1,listed,ex,ps=>ex.isEmpty&&ps.isEmpty&&(isTwo (Region.ready .any ops listed) i j&&okTo cx ops fin r f (listed.setIfInBounds i true) [] []&&okTo cx ops fin s f (listed.setIfInBounds j true) [] [])
 | .alt _ _ _,0,_,_,_=>false
 | .alt i r s,f+1,listed,ex,ps=>(Region.ready .any ops listed).contains i&&((match ops[i]? with
  |some o=>apartP ops o (leftP o ps)&&quietP cx o ps&&okTo cx ops fin r f (listed.setIfInBounds i true) [] (leftP o ps)
  |none=>false)&&okTo cx ops fin s (f+1) listed (i::ex) ps)
 | .hold _ _,0,_,_,_=>false
 | .hold i r,f+1,listed,ex,ps=>ex.isEmpty&&((Region.ready .any ops listed).contains i&&(match ops[i]? with
  |some o=>holdB cx ops o&&ps.all (fun p=> !depB o p)&&apartP ops o ps&&okTo cx ops fin r f (listed.setIfInBounds i true) [] (i::ps)
  |none=>false))
 | .keep _ _ _,0,_,_,_=>false
 | .keep i qs r,f+1,listed,ex,ps=>(match ops[i]? with
  |some o=>oneB cx ops listed ex ps i o&&eqN qs (leftP o ps)&&holdP cx ops qs&&okTo cx ops fin r f (listed.setIfInBounds i true) [] qs
  |none=>false)
def okEnd (ops:Array Oper) (_:Nat) (listed:Array Bool):Bool:=(Region.ready .any ops listed).isEmpty
def okOrd (cx:Cx) (ops:Array Oper) (d:Ord) (f:Nat) (listed:Array Bool) (ex:List Nat):Bool:=okTo cx ops (okEnd ops) d f listed ex []
variable {S:Task→(Res→Prop)→Prop} {n:Nat}
theorem AcY {l:List Nat} {i:Nat} (h:isOne l i=true):l= [i]:=by
 unfold isOne at h
 split at h
 ·rename_i x;rw [Nat.eq_of_beq_eq_true h]
 ·contradiction
theorem Agd {listed:Array Bool} {ex ps:List Nat} {i:Nat} {o:Oper} (h:oneB cx ops listed ex ps i o=true):(∀k∈Region.ready .any ops listed,k∉ex→k=i)∧apartP ops o (leftP o ps)=true:=by
 unfold oneB at h
 simp only [Bool.and_eq_true] at h
 refine ⟨fun k hk hne=> ?_,h.2⟩
 have:k∈(Region.ready .any ops listed).filter fun k=> !mem ex k:=by
  rw [List.mem_filter]
  refine ⟨hk,?_⟩
  cases hm:mem ex k with
  |false=>rfl
  |true=>exact absurd (mem_iff.1 hm) hne
 rw [AcY h.1] at this
 simpa using this
theorem drain {f:Nat} {listed:Array Bool} {I:List (Nat×Value)→Act→World→Prop}
  (hI: ∀us a w,I us a w→Pd P cx ops w a listed us) (hdrop: ∀l1 l2 k v o a w,ops[k]?=some o→I (l1++(k,v)::l2) a w→I (l1++l2) (a.put o.dst v) w)
  (hend: ∀a w,I [] a w→Region.ready .any ops listed= []→Q .normal a w) (hf:f=0→ ∀a w,I [] a w→Region.ready .any ops listed= [])
  (hpick: ∀us a w,I us a w→ ∀g,f=g+1→ ∀k∈Region.ready .any ops (unl listed us),k∉us.map Prod.fst→wpOp P ops Q k (fun a' w'=>((∀o,ops[k]?=some o→sort cx o≤2)→OldSame w w')∧wpAnyR P cx ops Q (g+us.length) ((unl listed us).setIfInBounds k true) a' w') a w)
  (hf0:f=0→ ∀us a w,I us a w→ ∀k∈Region.ready .any ops (unl listed us),k∈us.map Prod.fst):
  ∀(m:Nat) (us:List (Nat×Value)) (a:Act) (w:World),us.length=m→I us a w→wpAnyR P cx ops Q (f+us.length) (unl listed us) a w:=by
 intro m
 induction m with
 |zero=>
  intro us a w hm hu
  obtain rfl:=List.eq_nil_of_length_eq_zero hm
  cases f with
  |zero=>exact ⟨hf rfl a w hu,hend a w hu (hf rfl a w hu)⟩
  |succ g=>exact ⟨fun h=>hend a w hu h,fun k hk=>hpick [] a w hu g rfl k hk (by simp)⟩
 |succ m ih=>
  intro us a w hm hu
  have hp:=hI us a w hu
  have hlen:f+us.length=(f+m)+1:=by omega
  rw [hlen]
  have hready:Region.ready .any ops (unl listed us)≠ []:=by
   match us,hm with
   |p::r,_=>
    obtain ⟨o,ho,_⟩:=hp.yl p (List.mem_cons_self ..)
    have:p.1∈Region.ready .any ops (unl listed (p::r)):=by
     rw [mem_ready]
     refine ⟨?_,o,ho,fun e he hb=> ?_⟩
     ·have h1:=hp.ld p (List.mem_cons_self ..)
      simp only [Array.getD_eq_getD_getElem?,Aaq] at h1⊢
      cases hq:listed[p.1]?<;>simp [hq] at h1⊢
     ·obtain ⟨k1,k2⟩:=hp.ed p (List.mem_cons_self ..) o ho e he hb
      simp only [Array.getD_eq_getD_getElem?,Aaq,if_neg k2] at k1⊢
      exact k1
    intro e
    rw [e] at this
    simp at this
  refine ⟨fun h=>absurd h hready,fun k hk=> ?_⟩
  by_cases hku:k∈us.map Prod.fst
  ·obtain ⟨p,hpm,hpk⟩:=List.mem_map.1 hku
   obtain ⟨l1,l2,rfl⟩:=List.append_of_mem hpm
   obtain ⟨k',v⟩:=p
   simp only at hpk
   subst hpk
   obtain ⟨o,ho,hy⟩:=hp.yl (k',v) (by simp)
   simp only at ho hy
   have hnd:=hp.nd
   simp only [List.map_append,List.map_cons] at hnd
   have hn:=(List.nodup_cons.1 ((List.perm_middle.nodup_iff).1 hnd)).1
   simp only [List.mem_append,not_or] at hn
   refine hy.wpOp ho (.refl w) ⟨fun _=> .refl w,?_⟩
   rw [Ahd (hp.ld (k',v) (by simp)) hn.1 hn.2]
   have hl:(l1++l2).length=m:=by simp at hm⊢;omega
   have:=ih (l1++l2) (a.put o.dst v) w hl (hdrop l1 l2 k' v o a w ho hu)
   rw [hl] at this
   exact this
  ·cases f with
   |zero=>exact absurd (hf0 rfl us a w hu k hk) hku
   |succ g=>
    have:=hpick us a w hu g rfl k hk hku
    rw [show g+1+m=g+us.length by omega]
    exact this
theorem Aho (hc:CxTy P cx) (hcal:Callable P cx) (hS: ∀f az H R,S (.call f az H) R→CallS P f az H R) (hfit: ∀o∈ops.toList,fitO cx n o=true) (hsel:Region.noSelect ops=true) (hQ: ∀c a w,¬Q (.panic c) a w) {fin:Nat→Array Bool→Bool}: ∀(d:Ord) (f:Nat) (listed:Array Bool) (ex ps:List Nat)
  {ι:Io} {F:Nat→Prop} {w:World} {H:Heap} {e:Env} {us:List (Nat×Value)} {a:Act} {R:Env×Heap→Prop},
  okTo cx ops fin d f listed ex ps=true→In n ι F w H e (puts ops a us)→Pd P cx ops w a listed us→(∀p∈us,p.1∈ps)→wpQ S (ordQ cx ops.toList d e H) R→(∀f listed,fin f listed=true→ ∀a' w',NextOk n ι F w H R a' w'→wpAnyR P cx ops Q f listed a' w')→
   (ex= []→wpAnyR P cx ops Q (f+us.length) (unl listed us) a w)∧
   ∀g,f=g+1→ ∀k∈Region.ready .any ops (unl listed us),k∉us.map Prod.fst→k∉ex→wpOp P ops Q k (fun a' w'=>((∀o,ops[k]?=some o→sort cx o≤2)→OldSame w w')∧wpAnyR P cx ops Q (g+us.length) ((unl listed us).setIfInBounds k true) a' w') a w:=by
 have hselS:=Region.noSelect_spec hsel
 have fit: ∀ {i:Nat} {o:Oper},ops[i]?=some o→fitO cx n o=true:=by
  intro i o ho
  obtain ⟨hlt,rfl⟩:=Array.getElem?_eq_some_iff.1 ho
  exact hfit _ (by simp)
 have drops: ∀ {listed:Array Bool} {ps:List Nat} {ι:Io} {F:Nat→Prop} {H:Heap} {e:Env} {w0:World} (l1 l2:List (Nat×Value)) (k:Nat) (v:Value) (o:Oper) (a:Act) (w:World),ops[k]?=some o→
   (w=w0∧In n ι F w H e (puts ops a (l1++(k,v)::l2))∧Pd P cx ops w a listed (l1++(k,v)::l2)∧ ∀p∈l1++(k,v)::l2,p.1∈ps)→(w=w0∧In n ι F w H e (puts ops (a.put o.dst v) (l1++l2))∧Pd P cx ops w (a.put o.dst v) listed (l1++l2)∧ ∀p∈l1++l2,p.1∈ps):=by
  intro listed ps ι F H e w0 l1 l2 k v o a w ho ⟨h0,h1,h2,h3⟩
  have hnd:=h2.nd
  simp only [List.map_append,List.map_cons] at hnd
  have hn:=(List.nodup_cons.1 ((List.perm_middle.nodup_iff).1 hnd)).1
  simp only [List.mem_append,not_or] at hn
  refine ⟨h0,?_,h2.drop hselS ho,fun p hp=>h3 p ?_⟩
  ·rw [AeE a k v fun p hp=>h2.dst (List.mem_append_left _ hp) (q:=(k,v)) (by simp) fun e=>hn.1 (show k∈_ from (show p.1=k from e) ▸ List.mem_map_of_mem hp),Aaw ho] at h1
   exact h1
  ·rcases List.mem_append.1 hp with hp|hp
   ·exact List.mem_append_left _ hp
   ·exact List.mem_append_right _ (List.mem_cons_of_mem _ hp)
 have all: ∀ {f:Nat} {listed:Array Bool} {ps:List Nat} {ι:Io} {F:Nat→Prop} {w:World} {H:Heap} {e:Env} {us:List (Nat×Value)} {a:Act},In n ι F w H e (puts ops a us)→Pd P cx ops w a listed us→(∀p∈us,p.1∈ps)→
   (∀ {us:List (Nat×Value)} {a:Act},In n ι F w H e (puts ops a us)→Pd P cx ops w a listed us→(∀p∈us,p.1∈ps)→ ∀k∈Region.ready .any ops (unl listed us),k∉us.map Prod.fst→
    wpOp P ops Q k (fun a' w'=>((∀o,ops[k]?=some o→sort cx o≤2)→OldSame w w')∧wpAnyR P cx ops Q (f+us.length) ((unl listed us).setIfInBounds k true) a' w') a w)→
   (∃k,k∈Region.ready .any ops listed)→wpAnyR P cx ops Q (f+1+us.length) (unl listed us) a w:=by
  intro f listed ps ι F w H e us a hi hp hs hk hex
  exact drain (cx:=cx) (I:=fun us a w'=>w'=w∧In n ι F w' H e (puts ops a us)∧Pd P cx ops w' a listed us∧ ∀p∈us,p.1∈ps) (fun us a w h=>h.2.2.1) drops (fun a w h h0=>by obtain ⟨k,hk⟩:=hex;rw [h0] at hk;simp at hk) (fun h=>by omega)
   (fun us a w' h g hg k hk' hn=>by
    obtain ⟨rfl,h1,h2,h3⟩:=h;obtain rfl:f=g:=by omega
    exact hk h1 h2 h3 k hk' hn) (fun h=>by omega) _ us a w rfl ⟨rfl,hi,hp,hs⟩
 have both: ∀ {f:Nat} {listed:Array Bool} {ps ex:List Nat} {w:World} {us:List (Nat×Value)} {a:Act},(ex= []→wpAnyR P cx ops Q (f+us.length) (unl listed us) a w)→
   (∀g,f=g+1→ ∀k∈Region.ready .any ops (unl listed us),k∉us.map Prod.fst→k∉ex→ex= []→wpOp P ops Q k (fun a' w'=>((∀o,ops[k]?=some o→sort cx o≤2)→OldSame w w')∧wpAnyR P cx ops Q (g+us.length) ((unl listed us).setIfInBounds k true) a' w') a w):=by
  intro f listed ps ex w us a h g hg k hk _ _ he
  have:=h he
  subst hg
  rw [show g+1+us.length=(g+us.length)+1 by omega] at this
  exact this.2 k hk
 have go: ∀(i:Nat) (o:Oper) (r:Ord) (f:Nat) (listed:Array Bool) (ps:List Nat) {ι:Io} {F:Nat→Prop} {w:World} {H:Heap} {e:Env} {us:List (Nat×Value)} {a:Act} {R:Env×Heap→Prop},In n ι F w H e (puts ops a us)→Pd P cx ops w a listed us→(∀p∈us,p.1∈ps)→i∈Region.ready .any ops (unl listed us)→i∉us.map Prod.fst→
   (∀f listed,fin f listed=true→ ∀a' w',NextOk n ι F w H R a' w'→wpAnyR P cx ops Q f listed a' w')→ops[i]?=some o→apartP ops o (leftP o ps)=true→quietP cx o ps=true→okTo cx ops fin r f (listed.setIfInBounds i true) [] (leftP o ps)=true→
   (∀(f:Nat) (listed:Array Bool) (ex ps:List Nat) {ι:Io} {F:Nat→Prop} {w:World} {H:Heap} {e:Env} {us:List (Nat×Value)} {a:Act} {R:Env×Heap→Prop},
    okTo cx ops fin r f listed ex ps=true→In n ι F w H e (puts ops a us)→Pd P cx ops w a listed us→(∀p∈us,p.1∈ps)→wpQ S (ordQ cx ops.toList r e H) R→(∀f listed,fin f listed=true→ ∀a' w',NextOk n ι F w H R a' w'→wpAnyR P cx ops Q f listed a' w')→
    (ex= []→wpAnyR P cx ops Q (f+us.length) (unl listed us) a w)∧ ∀g,f=g+1→ ∀k∈Region.ready .any ops (unl listed us),k∉us.map Prod.fst→k∉ex→wpOp P ops Q k (fun a' w'=>((∀o,ops[k]?=some o→sort cx o≤2)→OldSame w w')∧wpAnyR P cx ops Q (g+us.length) ((unl listed us).setIfInBounds k true) a' w') a w)→
   wpQ S ((stepQ cx ops.toList o e H).bind fun (e,H)=>ordQ cx ops.toList r e H) R→
   wpOp P ops Q i (fun a' w'=>((∀o,ops[i]?=some o→sort cx o≤2)→OldSame w w')∧wpAnyR P cx ops Q (f+us.length) ((unl listed us).setIfInBounds i true) a' w') a w:=by
  intro i o r f listed ps ι F w H e us a R hi hp hs hk hn hq ho hap hqt hokr ih h
  obtain ⟨hl,h1⟩:=Ads hc hcal hS hfit hselS hQ ho hi hp hk hs hap (Aaa _ _ _ h)
  refine wpOp_mono (fun a' w' ⟨k1,k2,e',H',ι',F',k3,k4,k5⟩=>⟨fun hh=>k1 (hh o ho),?_⟩) h1
  rw [AdV hn]
  have hp':Pd P cx ops w' a' (listed.setIfInBounds i true) us:=by
   refine hp.next rfl fun p hpu=> ?_
   unfold quietP at hqt
   simp only [Bool.or_eq_true] at hqt
   rcases hqt with hqt|hqt
   ·obtain ⟨o',ho',hy⟩:=k2 p hpu
    have hos:=k1 (Nat.le_of_ble_eq_true hqt)
    exact ⟨o',ho',hy.imp (fun ⟨x,y⟩=>⟨x,fun w2 h2=>y w2 (hos.trans h2)⟩) id⟩
   ·have:=hl p hpu
    rw [List.isEmpty_iff.1 hqt] at this
    simp at this
  refine (ih f _ [] _ hokr k4 hp' hl k3 ?_).1 rfl
  rintro f' listed' hfin a'' w'' ⟨e'',H'',ι'',F'',q1,q2,q3⟩
  exact hq f' listed' hfin a'' w'' ⟨e'',H'',ι'',F'',q1,q2,k5.trans q3⟩
 intro d
 induction d with
 |done=>
  intro f listed ex ps ι F w H e us a R hok hi hp hs h hq
  simp only [okTo,Bool.and_eq_true] at hok
  have hex:ex= []:=by simpa using hok.1.1
  have hps:ps= []:=by simpa using hok.1.2
  have hus:us= []:=by
   cases us with
   |nil=>rfl
   |cons p r=>have:=hs p (List.mem_cons_self ..);rw [hps] at this;simp at this
  subst hus
  have h1:ex= []→wpAnyR P cx ops Q (f+0) listed a w:=fun _=>hq f listed hok.2 a w ⟨e,H,ι,F,h,hi,.refl ι F H w⟩
  exact ⟨h1,fun g hg k hk k1 k2=>both (ps:= []) (us:= []) h1 g hg k hk k1 k2 hex⟩
 |one i r ih=>
  intro f listed ex ps ι F w H e us a R hok hi hp hs h hq
  cases f with
  |zero=>simp [okTo] at hok
  |succ f=>
   simp only [okTo] at hok
   unfold ordQ at h
   rw [Aad] at h
   simp only [Array.getElem?_toList] at h
   split at hok
   ·rename_i o ho
    rw [ho] at h
    simp only at h
    simp only [Bool.and_eq_true,Bool.or_eq_true] at hok
    obtain ⟨hok1,hok2⟩:=hok
    rcases hok1 with ⟨hex,hearly⟩|⟨hone,hqt⟩
    ·have hex:ex= []:=by simpa using hex
     subst hex
     unfold earlyB at hearly
     simp only [Bool.and_eq_true,List.contains_eq_mem,decide_eq_true_eq] at hearly
     obtain ⟨hrd,⟨hnd,hap⟩,hfree⟩:=hearly
     have hleft:leftP o ps=ps:=by
      unfold leftP
      rw [List.filter_eq_self]
      exact fun p hp=>List.all_eq_true.1 hnd p hp
     rw [hleft] at hok2
     have hnoe: ∀p∈us,∀e∈o.after,Region.binds .any e=true→e.on≠p.1:=fun p hpu=>AeP (by simpa using List.all_eq_true.1 hnd p.1 (hs p hpu))
     have hun:=(mem_ready.1 hrd).1
     have hni:i∉us.map Prod.fst:=by
      intro hm
      obtain ⟨p,hpu,rfl⟩:=List.mem_map.1 hm
      have:=hp.ld p hpu
      cases hq:listed[p.1]? with
      |none=>simp [hq] at this
      |some b=>simp [hq] at this hun;rw [this] at hun;contradiction
     have hrdU:i∈Region.ready .any ops (unl listed us):=by
      obtain ⟨_,o',ho',hall⟩:=mem_ready.1 hrd
      rw [ho] at ho'
      obtain rfl:=Option.some.inj ho'
      rw [mem_ready]
      refine ⟨?_,o,ho,fun e he hb=> ?_⟩
      ·have e1:(unl listed us)[i]?=listed[i]?:=by rw [Aaq,if_neg hni]
       simpa [e1] using hun
      ·have h1:=hall e he hb
       have hne:e.on∉us.map Prod.fst:=fun hm=>by
        obtain ⟨p,hpu,hpe⟩:=List.mem_map.1 hm
        exact hnoe p hpu e he hb hpe.symm
       have e1:(unl listed us)[e.on]?=listed[e.on]?:=by rw [Aaq,if_neg hne]
       simpa [e1] using h1
     have hapU: ∀p∈us,∃o',ops[p.1]?=some o'∧o'.apart ops o=true:=fun p hpu=>by
      obtain ⟨o',ho',_⟩:=hp.yl p hpu
      exact ⟨o',ho',AaJ hap (hs p hpu) ho'⟩
     have hdst: ∀p∈us,∀d,dstI ops p.1=some d→dstI ops i≠some d:=fun p hpu d hd=>by
      obtain ⟨o',ho',ha⟩:=hapU p hpu
      rw [Aaw ho'] at hd
      rw [Aaw ho]
      exact (Oper.apart_spec ha).2.1 d hd
     have h1:=Aaa _ _ _ h
     have hty:opTy cx o=true:=by have:=fit ho;unfold fitO at this;simp only [Bool.and_eq_true] at this;exact this.1
     have next: ∀v,NextOk n ι F w H (fun x=>wpQ S (ordQ cx ops.toList r x.1 x.2) R) ((puts ops a us).put o.dst v) w→wpAnyR P cx ops Q (f+us.length) ((unl listed us).setIfInBounds i true) (a.put o.dst v) w:=by
      rintro v ⟨e',H',ι',F',k1,k2,k3⟩
      rw [AdV hni]
      rw [←Aaw ho,←Adf a i v hdst,Aaw ho] at k2
      refine (ih f _ [] ps hok2 k2 (hp.next rfl fun p hpu=> ?_) hs k1 ?_).1 rfl
      ·obtain ⟨o',ho',hy⟩:=hp.yl p hpu
       exact ⟨o',ho',(AcF (fun cs b=>hselS _ o' cs b ho') (AaJ hap (hs p hpu) ho')).2 hy⟩
      ·rintro f' listed' hfin a'' w'' ⟨e'',H'',ι'',F'',q1,q2,q3⟩
       exact hq f' listed' hfin a'' w'' ⟨e'',H'',ι'',F'',q1,q2,k3.trans q3⟩
     have late: ∀ {l:List Nat},(∀k∈l,listed.getD k true=false)→ ∀k∈l,(unl listed us).getD k true=false:=fun hl k hk=>by
      have:=hl k hk
      simp only [Array.getD_eq_getD_getElem?,Aaq] at this⊢
      split
      ·cases hq:listed[k]?<;>simp [hq] at this⊢
      ·exact this
     have back: ∀ {j:Nat},(unl listed us).getD j true=false→listed.getD j true=false∨j∈us.map Prod.fst:=fun {j} h=>by
      by_cases hm:j∈us.map Prod.fst
      ·exact .inr hm
      ·have e1:(unl listed us)[j]?=listed[j]?:=by rw [Aaq,if_neg hm]
       exact .inl (by simpa [e1] using h)
     have apU: ∀ {j:Nat} {oj:Oper},ops[j]?=some oj→j∈us.map Prod.fst→o.apart ops oj=true∧sort cx oj≤2:=fun {j oj} hoj hm=>by
      obtain ⟨p,hpu,rfl⟩:=List.mem_map.1 hm
      obtain ⟨o',ho',ha⟩:=hapU p hpu
      rw [hoj] at ho'
      obtain rfl:=Option.some.inj ho'
      exact ⟨AcD ha,Nat.le_trans (hp.so p hpu _ hoj) (by omega)⟩
     have h2:wpAnyR P cx ops Q (f+us.length+1) (unl listed us) a w:=by
      split at hfree
      ·rename_i hso
       obtain ⟨v,k1,k2⟩:=AbF (P:=P) (ops:=ops) (C:=Any) hi (fit ho) (fun hi' h'=>AeF hc hi'.good hi'.sim hty hso h') h1
       obtain ⟨q1,q2,q3⟩:=Ae4 hfree
       exact Ac9 ho hselS hQ q1 _ _ a w (late q2) (fun j oj hj hne hl hno=>⟨(back hl).elim (fun h=>(q3 j oj hj hne h hno).1) (fun h=>(apU hj h).1),fun _ _ _ _=>trivial⟩) hrdU ((AaT (fun cs b=>hselS _ o cs b ho) hapU).1 k1) trivial (next _ k2)
      ·rename_i hso
       obtain ⟨q1,q2,q3⟩:=Ae4 hfree
       obtain ⟨v,k1,k2⟩:=AbF (P:=P) (ops:=ops) (C:=OldSame w) hi (fit ho) (fun hi' h'=>Acc hc hi'.good hi'.sim hty (by omega) h') h1
       exact Ac9 ho hselS hQ q1 _ _ a w (late q2) (fun j oj hj hne hl hno=>⟨(back hl).elim (fun h=>(q3 j oj hj hne h hno).1) (fun h=>(apU hj h).1),fun w1 w2 hw1 hk=>hw1.trans (hk ((back hl).elim (fun h=>(q3 j oj hj hne h hno).2 rfl) (fun h=>(apU hj h).2)))⟩) hrdU ((AaT (fun cs b=>hselS _ o cs b ho) hapU).1 k1) (.refl w) (next _ k2)
      ·contradiction
     rw [show f+us.length+1=f+1+us.length by omega] at h2
     exact ⟨fun _=>h2,fun g hg k hk k1 k2=>both (ps:= []) (fun _=>h2) g hg k hk k1 k2 rfl⟩
    ·obtain ⟨h1,hap⟩:=Agd hone
     have pick: ∀ {us:List (Nat×Value)} {a:Act},In n ι F w H e (puts ops a us)→Pd P cx ops w a listed us→(∀p∈us,p.1∈ps)→ ∀k∈Region.ready .any ops (unl listed us),k∉us.map Prod.fst→k∉ex→wpOp P ops Q k (fun a' w'=>((∀o,ops[k]?=some o→sort cx o≤2)→OldSame w w')∧wpAnyR P cx ops Q (f+us.length) ((unl listed us).setIfInBounds k true) a' w') a w:=by
      intro us a hi hp hs k hk hn hne
      obtain rfl:=h1 k (Ad2 hk hn) hne
      exact go k o r f listed ps hi hp hs hk hn hq ho hap hqt hok2 ih h
     refine ⟨fun hex=>all hi hp hs (fun hi hp hs k hk hn=>pick hi hp hs k hk hn (by rw [hex];simp)) ?_,fun g hg k hk hn hne=> ?_⟩
     ·subst hex
      unfold oneB at hone
      simp only [Bool.and_eq_true] at hone
      refine ⟨i,?_⟩
      have:i∈(Region.ready .any ops listed).filter fun k=> !mem [] k:=by rw [AcY hone.1];simp
      exact (List.mem_filter.1 this).1
     ·obtain rfl:f=g:=by omega
      exact pick hi hp hs k hk hn hne
   ·contradiction
 |two i r j s ihr ihs=>
  intro f listed ex ps ι F w H e us a R hok hi hp hs h hq
  cases f with
  |zero=>simp [okTo] at hok
  |succ f=>
   simp only [okTo,Bool.and_eq_true] at hok
   obtain ⟨⟨hex,hps⟩,⟨hok1,hokr⟩,hoks⟩:=hok
   have hex:ex= []:=by simpa using hex
   have hps:ps= []:=by simpa using hps
   subst hex hps
   have hus:us= []:=by
    cases us with
    |nil=>rfl
    |cons p r=>have:=hs p (List.mem_cons_self ..);simp at this
   subst hus
   have htwo:Region.ready .any ops listed= [i,j]:=by
    unfold isTwo at hok1
    split at hok1
    ·rename_i x y hx
     simp only [Bool.and_eq_true] at hok1
     rw [hx,Nat.eq_of_beq_eq_true hok1.1,Nat.eq_of_beq_eq_true hok1.2]
    ·contradiction
   unfold ordQ at h
   rw [Aad,Aad] at h
   simp only [Array.getElem?_toList] at h
   have ap0: ∀o:Oper,apartP ops o (leftP o [])=true∧quietP cx o []=true∧leftP o []= []:=fun o=>⟨rfl,by simp [quietP,leftP],rfl⟩
   split at h
   ·rename_i o p ho hpp
    obtain ⟨h1,h2⟩:=h
    have h3:wpAnyR P cx ops Q (f+1) listed a w:=by
     refine ⟨fun h0=>by rw [htwo] at h0;simp at h0,fun k hk=> ?_⟩
     have hk0:=hk
     rw [htwo] at hk
     simp only [List.mem_cons,List.not_mem_nil,or_false] at hk
     rcases hk with rfl|rfl
     ·exact go _ o r f listed [] (us:= []) hi hp hs hk0 (by simp) hq ho (ap0 o).1 (ap0 o).2.1 hokr ihr h1
     ·exact go _ p s f listed [] (us:= []) hi hp hs hk0 (by simp) hq hpp (ap0 p).1 (ap0 p).2.1 hoks ihs h2
    exact ⟨fun _=>h3,fun g hg k hk k1 k2=>both (ps:= []) (us:= []) (ex:= []) (fun _=>h3) g hg k hk k1 k2 rfl⟩
   ·exact h.elim
 |alt i r s ihr ihs=>
  intro f listed ex ps ι F w H e us a R hok hi hp hs h hq
  cases f with
  |zero=>simp [okTo] at hok
  |succ f=>
   simp only [okTo,Bool.and_eq_true,List.contains_eq_mem,decide_eq_true_eq] at hok
   obtain ⟨hrd,hokr,hoks⟩:=hok
   unfold ordQ at h
   rw [Aad] at h
   simp only [Array.getElem?_toList] at h
   split at hokr
   ·rename_i o ho
    rw [ho] at h
    simp only at h
    simp only [Bool.and_eq_true] at hokr
    obtain ⟨⟨hap,hqt⟩,hokr⟩:=hokr
    obtain ⟨h1,h2⟩:=h
    have pick: ∀ {us:List (Nat×Value)} {a:Act},In n ι F w H e (puts ops a us)→Pd P cx ops w a listed us→(∀p∈us,p.1∈ps)→ ∀k∈Region.ready .any ops (unl listed us),k∉us.map Prod.fst→k∉ex→wpOp P ops Q k (fun a' w'=>((∀o,ops[k]?=some o→sort cx o≤2)→OldSame w w')∧wpAnyR P cx ops Q (f+us.length) ((unl listed us).setIfInBounds k true) a' w') a w:=by
     intro us a hi hp hs k hk hn hne
     by_cases hki:k=i
     ·subst hki
      exact go _ o r f listed ps hi hp hs hk hn hq ho hap hqt hokr ihr h1
     ·exact (ihs (f+1) listed (i::ex) ps hoks hi hp hs h2 hq).2 f rfl k hk hn (by simp [hki,hne])
    refine ⟨fun hex=>all hi hp hs (fun hi hp hs k hk hn=>pick hi hp hs k hk hn (by rw [hex];simp)) ⟨i,hrd⟩,fun g hg k hk hn hne=> ?_⟩
    obtain rfl:f=g:=by omega
    exact pick hi hp hs k hk hn hne
   ·contradiction
 |hold i r ih=>
  intro f listed ex ps ι F w H e us a R hok hi hp hs h hq
  cases f with
  |zero=>simp [okTo] at hok
  |succ f=>
   simp only [okTo,Bool.and_eq_true,List.contains_eq_mem,decide_eq_true_eq] at hok
   obtain ⟨hex,hrd,hok⟩:=hok
   have hex:ex= []:=by simpa using hex
   subst hex
   unfold ordQ at h
   rw [Aad] at h
   simp only [Array.getElem?_toList] at h
   split at hok
   ·rename_i o ho
    rw [ho] at h
    simp only at h
    simp only [Bool.and_eq_true] at hok
    obtain ⟨⟨⟨hho,hnd⟩,hap⟩,hok2⟩:=hok
    simp only [holdB,Bool.and_eq_true] at hho
    have hso:sort cx o≤1:=Nat.le_of_ble_eq_true hho.1.1
    have hty:opTy cx o=true:=by have:=fit ho;unfold fitO at this;simp only [Bool.and_eq_true] at this;exact this.1
    have hun:=(mem_ready.1 hrd).1
    have hni:i∉us.map Prod.fst:=by
     intro hm
     obtain ⟨p,hpu,rfl⟩:=List.mem_map.1 hm
     have:=hp.ld p hpu
     cases hq:listed[p.1]? with
     |none=>simp [hq] at this
     |some b=>simp [hq] at this hun;rw [this] at hun;contradiction
    have hlt:i<listed.size:=by
     rcases Nat.lt_or_ge i listed.size with h|h
     ·exact h
     ·simp [Array.getElem?_eq_none h] at hun
    have hapU: ∀p∈us,∃o',ops[p.1]?=some o'∧o'.apart ops o=true:=fun p hpu=>by
     obtain ⟨o',ho',_⟩:=hp.yl p hpu
     exact ⟨o',ho',AaJ hap (hs p hpu) ho'⟩
    obtain ⟨v,k1,k2⟩:=AbF (P:=P) (ops:=ops) (C:=OldSame w) hi (fit ho) (fun hi' h'=>Acc hc hi'.good hi'.sim hty hso h') (Aaa _ _ _ h)
    obtain ⟨e',H',ι',F',k1',k2',k3'⟩:=k2
    have hdst: ∀p∈us,∀d,dstI ops p.1=some d→dstI ops i≠some d:=fun p hpu d hd=>by
     obtain ⟨o',ho',ha⟩:=hapU p hpu
     rw [Aaw ho'] at hd
     rw [Aaw ho]
     exact (Oper.apart_spec ha).2.1 d hd
    have hput:puts ops a ((i,v)::us)=(puts ops a us).put o.dst v:=by
     simp only [puts]
     rw [Adf a i v hdst,Aaw ho]
    have hp':Pd P cx ops w a (listed.setIfInBounds i true) ((i,v)::us):=by
     obtain ⟨_,o',ho',hall⟩:=mem_ready.1 hrd
     rw [ho] at ho'
     obtain rfl:=Option.some.inj ho'
     refine ⟨List.nodup_cons.2 ⟨hni,hp.nd⟩,fun p hpu=> ?_,fun p hpu q hqu hne o1 o2 h1 h2=> ?_,fun p hpu=> ?_,fun p hpu o1 h1=> ?_,fun p hpu o1 h1 e he hb=> ?_⟩
     ·rcases List.mem_cons.1 hpu with rfl|hpu
      ·exact ⟨o,ho,(AaT (fun cs b=>hselS _ o cs b ho) hapU).1 k1⟩
      ·exact hp.yl p hpu
     ·rcases List.mem_cons.1 hpu with rfl|hpu<;>rcases List.mem_cons.1 hqu with rfl|hqu
      ·exact absurd rfl hne
      ·rw [ho] at h1
       obtain rfl:=Option.some.inj h1
       exact AcD (AaJ hap (hs q hqu) h2)
      ·rw [ho] at h2
       obtain rfl:=Option.some.inj h2
       exact AaJ hap (hs p hpu) h1
      ·exact hp.ap p hpu q hqu hne o1 o2 h1 h2
     ·rcases List.mem_cons.1 hpu with rfl|hpu
      ·simp [hlt]
      ·exact getD_set_true (hp.ld p hpu)
     ·rcases List.mem_cons.1 hpu with rfl|hpu
      ·rw [ho] at h1
       obtain rfl:=Option.some.inj h1
       exact hso
      ·exact hp.so p hpu o1 h1
     ·have self:listed.getD i false=true→False:=fun h=>by simp [hlt] at h hun;rw [h] at hun;contradiction
      rcases List.mem_cons.1 hpu with rfl|hpu
      ·rw [ho] at h1
       obtain rfl:=Option.some.inj h1
       have h3:=hall e he hb
       refine ⟨getD_set_true h3,fun hm=> ?_⟩
       simp only [List.map_cons,List.mem_cons] at hm
       rcases hm with hm|hm
       ·exact self (hm ▸ h3)
       ·obtain ⟨q,hqu,hqe⟩:=List.mem_map.1 hm
        exact AeP (by simpa using List.all_eq_true.1 hnd q.1 (hs q hqu)) e he hb hqe.symm
      ·obtain ⟨q1,q2⟩:=hp.ed p hpu o1 h1 e he hb
       refine ⟨getD_set_true q1,fun hm=> ?_⟩
       simp only [List.map_cons,List.mem_cons] at hm
       rcases hm with hm|hm
       ·exact self (hm ▸ q1)
       ·exact q2 hm
    have h2:=(ih f _ [] (i::ps) hok2 (hput ▸ k2') hp' (fun p hpu=>by
     rcases List.mem_cons.1 hpu with rfl|hpu
     ·simp
     ·exact List.mem_cons_of_mem _ (hs p hpu)) k1' (by
     rintro f' listed' hfin a'' w'' ⟨e'',H'',ι'',F'',q1,q2,q3⟩
     exact hq f' listed' hfin a'' w'' ⟨e'',H'',ι'',F'',q1,q2,k3'.trans q3⟩)).1 rfl
    have hunl:unl (listed.setIfInBounds i true) ((i,v)::us)=unl listed us:=by
     refine Array.ext_getElem? fun j=> ?_
     rw [Aaq,Aaq,Array.getElem?_setIfInBounds]
     simp only [List.map_cons,List.mem_cons]
     by_cases e1:i=j
     ·subst e1
      have:listed[i]?=some false:=by
       rw [Array.getElem?_eq_getElem hlt]
       simp [hlt] at hun
       rw [hun]
      rw [if_pos (.inl rfl),if_pos rfl,if_pos hlt,if_neg hni,this]
      rfl
     ·have e2:(j=i)=False:=eq_false fun h=>e1 h.symm
      simp only [e2,false_or,if_neg e1]
    rw [hunl,show f+((i,v)::us).length=f+1+us.length by simp;omega] at h2
    exact ⟨fun _=>h2,fun g hg k hk k1 k2=>both (ps:= []) (fun _=>h2) g hg k hk k1 k2 rfl⟩
   ·contradiction
 |keep i qs r ih=>
  intro f listed ex ps ι F w H e us a R hok hi hp hs h hq
  cases f with
  |zero=>simp [okTo] at hok
  |succ f=>
   simp only [okTo] at hok
   unfold ordQ at h
   rw [Aad] at h
   simp only [Array.getElem?_toList] at h
   split at hok
   ·rename_i o ho
    rw [ho] at h
    simp only at h
    simp only [Bool.and_eq_true] at hok
    obtain ⟨⟨⟨hone,heq⟩,hhp⟩,hok2⟩:=hok
    have heq:=Aeu heq
    obtain ⟨h1,hap⟩:=Agd hone
    have pick: ∀ {us:List (Nat×Value)} {a:Act},In n ι F w H e (puts ops a us)→Pd P cx ops w a listed us→(∀p∈us,p.1∈ps)→ ∀k∈Region.ready .any ops (unl listed us),k∉us.map Prod.fst→k∉ex→wpOp P ops Q k (fun a' w'=>((∀o,ops[k]?=some o→sort cx o≤2)→OldSame w w')∧wpAnyR P cx ops Q (f+us.length) ((unl listed us).setIfInBounds k true) a' w') a w:=by
     intro us a hi hp hs k hk hn hne
     obtain rfl:=h1 k (Ad2 hk hn) hne
     obtain ⟨hl,h2⟩:=Ads hc hcal hS hfit hselS hQ ho hi hp hk hs hap (Aaa _ _ _ h)
     refine wpOp_mono (fun a' w' ⟨k1,k2,e',H',ι',F',k3,k4,k5⟩=>⟨fun hh=>k1 (hh o ho),?_⟩) h2
     rw [AdV hn]
     obtain ⟨us',ι2,F2,H2,r1,r2,r3,r4,r5,r6⟩:=Ago hc hfit hselS qs k4 hp.nd hp.ap (fun p hpu=>by obtain ⟨o',ho',_⟩:=hp.yl p hpu;exact ⟨o',ho'⟩) hhp (Aaa _ _ _ k3)
     have hin: ∀p∈us',p.1∈qs:=fun p hpu=>by
      have:p.1∈us.map Prod.fst:=r2 ▸ List.mem_map_of_mem hpu
      obtain ⟨q,hqu,hqe⟩:=List.mem_map.1 this
      rw [heq,←hqe]
      exact hl q hqu
     have h4:=(ih f _ [] qs hok2 r3 (hp.next r2 fun p hpu=>r6 p hpu (hin p hpu)) hin r1 (by
      rintro f' listed' hfin a'' w'' ⟨e'',H'',ι'',F'',q1,q2,q3⟩
      exact hq f' listed' hfin a'' w'' ⟨e'',H'',ι'',F'',q1,q2,(k5.trans r4).trans q3⟩)).1 rfl
     have hunl:unl (listed.setIfInBounds k true) us'=unl (listed.setIfInBounds k true) us:=by
      refine Array.ext_getElem? fun j=> ?_
      rw [Aaq,Aaq,r2]
     have hlen:us'.length=us.length:=by have:=congrArg zq r2;simpa using this
     rw [hunl,hlen] at h4
     exact h4
    refine ⟨fun hex=>all hi hp hs (fun hi hp hs k hk hn=>pick hi hp hs k hk hn (by rw [hex];simp)) ?_,fun g hg k hk hn hne=> ?_⟩
    ·subst hex
     unfold oneB at hone
     simp only [Bool.and_eq_true] at hone
     refine ⟨i,?_⟩
     have:i∈(Region.ready .any ops listed).filter fun k=> !mem [] k:=by rw [AcY hone.1];simp
     exact (List.mem_filter.1 this).1
    ·obtain rfl:f=g:=by omega
     exact pick hi hp hs k hk hn hne
   ·contradiction
theorem Ahv (w:World) (a:Act) (listed:Array Bool):Pd P cx ops w a listed []:=⟨by simp,by simp,by simp,by simp,by simp,by simp⟩
theorem Ahj (hc:CxTy P cx) (hcal:Callable P cx) (hS: ∀f az H R,S (.call f az H) R→CallS P f az H R) (hfit: ∀o∈ops.toList,fitO cx n o=true) (hsel:Region.noSelect ops=true) (hQ: ∀c a w,¬Q (.panic c) a w) {d:Ord} {id:Nat} {ι:Io} {F:Nat→Prop} {w:World} {H:Heap} {e:Env} {a:Act} {R:Env×Heap→Prop}
  (hok:okOrd cx ops d ops.size (Array.replicate ops.size false) []=true) (hi:In n ι F w H e a) (h:wpQ S (ordQ cx ops.toList d e H) R) (hq: ∀a' w',NextOk n ι F w H R a' w'→Q .normal a' w'):(Code.region id ops true).wp P Q a w:=by
 refine wp_region_any hc.orders (Ae8 (cx:=cx) _ _ _ _ ?_)
 obtain ⟨d1,d2⟩:=Abf hi.good
 have hi':In n ι F {w with drawn:=w.drawn+1} H e a:=⟨d1,fun t=>d2.vr hi.good (hi.sim t),hi.size,hi.defers⟩
 refine (Aho hc hcal hS hfit hsel hQ d _ _ [] [] (us:= []) hok hi' (Ahv _ _ _) (by simp) h ?_).1 rfl
 rintro f listed hfin a' w' ⟨e',H',ι',F',q1,q2,q3⟩
 have hr:Region.ready .any ops listed= []:=by simpa [okEnd] using hfin
 have hQ1:=hq a' w' ⟨e',H',ι',F',q1,q2,d2.trans q3⟩
 cases f with
 |zero=>exact ⟨hr,hQ1⟩
 |succ f=>exact ⟨fun _=>hQ1,by rw [hr];simp⟩
end
end Go.Eva
namespace Go.Eva
open Go.RowKit
def exEq:Exit→Ex→Prop
 | .normal,.normal=>True
 | .exit i,.exit j=>i=j
 | .ret,.ret=>True
 |_,_=>False
def LoopWp (P:Program) (c:Code) (Q:Exit→Act→World→Prop) (a:Act) (w:World):Prop:=
 ∀(b:Frame) (k:List Item) (cs:List Frame),∃e a' w',Q e a' w'∧Arrives P (lone (b.at a (.code c:: .inLoop c::k)) cs w) b k cs e a' w'
theorem LoopWp.wp {P:Program} {c:Code} {Q:Exit→Act→World→Prop} {a:Act} {w:World} (h:LoopWp P c Q a w):(Code.loop c).wp P Q a w:=fun b k cs=>
 let ⟨e,a',w',q,r⟩:=h b k cs;⟨e,a',w',q,.of_steps (.one step_loop) r⟩
theorem LoopWp.round {P:Program} {c:Code} {Q:Exit→Act→World→Prop} {a:Act} {w:World} (h:c.wp P (Exit.then (LoopWp P c Q) Q) a w):LoopWp P c Q a w:=by
 intro b k cs
 obtain ⟨e,a₁,w₁,hq,harr⟩:=h b (.inLoop c::k) cs
 cases e with
 |normal=>
  obtain ⟨e₂,a₂,w₂,hq₂,harr₂⟩:=hq b k cs
  exact ⟨e₂,a₂,w₂,hq₂,.of_steps (Steps.trans harr (.one step_inLoop)) harr₂⟩
 |exit id=>exact ⟨_,a₁,w₁,hq,.pass (x:= .inLoop c) rfl (fun _ _=> .inl (by simp)) harr⟩
 |goto l=>exact ⟨_,a₁,w₁,hq,.pass (x:= .inLoop c) rfl (fun _ _=> .inl (by simp)) harr⟩
 |ret=>exact ⟨_,a₁,w₁,hq,.pass (x:= .inLoop c) rfl (fun _ _=> .inl (by simp)) harr⟩
 |panic ch=>exact ⟨_,a₁,w₁,hq,.pass (x:= .inLoop c) rfl (fun _ _=> .inl (by simp)) harr⟩
 |outgrown=>exact ⟨_,a₁,w₁,hq,.pass (x:= .inLoop c) rfl (fun _ _=> .inl (by simp)) harr⟩
def fitC (cx:Cx) (fi:FI) (n:Nat):Code→Bool
 | .region id ops draw=>ops.toList.all (fitO cx n)&&(match draw with
  |false=>true
  |true=>Region.noSelect ops&&(match drawAt fi.draws id with
   |some d=>okOrd cx ops d ops.size (Array.replicate ops.size false) []
   |none=>true))
 | .seq a b=>fitC cx fi n a&&fitC cx fi n b
 | .cond _ a b=>fitC cx fi n a&&fitC cx fi n b
 | .block _ a=>fitC cx fi n a
 | .loop a=>fitC cx fi n a
 |_=>true
theorem Ahe {cx:Cx} {n m:Nat} {o:Oper} (h:fitO cx n o=true) (hnm:n≤m):fitO cx m o=true:=by
 unfold fitO at*
 simp only [Bool.and_eq_true] at*
 refine ⟨h.1,?_⟩
 cases hd:o.dst with
 |none=>rfl
 |some d=>
  rw [hd] at h
  have:d<n:=by simpa using h.2
  simpa using Nat.lt_of_lt_of_le this hnm
theorem Ahf {cx:Cx} {fi:FI} {n m:Nat} (hnm:n≤m): ∀ {c:Code},fitC cx fi n c=true→fitC cx fi m c=true:=by
 intro c
 induction c with
 |region id ops draw=>
  intro h
  simp only [fitC,Bool.and_eq_true] at*
  refine ⟨List.all_eq_true.2 fun o ho=>Ahe (List.all_eq_true.1 h.1 o ho) hnm,h.2⟩
 |seq a b iha ihb=>intro h;simp only [fitC,Bool.and_eq_true] at*;exact ⟨iha h.1,ihb h.2⟩
 |cond c a b iha ihb=>intro h;simp only [fitC,Bool.and_eq_true] at*;exact ⟨iha h.1,ihb h.2⟩
 |block id a ih=>intro h;simp only [fitC] at*;exact ih h
 |loop a ih=>intro h;simp only [fitC] at*;exact ih h
 |_=>intro _;rfl
def rvOf:ResultVar→RV
 | .tmp t=> .tmp t
 | .cell a t=> .cell a t
def rvTy (cx:Cx):RV→Bool
 | .tmp _=>true
 | .cell _ t=>(cx.ti.get t).isSome
structure FnOK (P:Program) (cx:Cx) (f:Nat) (fi:FI) (fn:Func):Prop where
 at_:P.funcs[f]?=some fn
 name : fn.name ≠ "runtime.NumGoroutine"
 body:fn.body=some fi.code
 res:fn.results.toList.map rvOf=fi.res
 resTy:fi.res.all (rvTy cx)=true
 fit:fitC cx fi fn.ntmps fi.code=true
def FnsOK (P:Program) (cx:Cx):Prop:= ∀f fi,cx.fn.get f=some (some fi)→ ∃fn,FnOK P cx f fi fn
theorem FnsOK.callable {P:Program} {cx:Cx} (h:FnsOK P cx):Callable P cx:=by
 intro f fi hf
 obtain ⟨fn,k⟩:=h f fi hf
 exact ⟨fn,k.at_,k.name,by rw [k.body];simp⟩
def LoopS (P:Program) (cx:Cx) (f:Nat) (p:List Nat) (keep:Nat) (vs:List V) (H:Heap) (R:Res→Prop):Prop:=
 ∀fi c live n,cx.fn.get f=some (some fi)→subAt fi.code p=some (.loop c)→liveAt fi.live p=some live→fitC cx fi n fi.code=true→
  ∀(w:World) (ι:Io) (F:Nat→Prop) (a:Act),In n ι F w H (zipE live vs) a→
   LoopWp P c (fun ex a' w'=> ∃x ι' F',R x∧exEq ex x.e∧In n ι' F' w' x.H (zipE live x.vs) a'∧Ext keep ι F H w ι' F' x.H w') a w
def TaskS (P:Program) (cx:Cx):Task→(Res→Prop)→Prop
 | .call f az H,R=>CallS P f az H R
 | .loop f p keep vs H,R=>LoopS P cx f p keep vs H R
theorem AgS {cx:Cx} {fi:FI} {n:Nat} {c:Code} (h:fitC cx fi n c=true): ∀ {p:List Nat} {d:Code},subAt c p=some d→fitC cx fi n d=true:=by
 intro p
 induction p with
 |nil=>intro d hd;simp [subAt] at hd;subst hd;exact h
 |cons k p ih=>
  intro d hd
  simp only [subAt] at hd
  split at hd
  ·rename_i a b hs
   have:=ih hs
   simp only [fitC,Bool.and_eq_true] at this
   split at hd<;>(simp at hd;subst hd)
   ·exact this.1
   ·exact this.2
  ·rename_i a b hs
   have:=ih hs
   simp only [fitC,Bool.and_eq_true] at this
   split at hd<;>(simp at hd;subst hd)
   ·exact this.1
   ·exact this.2
  ·rename_i a hs
   have:=ih hs
   simp only [fitC] at this
   simp at hd;subst hd;exact this
  ·rename_i a hs
   have:=ih hs
   simp only [fitC] at this
   simp at hd;subst hd;exact this
  ·contradiction
section
variable {P:Program} {cx:Cx} {S:Task→(Res→Prop)→Prop} {n:Nat}
def slots (a:Act) (live:List Nat):List Value:=live.map fun t=>a.tmps.getD t undef
theorem Adg {ι:Io} {F:Nat→Prop} {w:World} {H:Heap} {e:Env} {a:Act} (hi:In n ι F w H e a): ∀ {live:List Nat} {R:List V→Prop},wpQ S (looks e live) R→ ∃vs,R vs∧VRs ι F w H vs (slots a live)
 | [],R,h=>⟨[],h,rfl,by simp⟩
 |t::live,R,h=>by
  have h1:=Aal (Aaa _ _ _ h)
  obtain ⟨vs,h2,h3,h4⟩:=Adg hi (Aaa _ _ _ h1)
  refine ⟨_::vs,h2,by simp [slots,h3],?_⟩
  intro i v u hv hu
  cases i with
  |zero=>simp [slots] at hv hu;subst hv;subst hu;simpa using hi.sim t
  |succ i=>simp [slots] at hv hu;exact h4 i v u hv (by simpa [slots] using hu)
theorem AbY {ι:Io} {F:Nat→Prop} {w:World} {H:Heap} {a:Act}: ∀ {live:List Nat} {vs:List V},VRs ι F w H vs (slots a live)→Sim ι F w H (zipE live vs) a
 | [],vs,_,t=>by cases vs<;>exact .t _ _ (.any _)
 |_::_,[],_,t=> .t _ _ (.any _)
 |x::live,v::vs,h,t=>by
  simp only [zipE,look]
  split
  ·rename_i hb
   obtain rfl:=Nat.eq_of_beq_eq_true hb
   exact h.2 0 v _ rfl rfl
  ·exact AbY (live:=live) (vs:=vs) ⟨by have:=h.1;simpa [slots] using this,fun i v u h1 h2=>h.2 (i+1) v u (by simpa using h1) (by simpa [slots] using h2)⟩ t
def ExecQ (n keep:Nat) (ι:Io) (F:Nat→Prop) (H:Heap) (w:World) (R:Ex×Env×Heap→Prop) (ex:Exit) (a':Act) (w':World):Prop:=
 ∃x e' H' ι' F',exEq ex x∧R (x,e',H')∧In n ι' F' w' H' e' a'∧Ext keep ι F H w ι' F' H' w'
theorem Af3 (hc:CxTy P cx) (hfn:FnsOK P cx) (hS: ∀t R,S t R→TaskS P cx t R) {f:Nat} {fi:FI} (hf:cx.fn.get f=some (some fi)) (hfit:fitC cx fi n fi.code=true) (keep:Nat):
  ∀(c:Code) (p:List Nat),subAt fi.code p=some c→ ∀ {ι:Io} {F:Nat→Prop} {w:World} {H:Heap} {e:Env} {a:Act} {R:Ex×Env×Heap→Prop},In n ι F w H e a→wpQ S (exec cx f fi keep p c e H) R→c.wp P (ExecQ n keep ι F H w R) a w:=by
 have hSc: ∀f az H R,S (.call f az H) R→CallS P f az H R:=fun f az H R h=>hS _ _ h
 have hcal:=hfn.callable
 have nop: ∀ {ι:Io} {F:Nat→Prop} {w:World} {H:Heap} {R:Ex×Env×Heap→Prop} c a w',¬ExecQ n keep ι F H w R (.panic c) a w':=by
  rintro ι F w H R c a w' ⟨x,_,_,_,_,hx,_⟩
  cases x<;>exact hx
 have same: ∀ {ι:Io} {F:Nat→Prop} {w:World} {H:Heap},Ext keep ι F H w ι F H w:=fun {ι F w H}=>(Step.refl ι F H w).ext keep
 have nextQ: ∀ {ι:Io} {F:Nat→Prop} {w:World} {H:Heap} {R:Ex×Env×Heap→Prop} a' w',NextOk n ι F w H (fun x=>R (.normal,x.1,x.2)) a' w'→ExecQ n keep ι F H w R .normal a' w':=by
  rintro ι F w H R a' w' ⟨e',H',ι',F',k1,k2,k3⟩
  exact ⟨.normal,e',H',ι',F',trivial,k1,k2,k3.ext keep⟩
 intro c
 induction c with
 |skip=>intro p _ ι F w H e a R hi h;exact wp_skip ⟨.normal,e,H,ι,F,trivial,h,hi,same⟩
 |region id ops draw=>
  intro p hp ι F w H e a R hi h
  have hfr:=AgS hfit hp
  simp only [fitC,Bool.and_eq_true] at hfr
  have hall:=fun o ho=>List.all_eq_true.1 hfr.1 o ho
  cases draw with
  |false=>
   simp only [exec] at h
   exact Af9 hc hcal hSc hall hi (Aaa _ _ _ h) nextQ
  |true=>
   simp only [exec] at h
   split at h
   ·rename_i d hd
    have hfr2:=hfr.2
    rw [hd] at hfr2
    simp only [Bool.and_eq_true] at hfr2
    exact Ahj hc hcal hSc hall hfr2.1 nop hfr2.2 hi (Aaa _ _ _ h) nextQ
   ·exact h.elim
 |seq x y ihx ihy=>
  intro p hp ι F w H e a R hi h
  simp only [exec] at h
  refine wp_seq (wp_mono (ihx (0::p) (by simp [subAt,hp]) hi (Aaa _ _ _ h)) ?_)
  rintro ex a' w' ⟨x',e',H',ι',F',hx,hr,hi',he⟩
  cases ex<;>cases x'<;>simp only [exEq] at hx
  ·simp only [Exit.then]
   refine wp_mono (ihy (1::p) (by simp [subAt,hp]) hi' hr) ?_
   rintro ex2 a2 w2 ⟨x2,e2,H2,ι2,F2,hx2,hr2,hi2,he2⟩
   exact ⟨x2,e2,H2,ι2,F2,hx2,hr2,hi2,he.trans he2⟩
  ·exact ⟨.exit _,e',H',ι',F',hx,hr,hi',he⟩
  ·exact ⟨.ret,e',H',ι',F',trivial,hr,hi',he⟩
 |cond co x y ihx ihy=>
  intro p hp ι F w H e a R hi h
  simp only [exec] at h
  split at h
  ·rename_i t ht
   have hev:=Aaf hi.sim co
   rw [ht] at hev
   have hev:=hev.t_inv.bool_inv
   simp only [wpQ] at h
   refine wp_cond (t:=t) hev ?_
   cases t with
   |true=>exact ihx (0::p) (by simp [subAt,hp]) hi h
   |false=>exact ihy (1::p) (by simp [subAt,hp]) hi h
  ·exact h.elim
 |block id x ih=>
  intro p hp ι F w H e a R hi h
  simp only [exec] at h
  refine wp_block (wp_mono (ih (0::p) (by simp [subAt,hp]) hi (Aaa _ _ _ h)) ?_)
  rintro ex a' w' ⟨x',e',H',ι',F',hx,hr,hi',he⟩
  cases ex<;>cases x'<;>simp only [exEq] at hx
  ·exact ⟨.normal,e',H',ι',F',trivial,hr,hi',he⟩
  ·rename_i i j
   subst hx
   simp only [Exit.inBlock]
   simp only at hr
   by_cases hij:i=id
   ·subst hij
    rw [if_pos rfl]
    have:Nat.beq i i=true:=by simp
    rw [this] at hr
    exact ⟨.normal,e',H',ι',F',trivial,hr,hi',he⟩
   ·rw [if_neg hij]
    have:Nat.beq i id=false:=by
     cases hb:Nat.beq i id with
     |false=>rfl
     |true=>exact absurd (Nat.eq_of_beq_eq_true hb) hij
    rw [this] at hr
    exact ⟨.exit i,e',H',ι',F',rfl,hr,hi',he⟩
  ·exact ⟨.ret,e',H',ι',F',trivial,hr,hi',he⟩
 |loop x ih=>
  intro p hp ι F w H e a R hi h
  simp only [exec] at h
  split at h
  ·rename_i live hlive
   obtain ⟨vs,h1,h2⟩:=Adg hi (Aaa _ _ _ h)
   obtain ⟨vs1,H1,ι1,h1,hg1,hs1,h2⟩:=Afr hi.good (Aaa _ _ _ h1) h2
   obtain ⟨H2,ι2,h1,hg2,hs2⟩:=Ab4 hg1 (Aaa _ _ _ h1)
   replace h2:=AaQ hg1 hs2 h2
   obtain ⟨g,ιg,h3,_,_,_,hgg,hgv,hge⟩:=gc_ok hg2 (Aaa _ _ _ h1) h2
   replace hge:=((hs1.trans hs2).ext keep).trans hge
   obtain ⟨R',hR',_,h4⟩:=h3
   have hig:In n ιg F w g.H (zipE live g.vs) a:=⟨hgg,AbY hgv,hi.size,hi.defers⟩
   have hloop:=hS _ _ hR' fi x live n hf hp hlive hfit w ιg F a hig
   refine wp_mono hloop.wp ?_
   rintro ex a' w' ⟨r,ι',F',hr,hx,hi',he⟩
   exact ⟨r.e,zipE live r.vs,r.H,ι',F',hx,h4 r hr,hi',hge.trans he⟩
  ·exact h.elim
 |exit id=>intro p _ ι F w H e a R hi h;exact wp_exit ⟨.exit id,e,H,ι,F,rfl,h,hi,same⟩
 |ret=>intro p _ ι F w H e a R hi h;exact wp_ret ⟨.ret,e,H,ι,F,trivial,h,hi,same⟩
 |rangeFunc f ps az b _ _=>intro p _ ι F w H e a R hi h;exact h.elim
 |scope b _=>intro p _ ι F w H e a R hi h;exact h.elim
 |label l=>intro p _ ι F w H e a R hi h;exact h.elim
 |goto l=>intro p _ ι F w H e a R hi h;exact h.elim
 |refuse s=>intro p _ ι F w H e a R hi h;exact h.elim
end
end Go.Eva
namespace Go.Eva
open Go.RowKit
theorem LoopWp.mono {P:Program} {c:Code} {Q Q':Exit→Act→World→Prop} {a:Act} {w:World} (h:LoopWp P c Q a w) (hq: ∀e a w,Q e a w→Q' e a w):LoopWp P c Q' a w:=
 fun b k cs=>let ⟨e,a',w',q,r⟩:=h b k cs;⟨e,a',w',hq _ _ _ q,r⟩
theorem Aef {ι:Io} {F:Nat→Prop} {w:World} {H:Heap} {vs:List V} {us:List Value} (h:VRs ι F w H vs us):ResR ι F w H vs (if h:us.toArray.size=1 then us.toArray[0] else .tuple us.toArray):=by
 match vs,us,h.1 with
 | [v],[u],_=>exact h.2 0 v u rfl rfl
 | [],[],_=>exact ⟨#[],rfl,rfl,by simp⟩
 |v::v'::r,u::u'::r',hl=>
  refine ⟨(u::u'::r').toArray,?_,by simpa using h.1,fun i x c hx hc=>h.2 i x c hx (by simpa using hc)⟩
  rw [dif_neg (by simp)]
def rvSem (tmps:Array Value):ResultVar→Sem Value
 | .tmp t=>pure (tmps.getD t undef)
 | .cell x t=>do loadVar t (←asAddr (tmps.getD x undef))
def Ev (cx:Cx) (t:Task) (R:Res→Prop):Prop:= ∀P,CxTy P cx→FnsOK P cx→TaskS P cx t R
section
variable {P:Program} {cx:Cx} {S:Task→(Res→Prop)→Prop}
theorem Agf (hc:CxTy P cx) {n:Nat} {ι:Io} {F:Nat→Prop} {w:World} {H:Heap} {e:Env} {a:Act} (hi:In n ι F w H e a): ∀ {rs:List ResultVar} {R:List V→Prop},(rs.map rvOf).all (rvTy cx)=true→wpQ S (resV cx e H (rs.map rvOf)) R→
  ∃vs us,R vs∧VRs ι F w H vs us∧(rs.mapM (rvSem a.tmps)).run P w= .ok us w
 | [],R,_,h=>⟨[],[],h,⟨rfl,by simp⟩,rfl⟩
 |r::rs,R,ht,h=>by
  simp only [List.map_cons,List.all_cons,Bool.and_eq_true] at ht
  have fin: ∀ {v:V} {u:Value},wpQ S ((resV cx e H (rs.map rvOf)).bind fun l=> .ret (v::l)) R→VR ι F w H v u→(rvSem a.tmps r).run P w= .ok u w→
    ∃vs us,R vs∧VRs ι F w H vs us∧((r::rs).mapM (rvSem a.tmps)).run P w= .ok us w:=by
   intro v u h hv hr
   obtain ⟨vs,us,h1,h2,h3⟩:=Agf hc hi ht.2 (Aaa _ _ _ h)
   refine ⟨v::vs,u::us,h1,⟨by simp [h2.1],?_⟩,?_⟩
   ·intro i x c hx hcc
    cases i with
    |zero=>simp at hx hcc;subst hx;subst hcc;exact hv
    |succ i=>simp at hx hcc;exact h2.2 i x c hx hcc
   ·rw [List.mapM_cons,Sem.run_bind,hr]
    simp only [Result.andThen_ok,Sem.run_bind,h3,Sem.run_pure]
  cases r with
  |tmp t=>
   have h1:=Aal (Aaa _ _ _ h)
   exact fin h1 (hi.sim t) rfl
  |cell x t=>
   obtain ⟨i,hti⟩:=Option.isSome_iff_exists.1 ht.1
   obtain ⟨v,u,h1,h2,_,ad,h3,h4⟩:=AdF (P:=P) hc hi.good hti (Aaa _ _ _ h) (hi.sim x)
   refine fin h1 h2 ?_
   simp [rvSem,h3,asAddr,h4 w (.refl w)]
theorem Ahh (hc:CxTy P cx) (hfn:FnsOK P cx) (hS: ∀t R,S t R→TaskS P cx t R) {t:Task} {R:Res→Prop} (h:wpQ S (body cx t) R):TaskS P cx t R:=by
 cases t with
 |call f az H=>
  intro w ι F vals hg hv
  simp only [body] at h
  split at h
  ·rename_i fi hf
   obtain ⟨fn,hok⟩:=hfn f fi hf
   refine calls_of_wp hok.at_ hok.body ?_
   have hfit:=Ahf (Nat.le_trans (Nat.le_max_left fn.ntmps vals.size) (Nat.le_of_eq (show max fn.ntmps vals.size=vals.size+(fn.ntmps-vals.size) by omega))) hok.fit
   generalize ha:({tmps:=vals++Array.replicate (fn.ntmps-vals.size) undef,defers:= []}:Act)=a
   have hi:In (vals.size+(fn.ntmps-vals.size)) ι F w H (zipE (upto 0 az.length) az) a:=by
    refine ⟨hg,AbY ?_,by rw [←ha];simp,by rw [←ha]⟩
    have:slots a (upto 0 az.length)=vals.toList:=by
     have hl:az.length=vals.size:=by simpa using hv.1
     apply List.ext_getElem?
     intro i
     unfold slots
     rw [List.getElem?_map]
     by_cases h:i<az.length
     ·rw [Acd _ _ _ h,←ha]
      have h':i<vals.size:=by omega
      simp [h',Array.getElem?_append_left h']
     ·rw [List.getElem?_eq_none (by rw [Adc];omega),List.getElem?_eq_none (by simp;omega)]
      rfl
    rw [this]
    exact hv
   refine wp_mono (Af3 hc hfn hS hf hfit H.length fi.code [] rfl hi (Aaa _ _ _ h)) ?_
   rintro ex a' w' ⟨x,e',H',ι',F',hx,hr,hi',he⟩
   have key:wpQ S ((resV cx e' H' fi.res).bind fun vs=>match fi.mode with
    | .pure=>match (generalizing:=false) H with
     | []=>pureRes vs H'
     |_=> .fail
    | .fresh=>match (generalizing:=false) H with
     | []=>(tidyR fi.tidy vs H').bind fun x=>(foldR fi.fold 0 x.1 x.2).bind fun H'=>(gc 0 x.1 H').bind fun g=> .ret ⟨.ret,g.vs,g.H⟩
     |_=> .fail
    | .inout=>ioRes fi H.length vs H'
    | .both=>match (generalizing:=false) H with
     | []=>pureRes vs H'
     |_=>ioRes fi H.length vs H') R→
     a'.defers= []∧ ∃v,(results fn a'.tmps).run P w'= .ok v w'∧ ∃x v' ι' F',Ending.returned v= .returned v'∧R x∧x.e= .ret∧Good ι' F' w' x.H∧ResR ι' F' w' x.H x.vs v'∧Ext H.length ι F H w ι' F' x.H w':=by
    intro h
    refine ⟨hi'.defers,?_⟩
    rw [←hok.res] at h
    obtain ⟨vs,us,h1,h2,h3⟩:=Agf (P:=P) hc hi' (by rw [hok.res];exact hok.resTy) (Aaa _ _ _ h)
    have hres:(results fn a'.tmps).run P w'= .ok (if h:us.toArray.size=1 then us.toArray[0] else .tuple us.toArray) w':=by
     have hr:results fn a'.tmps=(do let vs←fn.results.mapM (rvSem a'.tmps);pure (if h:vs.size=1 then vs[0] else .tuple vs)):=rfl
     rw [hr,Array.mapM_eq_mapM_toList]
     simp only [Sem.run_bind,Sem.run_map,h3]
     rfl
    refine ⟨_,hres,?_⟩
    have pureP:H= []→wpQ S (pureRes vs H') R→ ∃x v' ι'' F'',Ending.returned (if h:us.toArray.size=1 then us.toArray[0] else .tuple us.toArray)= .returned v'∧R x∧x.e= .ret∧Good ι'' F'' w' x.H∧ResR ι'' F'' w' x.H x.vs v'∧Ext H.length ι F H w ι'' F'' x.H w':=by
     intro hnil hq
     subst hnil
     unfold pureRes at hq
     replace hq:=Aaz (Aaa _ _ _ hq)
     generalize reach H' 200 (idss vs) []=l at hq
     obtain ⟨ts,k1,k2,k3⟩:=Abt hi'.good l (Aaa _ _ _ hq) h2
     have hfin: ∀b,(F' b∨Fl ι' H' l b)→b<w'.heap.size:=fun b hb=>hb.elim (hi'.good.fin b) (fl_lt hi'.good)
     refine ⟨_,_,ι',fun b=>F' b∨Fl ι' H' l b,rfl,k1,rfl,AbZ hfin,?_,?_⟩
     ·refine Aef ⟨by simp [k2],?_⟩
      intro i x c hx hcc
      simp only [List.getElem?_map] at hx
      obtain ⟨t,ht,rfl⟩:=Option.map_eq_some_iff.1 hx
      exact .t _ _ (k3 i t c ht hcc)
     ·refine ⟨he.os,he.tape,he.output,he.size,he.same,fun b _ h=>(Abp h).elim,fun b hb=> .inl (he.fsub b hb),?_,fun id o hid=>absurd hid (by simp),fun b _ h=>by obtain ⟨i,o,h1,_⟩:=h;simp at h1⟩
      rintro b hb (hf|⟨i,o,_,q1,q2,q3⟩)
      ·exact he.ffr b hb hf
      ·obtain ⟨i',o',q4,_⟩:=he.live b hb ⟨i,o,q1,q2,.inl q3⟩
       simp at q4
    have ioP:wpQ S (ioRes fi H.length vs H') R→ ∃x v' ι'' F'',Ending.returned (if h:us.toArray.size=1 then us.toArray[0] else .tuple us.toArray)= .returned v'∧R x∧x.e= .ret∧Good ι'' F'' w' x.H∧ResR ι'' F'' w' x.H x.vs v'∧Ext H.length ι F H w ι'' F'' x.H w':=by
     intro h1
     unfold ioRes at h1
     obtain ⟨vs1,H1,ι1,h1,hg1,hs1,h2⟩:=AeV hi'.good (Aaa _ _ _ h1) h2
     obtain ⟨hg2,hs2,h2⟩:=Ag9 (b:=fi.tidy) (n:=H.length) hg1 h2
     obtain ⟨H3,ι3,h1,hg3,hs3⟩:=Ab4 hg2 (Aaa _ _ _ h1)
     replace h2:=AaQ hg2 hs3 h2
     obtain ⟨g,ιg,h3,_,_,_,hgg,hgv,hge⟩:=gc_ok hg3 (Aaa _ _ _ h1) h2
     exact ⟨_,_,ιg,F',rfl,h3,rfl,hgg,Aef hgv,((he.trans (hs1.ext _)).trans ((hs2.trans hs3).ext _)).trans hge⟩
    split at h1
    ·split at h1
     ·exact pureP rfl h1
     ·exact h1.elim
    ·split at h1
     ·obtain ⟨vs1,H1,ι1,h1,hg1,hs1,h2⟩:=AeV hi'.good (Aaa _ _ _ h1) h2
      obtain ⟨H3,ι3,h1,hg3,hs3⟩:=Ab4 hg1 (Aaa _ _ _ h1)
      replace h2:=AaQ hg1 hs3 h2
      obtain ⟨g,ιg,h3,_,_,_,hgg,hgv,hge⟩:=gc_ok hg3 (Aaa _ _ _ h1) h2
      exact ⟨_,_,ιg,F',rfl,h3,rfl,hgg,Aef hgv,(he.trans ((hs1.trans hs3).ext _)).trans hge⟩
     ·exact h1.elim
    ·exact ioP h1
    ·split at h1
     ·exact pureP rfl h1
     ·exact ioP h1
   cases ex<;>cases x<;>simp only [exEq] at hx
   ·exact key hr
   ·exact hr.elim
   ·exact key hr
  ·exact h.elim
 |loop f p keep vs H=>
  intro fi c live n hf hp hlive hfit w ι F a hi
  simp only [body] at h
  rw [hf] at h
  simp only [hp,hlive] at h
  refine LoopWp.round (wp_mono (Af3 hc hfn hS hf hfit keep c (0::p) (by simp [subAt,hp]) hi (Aaa _ _ _ h)) ?_)
  rintro ex a' w' ⟨x,e',H',ι',F',hx,hr,hi',he⟩
  obtain ⟨vs',h1,h2⟩:=Adg hi' (Aaa _ _ _ hr)
  obtain ⟨vs1,H1,ι1,h1,hg1,hs1,h2⟩:=Afr hi'.good (Aaa _ _ _ h1) h2
  obtain ⟨H2,ι2,h1,hg2,hs2⟩:=Ab4 hg1 (Aaa _ _ _ h1)
  replace h2:=AaQ hg1 hs2 h2
  obtain ⟨g,ιg,h3,_,_,_,hgg,hgv,hge⟩:=gc_ok hg2 (Aaa _ _ _ h1) h2
  replace hge:=((hs1.trans hs2).ext keep).trans hge
  have hig:In n ιg F' w' g.H (zipE live g.vs) a':=⟨hgg,AbY hgv,hi'.size,hi'.defers⟩
  cases ex<;>cases x<;>simp only [exEq] at hx
  ·obtain ⟨R',hR',_,h4⟩:=h3
   simp only [Exit.then]
   refine LoopWp.mono (hS _ _ hR' fi c live n hf hp hlive hfit w' ιg F' a' hig) ?_
   rintro ex2 a2 w2 ⟨r,ι2,F2,hr2,hx2,hi2,he2⟩
   exact ⟨r,ι2,F2,h4 r hr2,hx2,hi2,(he.trans hge).trans he2⟩
  ·exact ⟨_,ιg,F',h3,hx,hig,he.trans hge⟩
  ·exact ⟨_,ιg,F',h3,trivial,hig,he.trans hge⟩
theorem Ev.mk {t:Task} {R:Res→Prop} (h:wpQ (Ev cx) (body cx t) R):Ev cx t R:=fun P hc hfn=>
 Ahh hc hfn (fun _ _ h=>h) (Ag1 (fun _ _ h=>h P hc hfn) _ _ h)
theorem sound (hc:CxTy P cx) (hfn:FnsOK P cx) {t:Task} {R:Res→Prop} (h:Ev cx t R):TaskS P cx t R:=h P hc hfn
end
end Go.Eva
namespace Go.Eva
abbrev Is (cx:Cx) (t:Task) (x:Res):Prop:=Ev cx t (· =x)
end Go.Eva
namespace Go.Eva
open Go.RowKit
def allTr {α:Type} (p:Nat→α→Bool):(Nat→Nat)→Tr α→Bool
 |_,.z=>true
 |f,.n l v r=>p (f 0) v&&allTr p (fun k=>f (2*k+1)) l&&allTr p (fun k=>f (2*k+2)) r
 |f,.h l r=>true&&allTr p (fun k=>f (2*k+1)) l&&allTr p (fun k=>f (2*k+2)) r
theorem Abu {α:Type} {p:Nat→α→Bool}: ∀ {t:Tr α} {f:Nat→Nat},allTr p f t=true→ ∀i v,t.get i=some v→p (f i) v=true
 | .z,f,_,i,v,h=>by simp [Tr.get] at h
 | .n l x r,f,hp,i,v,h=>by
  simp only [allTr,Bool.and_eq_true] at hp
  simp only [Tr.get] at h
  split at h
  ·rename_i hb
   obtain rfl:=Nat.eq_of_beq_eq_true hb
   simp at h;subst h
   exact hp.1.1
  ·rename_i hb
   have hi:i≠0:=by
    intro e
    subst e
    simp at hb
   split at h
   ·rename_i hm
    have hm:=Nat.eq_of_beq_eq_true hm
    have:=Abu hp.1.2 _ _ h
    have e:2*(Nat.div i 2)+1=i:=by
     have h1:Nat.mod i 2=i%2:=rfl
     have h2:Nat.div i 2=i/2:=rfl
     omega
    rw [e] at this
    exact this
   ·rename_i hm
    have hm:i%2≠1:=by
     intro e
     have:Nat.beq (Nat.mod i 2) 1=true:=by
      have h1:Nat.mod i 2=i%2:=rfl
      rw [h1,e];rfl
     rw [this] at hm
     contradiction
    have:=Abu hp.2 _ _ h
    have e:2*(Nat.pred (Nat.div i 2))+2=i:=by
     have h2:Nat.div i 2=i/2:=rfl
     have h3:Nat.pred (Nat.div i 2)=i/2-1:=by rw [h2];rfl
     omega
    rw [e] at this
    exact this
 | .h l r,f,hp,i,v,h=>by
  simp only [allTr,Bool.and_eq_true] at hp
  simp only [Tr.get] at h
  split at h
  ·contradiction
  ·rename_i hb
   have hi:i≠0:=by
    intro e
    subst e
    simp at hb
   split at h
   ·rename_i hm
    have hm:=Nat.eq_of_beq_eq_true hm
    have:=Abu hp.1.2 _ _ h
    have e:2*(Nat.div i 2)+1=i:=by
     have h1:Nat.mod i 2=i%2:=rfl
     have h2:Nat.div i 2=i/2:=rfl
     omega
    rw [e] at this
    exact this
   ·rename_i hm
    have hm:i%2≠1:=by
     intro e
     have:Nat.beq (Nat.mod i 2) 1=true:=by
      have h1:Nat.mod i 2=i%2:=rfl
      rw [h1,e];rfl
     rw [this] at hm
     contradiction
    have:=Abu hp.2 _ _ h
    have e:2*(Nat.pred (Nat.div i 2))+2=i:=by
     have h2:Nat.div i 2=i/2:=rfl
     have h3:Nat.pred (Nat.div i 2)=i/2-1:=by rw [h2];rfl
     omega
    rw [e] at this
    exact this
mutual
def tvB:Nat→T→Value→Bool
 |0,_,_=>false
 |_+1,.int k n,.int k' n'=>decide (k=k')&&decide (n=n')
 |_+1,.bool b,.bool c=>b==c
 |_+1,.str s,.string s'=>Nat.beq s.data.size 0&&Nat.beq s'.data.size 0
 |_+1,.nilp,.pointer none=>true
 |_+1,.nilf,.nilFunc=>true
 |_+1,.nilm,.map none=>true
 |n+1,.agg vs,.agg cs=>tvsB n vs cs.toList
 |_,_,_=>false
def tvsB:Nat→List T→List Value→Bool
 |0,_,_=>false
 |_+1,[],[]=>true
 |n+1,x::xs,v::vs=>v.oneCell'&&tvB n x v&&tvsB n xs vs
 |_,_,_=>false
end
mutual
theorem tvB_ok {F:Nat→Prop} {w:World}: ∀(n:Nat) (x:T) (v:Value),tvB n x v=true→TR F w x v
 |0,_,_,h=>by simp [tvB] at h
 |n+1,x,v,h=>by
  unfold tvB at h
  split at h<;>try contradiction
  ·simp at h;obtain ⟨rfl,rfl⟩:=h;exact .int _ _
  ·simp at h;subst h;exact .bool _
  ·rename_i s s' _
   simp only [Bool.and_eq_true] at h
   have h1:=Nat.eq_of_beq_eq_true h.1
   have h2:=Nat.eq_of_beq_eq_true h.2
   have e1:s.data= #[]:=Array.eq_empty_of_size_eq_zero h1
   have e2:s'.data= #[]:=Array.eq_empty_of_size_eq_zero h2
   have:s=s':=by
    cases s;cases s'
    simp only at e1 e2
    rw [e1,e2]
   subst this
   exact .str _
  ·exact .nilp
  ·exact .nilf
  ·exact .nilm
  ·rename_i m vs cs heq
   cases heq
   obtain ⟨h1,h2⟩:=tvsB_ok (F:=F) (w:=w) _ vs cs.toList h
   exact .agg _ _ (by simpa using h1) (fun i c hc=>by
    have hlt:i<vs.length:=by have:=(Array.getElem?_eq_some_iff.1 hc).1;simp at h1;omega
    exact (h2 i _ c (List.getElem?_eq_getElem hlt) (by simpa using hc)).1) (fun i x c hx hc=>(h2 i x c hx (by simpa using hc)).2)
theorem tvsB_ok {F:Nat→Prop} {w:World}: ∀(n:Nat) (xs:List T) (vs:List Value),tvsB n xs vs=true→xs.length=vs.length∧ ∀(i:Nat) x v,xs[i]?=some x→vs[i]?=some v→v.oneCell'=true∧TR F w x v
 |0,_,_,h=>by simp [tvsB] at h
 |n+1,[],[],_=>⟨rfl,by simp⟩
 |n+1,[],_::_,h=>by simp [tvsB] at h
 |n+1,_::_,[],h=>by simp [tvsB] at h
 |n+1,x::xs,v::vs,h=>by
  simp only [tvsB,Bool.and_eq_true] at h
  obtain ⟨h1,h2⟩:=tvsB_ok (F:=F) (w:=w) n xs vs h.2
  refine ⟨by simp [h1],?_⟩
  intro i y u hy hu
  cases i with
  |zero=>simp at hy hu;subst hy;subst hu;exact ⟨h.1.1,tvB_ok n _ _ h.1.2⟩
  |succ i=>simp at hy hu;exact h2 i y u hy hu
end
def zv1:V→Value→Bool
 | .t x,v=>tvB 40 x v
 | .fit _ [],.slice none 0 0=>true
 |_,_=>false
theorem AgP {x:V} {v:Value} (h:zv1 x v=true) (ι:Io) (F:Nat→Prop) (w:World) (H:Heap):VR ι F w H x v:=by
 unfold zv1 at h
 split at h
 ·exact .t _ _ (tvB_ok _ _ _ h)
 ·exact .fit _ _ _ (.slN _ _ _)
 ·contradiction
def zvB (x:V) (v:Value):Bool:=match x,v with
 | .agg vs,.agg cs=>Nat.beq vs.length cs.size&&(vs.zip cs.toList).all fun p=>p.2.oneCell'&&zv1 p.1 p.2
 |x,v=>zv1 x v
theorem Aht {x:V} {v:Value} (h:zvB x v=true) (ι:Io) (F:Nat→Prop) (w:World) (H:Heap):VR ι F w H x v:=by
 unfold zvB at h
 split at h
 ·rename_i vs cs
  simp only [Bool.and_eq_true] at h
  have hl:=Nat.eq_of_beq_eq_true h.1
  have hall:=List.all_eq_true.1 h.2
  have at_: ∀(i:Nat) x c,vs[i]?=some x→cs[i]?=some c→c.oneCell'=true∧zv1 x c=true:=by
   intro i x c hx hc
   have hm:(x,c)∈vs.zip cs.toList:=by
    refine List.mem_of_getElem? (i:=i) ?_
    rw [List.getElem?_zip_eq_some]
    exact ⟨hx,by simpa using hc⟩
   have:=hall _ hm
   simpa only [Bool.and_eq_true] using this
  refine .agg _ _ hl (fun i c hc=> ?_) (fun i x c hx hc=>AgP (at_ i x c hx hc).2 ι F w H)
  have hlt:i<vs.length:=by have:=(Array.getElem?_eq_some_iff.1 hc).1;omega
  exact (at_ i _ c (List.getElem?_eq_getElem hlt) hc).1
 ·exact AgP h ι F w H
def isAny:V→Bool
 | .t .any=>true
 |_=>false
def tyRB (cx:Cx):Ty→TypeDesc→Bool
 | .int k,.int k'=>decide (k'=k)
 | .bool,.bool=>true
 | .str,.string=>true
 | .ptr,.pointer _=>true
 | .slice e,.slice e'=>Nat.beq e' e&&(match cx.ti.get e with|some i=>Nat.blt 0 i.size|none=>false)
 | .struct fs, .struct fields => decide (fields.toList.map (fun f => (f.offset, f.type)) = fs) && fields.toList.all fun f => (f.name != "_") && (cx.ti.get f.type).isSome
 | .map k e,.map k' e'=>Nat.beq k' k&&Nat.beq e' e
 | .fn,d=>notAggB d
 | .other,d=>notAggB d
 |_,_=>false
where notAggB:TypeDesc→Bool
 | .struct _=>false
 | .array _ _=>false
 |_=>true
def tyB (P:Program) (cx:Cx) (t:Nat) (i:TI):Bool:=match P.info? t,P.underlying t with
 |some inf,some d=>Nat.beq inf.size i.size&&Nat.beq inf.bytes i.bytes&&tyRB cx i.ty d&&(!i.eq||(!P.stoodInHeld t&& !P.eqGuardType P.depth t))&&(match inf.zero with
  |some zv=>(Nat.beq i.bytes 0||(Nat.beq zv.cells.size i.size&&zv.cells.toList.all (fun c=>c.oneCell')))&&(match zeroV cx depth t with
   |some z=>(Nat.beq zv.cells.size i.size&&zv.cells.toList.all (fun c=>c.oneCell'))&&zvB z zv&& !isAny z&&Nat.beq z.size i.size
   |none=>true)
  |none=>false)
 |_,_=>false
theorem Agy {v:V} (h:isAny v=false):v≠ .t .any:=by rintro rfl;simp [isAny] at h
theorem AgT {cx:Cx} {ty:Ty} {d:TypeDesc} (h:tyRB cx ty d=true):TyR cx ty d:=by
 have na: ∀d,tyRB.notAggB d=true→notAgg d:=by
  intro d h
  cases d<;>simp [tyRB.notAggB,notAgg] at*
 unfold tyRB at h
 split at h<;>try contradiction
 ·have:_=_:=of_decide_eq_true h;subst this;rfl
 ·rfl
 ·rfl
 ·exact ⟨_,rfl⟩
 ·rename_i e e'
  simp only [Bool.and_eq_true] at h
  obtain rfl:=Nat.eq_of_beq_eq_true h.1
  have h2:=h.2
  split at h2
  ·rename_i i hi
   exact ⟨rfl,i,hi,by simpa using h2⟩
  ·contradiction
 ·rename_i fs fields
  simp only [Bool.and_eq_true] at h
  refine ⟨fields,rfl,of_decide_eq_true h.1,fun f hf=> ?_⟩
  have:=List.all_eq_true.1 h.2 f hf
  simp only [Bool.and_eq_true] at this
  exact ⟨by simpa using this.1,Option.isSome_iff_exists.1 this.2⟩
 ·simp only [Bool.and_eq_true] at h
  obtain rfl:=Nat.eq_of_beq_eq_true h.1
  obtain rfl:=Nat.eq_of_beq_eq_true h.2
  rfl
 ·exact na _ h
 ·exact na _ h
def ExAll (P:Program) (cx:Cx):List (Nat×Xf)→Prop
 | []=>True
 |(f,x)::r=>ExOK P cx f x∧ExAll P cx r
theorem Ae1 {P:Program} {cx:Cx}: ∀ {l:List (Nat×Xf)},ExAll P cx l→ ∀f x,exAt l f=some x→ExOK P cx f x
 | [],_,f,x,h=>by simp [exAt] at h
 |(g,y)::r,ha,f,x,h=>by
  unfold exAt at h
  split at h
  ·rename_i hb
   obtain rfl:=Nat.eq_of_beq_eq_true hb
   obtain rfl:=Option.some.inj h
   exact ha.1
  ·exact Ae1 ha.2 f x h
theorem Ahm {P:Program} {cx:Cx} (h:allTr (tyB P cx) id cx.ti=true) (ho:P.follows .mixedOrders=true) (hx:ExAll P cx cx.ex):CxTy P cx:=by
 have key: ∀t i,cx.ti.get t=some i→tyB P cx t i=true:=fun t i hi=>Abu h t i hi
 refine ⟨?_,?_,ho,Ae1 hx⟩
 ·intro t i hi
  have:=key t i hi
  unfold tyB at this
  split at this
  ·rename_i inf d h1 h2
   simp only [Bool.and_eq_true,Bool.or_eq_true] at this
   obtain ⟨⟨⟨⟨a1,a2⟩,a3⟩,a4⟩,a5⟩:=this
   split at a5
   ·rename_i zv hz
    simp only [Bool.and_eq_true] at a5
    obtain ⟨_,b3⟩:=a5
    refine ⟨inf,d,h1,h2,Nat.eq_of_beq_eq_true a1,Nat.eq_of_beq_eq_true a2,AgT a3,fun he=> ?_,zv,hz,fun z hzz=> ?_⟩
    ·rw [he] at a4
     simpa using a4
    ·rw [hzz] at b3
     simp only [Bool.and_eq_true] at b3
     obtain ⟨⟨⟨⟨c1,c2⟩,c3⟩,c4⟩,c5⟩:=b3
     have hone: ∀(j:Nat) c,zv.cells[j]?=some c→c.oneCell'=true:=by
      intro j c hc
      exact List.all_eq_true.1 c2 c (by obtain ⟨hlt,rfl⟩:=Array.getElem?_eq_some_iff.1 hc;simp)
     exact ⟨Aht c3,hone,Agy (by simpa using c4),Nat.eq_of_beq_eq_true c5,Nat.eq_of_beq_eq_true c1⟩
   ·contradiction
  ·contradiction
 ·intro t i inf zv hi hinf hz hby
  have:=key t i hi
  unfold tyB at this
  split at this
  ·rename_i inf' d h1 h2
   rw [hinf] at h1
   obtain rfl:=Option.some.inj h1
   simp only [Bool.and_eq_true] at this
   obtain ⟨_,a5⟩:=this
   rw [hz] at a5
   simp only [Bool.and_eq_true,Bool.or_eq_true] at a5
   rcases a5.1 with a6|a6
   ·have:=Nat.eq_of_beq_eq_true a6
    omega
   ·refine ⟨Nat.eq_of_beq_eq_true a6.1,fun j c hc=> ?_⟩
    exact List.all_eq_true.1 a6.2 c (by obtain ⟨hlt,rfl⟩:=Array.getElem?_eq_some_iff.1 hc;simp)
  ·contradiction
def AllTr {α:Type} (p:Nat→α→Prop):(Nat→Nat)→Tr α→Prop
 |_,.z=>True
 |f,.n l v r=>p (f 0) v∧AllTr p (fun k=>f (2*k+1)) l∧AllTr p (fun k=>f (2*k+2)) r
 |f,.h l r=>True∧AllTr p (fun k=>f (2*k+1)) l∧AllTr p (fun k=>f (2*k+2)) r
theorem AllTr.get {α:Type} {p:Nat→α→Prop}: ∀ {t:Tr α} {f:Nat→Nat},AllTr p f t→ ∀i v,t.get i=some v→p (f i) v
 | .z,f,_,i,v,h=>by simp [Tr.get] at h
 | .n l x r,f,hp,i,v,h=>by
  simp only [Tr.get] at h
  split at h
  ·rename_i hb
   obtain rfl:=Nat.eq_of_beq_eq_true hb
   simp at h;subst h
   exact hp.1
  ·rename_i hb
   have hi:i≠0:=by
    intro e
    subst e
    simp at hb
   split at h
   ·rename_i hm
    have hm:=Nat.eq_of_beq_eq_true hm
    have:=AllTr.get hp.2.1 _ _ h
    have e:2*(Nat.div i 2)+1=i:=by
     have h1:Nat.mod i 2=i%2:=rfl
     have h2:Nat.div i 2=i/2:=rfl
     omega
    rw [e] at this
    exact this
   ·rename_i hm
    have hm:i%2≠1:=by
     intro e
     have:Nat.beq (Nat.mod i 2) 1=true:=by
      have h1:Nat.mod i 2=i%2:=rfl
      rw [h1,e];rfl
     rw [this] at hm
     contradiction
    have:=AllTr.get hp.2.2 _ _ h
    have e:2*(Nat.pred (Nat.div i 2))+2=i:=by
     have h2:Nat.div i 2=i/2:=rfl
     have h3:Nat.pred (Nat.div i 2)=i/2-1:=by rw [h2];rfl
     omega
    rw [e] at this
    exact this
 | .h l r,f,hp,i,v,h=>by
  simp only [Tr.get] at h
  split at h
  ·contradiction
  ·rename_i hb
   have hi:i≠0:=by
    intro e
    subst e
    simp at hb
   split at h
   ·rename_i hm
    have hm:=Nat.eq_of_beq_eq_true hm
    have:=AllTr.get hp.2.1 _ _ h
    have e:2*(Nat.div i 2)+1=i:=by
     have h1:Nat.mod i 2=i%2:=rfl
     have h2:Nat.div i 2=i/2:=rfl
     omega
    rw [e] at this
    exact this
   ·rename_i hm
    have hm:i%2≠1:=by
     intro e
     have:Nat.beq (Nat.mod i 2) 1=true:=by
      have h1:Nat.mod i 2=i%2:=rfl
      rw [h1,e];rfl
     rw [this] at hm
     contradiction
    have:=AllTr.get hp.2.2 _ _ h
    have e:2*(Nat.pred (Nat.div i 2))+2=i:=by
     have h2:Nat.div i 2=i/2:=rfl
     have h3:Nat.pred (Nat.div i 2)=i/2-1:=by rw [h2];rfl
     omega
    rw [e] at this
    exact this
def EntOK (P:Program) (cx:Cx) (f:Nat) (o:Option FI):Prop:= ∀fi,o=some fi→ ∃fn,FnOK P cx f fi fn
theorem Aac {P:Program} {cx:Cx} (f:Nat):EntOK P cx f none:=fun _ h=>nomatch h
theorem Aab {P:Program} {cx:Cx} {f:Nat} {fi:FI} {fn:Func} (h:FnOK P cx f fi fn):EntOK P cx f (some fi):=fun _ e=>⟨fn,Option.some.inj e ▸ h⟩
theorem Ag3 {P:Program} {cx:Cx} (h:AllTr (EntOK P cx) id cx.fn):FnsOK P cx:=fun f fi hf=>AllTr.get h f _ hf fi rfl
end Go.Eva
namespace Go.Eva
open Go.RowKit
def Conf (cx:Cx):Nat→Nat→List T→Prop
 |0,_,_=>False
 |n+1,t,ts=>match cx.ti.get t with
  |some i=>match i.ty with
   | .int k=> ∃m,ts= [.int k m]∧(Lit.int k m).wf=true
   | .bool=> ∃b,ts= [.bool b]
   | .str=> ∃s,ts= [.str s]∧s.size≤reachBytes
   | .slice e=> ∃xs,ts= [.sl (sizeOf cx e) xs]∧xs.length≤maxLen∧xs.length*bytesOf cx e≤reachBytes∧ ∀x∈xs,x≠ .any∧(isStruct cx e=true→ ∃l,x= .agg l)∧(isStruct cx e=false→x.cells= [x])∧Conf cx n e x.cells
   | .struct fs=>ts.length=i.size∧ ∀p∈fs,Conf cx n p.2 ((ts.drop p.1).take (sizeOf cx p.2))
   |_=>False
  |none=>False
def contig (cx:Cx):Nat→List (Nat×Nat)→Option Nat
 |n,[]=>some n
 |n,(off,t)::r=>match Nat.beq off n with
  |true=>contig cx (n+sizeOf cx t) r
  |false=>none
def rdB (cx:Cx):Nat→Nat→Bool
 |0,_=>false
 |n+1,t=>match cx.ti.get t with
  |some i=>match i.ty with
   | .int _=>true
   | .bool=>true
   | .str=>true
   | .slice e=>rdB cx n e
   | .struct fs=>(fs.all fun p=>rdB cx n p.2)&&(match contig cx 0 fs with|some s=>Nat.beq s i.size|none=>false)
   |_=>false
  |none=>false
section
variable {P:Program} {cx:Cx} {H:Type} {enc:TypeId×Value→H} {w:World} {spare:Nat→Bool} {held:Bool}
theorem AbP (hc:CxTy P cx) {t:Nat} {i:TI} (h:cx.ti.get t=some i):P.cellsOf t=i.size∧sizeOf cx t=i.size:=by
 obtain ⟨inf,d,h1,h2,h3,_⟩:=hc.ty t i h
 exact ⟨by simp [Program.cellsOf,h1,h3],by simp [sizeOf,h]⟩
def Trees (w:World) (ts:List T) (cs:List Value):Prop:=ts.length=cs.length∧ ∀(i:Nat) a b,ts[i]?=some a→cs[i]?=some b→TR (· <w.heap.size) w a b∧b.oneCell'=true∧a≠ .any
theorem Trees.one {a:T} {b:Value} (h:TR (· <w.heap.size) w a b) (hb:b.oneCell'=true) (ha:a≠ .any):Trees w [a] [b]:=by
 refine ⟨rfl,fun i x y hx hy=> ?_⟩
 cases i with
 |zero=>simp at hx hy;subst hx;subst hy;exact ⟨h,hb,ha⟩
 |succ i=>simp at hx
theorem Trees.append {ts us:List T} {cs ds:List Value} (h:Trees w ts cs) (k:Trees w us ds):Trees w (ts++us) (cs++ds):=by
 refine ⟨by simp [h.1,k.1],fun i a b ha hb=> ?_⟩
 have hl:=h.1
 rcases Nat.lt_or_ge i ts.length with hi|hi
 ·rw [List.getElem?_append_left hi] at ha
  rw [List.getElem?_append_left (by omega)] at hb
  exact h.2 i a b ha hb
 ·rw [List.getElem?_append_right hi] at ha
  rw [List.getElem?_append_right (by omega)] at hb
  exact k.2 _ a b ha (by rw [hl];exact hb)
theorem Ad4 {cs:List Value} {Q:Nat→List T→Prop}: ∀(fs:List (Nat×Nat)) (pos s:Nat),contig cx pos fs=some s→s≤cs.length→(∀p∈fs,∃ts,Trees w ts ((cs.drop p.1).take (sizeOf cx p.2))∧Q p.2 ts)→
  pos≤s∧ ∃ts,Trees w ts ((cs.drop pos).take (s-pos))∧ ∀p∈fs,pos≤p.1∧Q p.2 ((ts.drop (p.1-pos)).take (sizeOf cx p.2))
 | [],pos,s,h,_,_=>by
  simp [contig] at h
  subst h
  exact ⟨Nat.le_refl _,[],⟨by simp,by simp⟩,by simp⟩
 |(off,t)::r,pos,s,h,hs,hq=>by
  simp only [contig] at h
  split at h
  ·rename_i hb
   obtain rfl:=Nat.eq_of_beq_eq_true hb
   obtain ⟨h1,us,h2,h3⟩:=Ad4 r (off+sizeOf cx t) s h hs (fun p hp=>hq p (List.mem_cons_of_mem _ hp))
   obtain ⟨ts,h4,h5⟩:=hq (off,t) (List.mem_cons_self ..)
   have hlt:ts.length=sizeOf cx t:=by have:=h4.1;simp at this;omega
   refine ⟨by omega,ts++us,?_,?_⟩
   ·have:=h4.append h2
    have e:(cs.drop off).take (sizeOf cx t)++(cs.drop (off+sizeOf cx t)).take (s-(off+sizeOf cx t))=(cs.drop off).take (s-off):=by
     rw [show s-off=sizeOf cx t+(s-(off+sizeOf cx t)) by omega,List.take_add,List.drop_drop]
    rw [e] at this
    exact this
   ·intro p hp
    rcases List.mem_cons.1 hp with rfl|hp
    ·refine ⟨Nat.le_refl _,?_⟩
     simp only [Nat.sub_self,List.drop_zero]
     rw [List.take_append_of_le_length (by omega),List.take_of_length_le (by omega)]
     exact h5
    ·obtain ⟨k1,k2⟩:=h3 p hp
     refine ⟨by omega,?_⟩
     have e:(ts++us).drop (p.1-off)=us.drop (p.1-(off+sizeOf cx t)):=by
      rw [List.drop_append,List.drop_of_length_le (by omega)]
      simp
      congr 1
      omega
     rw [e]
     exact k2
  ·contradiction
theorem AfM {a:Addr} {n:Nat} {l:List Value} (h:w.cells? 0 a n=some l):l.length=n∧ ∀j,j<n→w.cell? (a.add j)=l[j]?:=by
 unfold World.cells? at h
 rw [if_pos (Nat.zero_le _)] at h
 refine ⟨by simpa using mapM_some_length h,fun j hj=> ?_⟩
 exact mapM_some_get h j j (by simp [hj])
theorem Aev {m e:Nat} {ts:List T} (h:Conf cx m e ts) (hs:isStruct cx e=false): ∃x,ts= [x]∧x.cells= [x]∧x≠ .any:=by
 cases m with
 |zero=>exact h.elim
 |succ m=>
  unfold isStruct at hs
  simp only [Conf] at h
  cases hi:cx.ti.get e with
  |none=>rw [hi] at h;exact h.elim
  |some i=>
   rw [hi] at h hs
   cases i with
   |mk ty s b eq=>
    cases ty<;>simp only at h hs
    ·obtain ⟨v,rfl,_⟩:=h;exact ⟨_,rfl,rfl,by simp⟩
    ·obtain ⟨v,rfl⟩:=h;exact ⟨_,rfl,rfl,by simp⟩
    ·obtain ⟨v,rfl,_⟩:=h;exact ⟨_,rfl,rfl,by simp⟩
    ·obtain ⟨v,rfl,_⟩:=h;exact ⟨_,rfl,rfl,by simp⟩
    ·contradiction
theorem Acp {e:Nat}: ∀ {ds:List (DataW H)} {i:Nat} {d:DataW H},ds[i]?=some d→ ∀k∈d.weights P e,k∈DataW.weightsAll P e ds
 | [],i,d,h,_,_=>by simp at h
 |x::r,0,d,h,k,hk=>by
  simp at h;subst h
  simp only [DataW.weightsAll,List.mem_append]
  exact .inl hk
 |x::r,i+1,d,h,k,hk=>by
  simp only [DataW.weightsAll,List.mem_append]
  exact .inr (Acp (by simpa using h) k hk)
theorem Ahi (hc:CxTy P cx): ∀(m n t:Nat) (cs:List Value) (x:DataW H×List MemPlace),rdB cx m t=true→(∀k∈x.1.weights P t,k≤reachBytes)→DataW.trod enc P w 0 spare held n t cs=some x→ ∃ts,Trees w ts cs∧Conf cx m t ts:=by
 intro m
 induction m with
 |zero=>intro n t cs x h;simp [rdB] at h
 |succ m ih=>
  intro n t cs x hr hw h
  unfold rdB at hr
  split at hr
  ·rename_i i hi
   obtain ⟨inf,d,h1,h2,h3,h4,h5,_⟩:=hc.ty t i hi
   have conf: ∀ts,Conf cx (m+1) t ts=(match i.ty with
    | .int k=> ∃m,ts= [.int k m]∧(Lit.int k m).wf=true
    | .bool=> ∃b,ts= [.bool b]
    | .str=> ∃s,ts= [.str s]∧s.size≤reachBytes
    | .slice e=> ∃xs,ts= [.sl (sizeOf cx e) xs]∧xs.length≤maxLen∧xs.length*bytesOf cx e≤reachBytes∧ ∀x∈xs,x≠ .any∧(isStruct cx e=true→ ∃l,x= .agg l)∧(isStruct cx e=false→x.cells= [x])∧Conf cx m e x.cells
    | .struct fs=>ts.length=i.size∧ ∀p∈fs,Conf cx m p.2 ((ts.drop p.1).take (sizeOf cx p.2))
    |_=>False):=by
    intro ts
    simp only [Conf,hi]
   cases hty:i.ty with
   |int k=>
    rw [hty] at h5
    simp only [TyR] at h5
    subst h5
    obtain ⟨v,rfl,_,hwf⟩:=DataW.trod_int h2 h
    exact ⟨[.int k v],.one (.int _ _) rfl (by simp),by rw [conf,hty];exact ⟨v,rfl,hwf⟩⟩
   |bool=>
    rw [hty] at h5
    simp only [TyR] at h5
    subst h5
    obtain ⟨v,rfl,_⟩:=DataW.trod_bool h2 h
    exact ⟨[.bool v],.one (.bool _) rfl (by simp),by rw [conf,hty];exact ⟨v,rfl⟩⟩
   |str=>
    rw [hty] at h5
    simp only [TyR] at h5
    subst h5
    obtain ⟨v,rfl,rfl,_⟩:=DataW.trod_string h2 h
    exact ⟨[.str v],.one (.str _) rfl (by simp),by rw [conf,hty];exact ⟨v,rfl,by simpa [DataW.weights] using hw⟩⟩
   |slice e=>
    rw [hty] at h5 hr
    simp only [TyR] at h5
    obtain ⟨rfl,ie,hie,hpos⟩:=h5
    obtain ⟨c1,c2⟩:=AbP hc hie
    rcases DataW.trod_slice h2 h with ⟨rfl,_⟩|⟨a,len,cap,elems,rest,n',rfl,rfl,rfl,_,hl,hmx,hel,hall,_⟩
    ·exact ⟨[.sl (sizeOf cx e) []],.one (.slN _ _ _) rfl (by simp),by rw [conf,hty];exact ⟨[],rfl,Nat.zero_le _,by simp,by simp⟩⟩
    by_cases h0:len=0
    ·subst h0
     exact ⟨[.sl (sizeOf cx e) []],.one (.slN _ _ _) rfl (by simp),by rw [conf,hty];exact ⟨[],rfl,Nat.zero_le _,by simp,by simp⟩⟩
    have each: ∀i,∃x:T,i<len→ ∃l:List Value,x≠ .any∧(isStruct cx e=true→ ∃l,x= .agg l)∧(isStruct cx e=false→x.cells= [x])∧Conf cx m e x.cells∧x.cells.length=ie.size∧(∀j,j<ie.size→w.cell? ((a.add (i*ie.size)).add j)=l[j]?)∧Trees w x.cells l∧l.length=ie.size:=by
     intro i
     by_cases hi:i<len
     ·have:=hall i hi
      rw [List.getElem?_eq_getElem (by omega:i<elems.length),Option.bind_eq_some_iff,c1] at this
      obtain ⟨l,q1,q2⟩:=this
      obtain ⟨q3,q4⟩:=AfM q1
      obtain ⟨ts,k1,k2⟩:=ih n' e l _ hr (fun k hk=>hw k (by
       simp only [DataW.weights,h2,List.mem_cons,List.mem_append]
       exact .inr (.inl (Acp (i:=i) (by rw [List.getElem?_map,List.getElem?_eq_getElem (by omega:i<elems.length)];rfl) k hk)))) q2
      have hlen:ts.length=ie.size:=k1.1.trans q3
      by_cases hst:isStruct cx e=true
      ·exact ⟨.agg ts,fun _=>⟨l,by simp,fun _=>⟨ts,rfl⟩,fun h=>absurd (hst.symm.trans h) (by simp),k2,hlen,q4,k1,q3⟩⟩
      ·obtain ⟨x,rfl,hx,hne⟩:=Aev k2 (by simpa using hst)
       exact ⟨x,fun _=>⟨l,hne,fun h=>absurd h hst,fun _=>hx,by rw [hx];exact k2,by rw [hx];exact hlen,q4,by rw [hx];exact k1,q3⟩⟩
     ·exact ⟨.any,fun h=>absurd h hi⟩
    obtain ⟨f,hf⟩:=Classical.axiomOfChoice each
    have hpos':0<len:=by omega
    obtain ⟨blk,off,spot⟩:=a
    have hcell: ∀i j,i<len→j<ie.size→ ∃v,w.cell? ⟨blk,off+i*ie.size+j,none⟩=some v∧spot=none∧v.oneCell'=true∧(∀t,(f i).cells[j]?=some t→TR (· <w.heap.size) w t v):=by
     intro i j hi hj
     obtain ⟨l,_,_,_,_,q1,q2,q3,q4⟩:=hf i hi
     have hlj:l[j]?=some l[j]:=List.getElem?_eq_getElem (by omega)
     have hcj:=q2 j hj
     rw [hlj] at hcj
     have hz:w.cell? ((⟨blk,off,spot⟩:Addr).add (0*ie.size)|>.add 0)≠none:=by
      obtain ⟨l0,_,_,_,_,_,p2,_,p4⟩:=hf 0 hpos'
      rw [p2 0 hpos,List.getElem?_eq_getElem (by omega)]
      simp
     have hspot:spot=none:=by
      cases spot with
      |none=>rfl
      |some z=>
       exfalso
       apply hz
       simp only [Nat.zero_mul,Addr.add,if_true,World.cell?]
       split<;>simp
     subst hspot
     rw [Aay,Aay] at hcj
     refine ⟨l[j],hcj,rfl,?_,fun t ht=>(q3.2 j t _ ht hlj).1⟩
     have hjt:j<(f i).cells.length:=by omega
     exact (q3.2 j _ _ (List.getElem?_eq_getElem hjt) hlj).2.1
    have hsp:spot=none:=(hcell 0 0 hpos' hpos).elim fun v h=>h.2.1
    subst hsp
    have hget: ∀(i:Nat) x,((List.range len).map f)[i]?=some x→i<len∧x=f i:=by
     intro i x hx
     rw [List.getElem?_map] at hx
     obtain ⟨k,hk,rfl⟩:=Option.map_eq_some_iff.1 hx
     have hi:i<len:=by have:=(List.getElem?_eq_some_iff.1 hk).1;simpa using this
     rw [List.getElem?_range hi] at hk
     obtain rfl:=Option.some.inj hk
     exact ⟨hi,rfl⟩
    have hblk:blk<w.heap.size:=by
     obtain ⟨v,hv,_⟩:=hcell 0 0 hpos' hpos
     rcases Nat.lt_or_ge blk w.heap.size with hb|hb
     ·exact hb
     ·have:w.heap[blk]?=none:=Array.getElem?_eq_none hb
      simp [World.cell?,this] at hv
    refine ⟨[.sl (sizeOf cx e) ((List.range len).map f)],.one ?_ rfl (by simp),?_⟩
    ·have:=TR.slC (F:=(· <w.heap.size)) (w:=w) (sizeOf cx e) ((List.range len).map f) blk off cap (fun i j=>(w.cell? ⟨blk,off+i*ie.size+j,none⟩).getD undef) (by intro hh;have:=congrArg zq hh;simp at this;omega) (by simpa using hl) hblk ?_ ?_ ?_
     ·simpa using this
     ·intro i j hi hj
      rw [c2] at hj⊢
      simp only [List.length_map,List.length_range] at hi
      obtain ⟨v,hv,_,hone,_⟩:=hcell i j hi hj
      simp only [hv,Option.getD_some]
      exact ⟨trivial,hone⟩
     ·intro i x hx _
      obtain ⟨hi,rfl⟩:=hget i x hx
      obtain ⟨l,_,_,_,_,q1,_⟩:=hf i hi
      rw [c2];exact q1
     ·intro i j x t hx _ ht
      obtain ⟨hi,rfl⟩:=hget i x hx
      obtain ⟨l,_,_,_,_,q1,_⟩:=hf i hi
      have hj:j<ie.size:=by have:=(List.getElem?_eq_some_iff.1 ht).1;omega
      obtain ⟨v,hv,_,_,htr⟩:=hcell i j hi hj
      simp only [hv,Option.getD_some]
      exact htr t ht
    ·rw [conf,hty]
     have hby:len*bytesOf cx e≤reachBytes:=by
      have:=hw ((elems.map (·.1)).length+(rest.map (·.1)).length|>(· *P.bytesOf e)) (by simp [DataW.weights,h2])
      obtain ⟨infe,de,b1,b2,b3,b4,_⟩:=hc.ty e ie hie
      have hb:P.bytesOf e=bytesOf cx e:=by simp [Program.bytesOf,b1,b4,bytesOf,hie]
      simp only [List.length_map,hb] at this
      have hle:len*bytesOf cx e≤(elems.length+rest.length)*bytesOf cx e:=Nat.mul_le_mul_right _ (by omega)
      omega
     refine ⟨_,rfl,by simp;omega,by simpa using hby,fun x hx=> ?_⟩
     obtain ⟨i,hi,rfl⟩:=List.mem_map.1 hx
     obtain ⟨l,k1,k2,k3,k4,_⟩:=hf i (by simpa using hi)
     exact ⟨k1,k2,k3,k4⟩
   |struct fs=>
    rw [hty] at h5 hr
    simp only [TyR] at h5
    obtain ⟨fields,rfl,hm,hall⟩:=h5
    simp only [Bool.and_eq_true] at hr
    obtain ⟨hr1,hr2⟩:=hr
    split at hr2
    ·rename_i s hs
     obtain rfl:=Nat.eq_of_beq_eq_true hr2
     obtain ⟨xs,n',rfl,rfl,hl,hxl,hf⟩:=DataW.trod_struct h2 h
     obtain ⟨c1,c2⟩:=AbP hc hi
     obtain ⟨_,ts,k1,k2⟩:=Ad4 (w:=w) (cs:=cs) (Q:=fun t ts=>Conf cx m t ts) fs 0 i.size hs (by omega) (by
      intro p hp
      rw [←hm] at hp
      simp only [List.mem_map] at hp
      obtain ⟨f,hfm,rfl⟩:=hp
      obtain ⟨j,hj,rfl⟩:=List.getElem_of_mem hfm
      have hj':j<fields.size:=by simpa using hj
      have hfj:fields[j]?=some fields[j]:=by simp [hj']
      have:=hf j _ hfj
      have hxj:xs[j]?=some xs[j]:=List.getElem?_eq_getElem (by omega)
      rw [hxj] at this
      obtain ⟨_,i',hi'⟩:=hall fields[j] (by simp)
      obtain ⟨e1,e2⟩:=AbP hc hi'
      rw [e1,←e2] at this
      simp only [Array.getElem_toList]
      exact ih n' _ _ _ (List.all_eq_true.1 hr1 (fields[j].offset,fields[j].type) (by rw [←hm];exact List.mem_map.2 ⟨fields[j],by simp,rfl⟩)) (fun k hk=>hw k (by
       simp only [DataW.weights,h2]
       exact DataW.weights_mem_each (j:=j) (by simp [hj']) (by rw [List.getElem?_map,hxj];rfl) k hk)) this)
     refine ⟨ts,by simpa [List.take_of_length_le (show cs.length≤i.size by omega)] using k1,?_⟩
     rw [conf,hty]
     refine ⟨by have:=k1.1;simp at this;omega,fun p hp=> ?_⟩
     simpa using (k2 p hp).2
    ·contradiction
   |_=>rw [hty] at hr;contradiction
  ·contradiction
end
end Go.Eva
namespace Go.Eva
open Go.RowKit Go.ChangeShapes Go.WideShapes
def Arg (cx:Cx) (m t:Nat) (x:T):Prop:=x≠ .any∧(isStruct cx t=true→ ∃l,x= .agg l)∧(isStruct cx t=false→x.cells= [x])∧Conf cx m t x.cells
def Args (cx:Cx) (m:Nat):List Nat→List T→Prop
 | [],[]=>True
 |t::ts,x::xs=>Arg cx m t x∧Args cx m ts xs
 |_,_=>False
theorem Af8 {cx:Cx} {m t:Nat} {ts:List Nat} {xs:List T} (h:Args cx m (t::ts) xs): ∃x ys,xs=x::ys∧Arg cx m t x∧Args cx m ts ys:=by
 cases xs with
 |nil=>exact h.elim
 |cons x ys=>exact ⟨x,ys,rfl,h.1,h.2⟩
theorem AgD {cx:Cx} {m:Nat} {xs:List T} (h:Args cx m [] xs):xs= []:=by
 cases xs with
 |nil=>rfl
 |cons x ys=>exact h.elim
section
variable {P:Program} {cx:Cx} {H:Type} {enc:TypeId×Value→H} {W:World} {spare:Nat→Bool} {held:Bool} {base:Nat}
theorem Ahr (hc:CxTy P cx) {m t:Nat} {v:Value} {d:DataW H} {p:List MemPlace} (hr:rdB cx m t=true) (hval:Value.okWide P W .any base t v) (hw: ∀k∈d.weights P t,k≤reachBytes)
  (h:DataW.Trod enc P W 0 spare held t v d p): ∃x,TR (· <W.heap.size) W x v∧Arg cx m t x:=by
 obtain ⟨fuel,hf⟩:=h
 obtain ⟨ts,h1,h2⟩:=Ahi hc m fuel t _ (d,p) hr hw hf
 cases m with
 |zero=>exact h2.elim
 |succ m=>
  cases hi:cx.ti.get t with
  |none=>simp [Conf,hi] at h2
  |some i=>
   obtain ⟨inf,dd,e1,e2,e3,e4,e5,_⟩:=hc.ty t i hi
   obtain ⟨ty,isz,ib,ieq⟩:=i
   simp only at e3 e4 e5
   by_cases hs:isStruct cx t=true
   ·cases ty with
    |struct fs=>
     simp only [TyR] at e5
     obtain ⟨fields,rfl,_⟩:=e5
     obtain ⟨cs,rfl,hcs⟩:=okWide_struct e2 hval
     refine ⟨.agg ts,.agg _ _ (by simpa [Value.cells] using h1.1) ?_ ?_,by simp,fun _=>⟨ts,rfl⟩,fun h=>absurd (hs.symm.trans h) (by simp),h2⟩
     ·intro i c hic
      have hlt:i<ts.length:=by have:=(Array.getElem?_eq_some_iff.1 hic).1;have:=h1.1;simp [Value.cells] at this;omega
      exact (h1.2 i _ c (List.getElem?_eq_getElem hlt) (by simpa [Value.cells] using hic)).2.1
     ·intro i x c hx hic
      exact (h1.2 i x c hx (by simpa [Value.cells] using hic)).1
    |_=>simp [isStruct,hi] at hs
   ·have hs':isStruct cx t=false:=by simpa using hs
    obtain ⟨x,rfl,hx,hne⟩:=Aev h2 hs'
    have hv:v.cells= #[v]:=by
     unfold rdB at hr
     rw [hi] at hr
     cases ty with
     |int k=>simp only [TyR] at e5;subst e5;obtain ⟨n,rfl⟩:=okWide_int e2 hval;rfl
     |bool=>simp only [TyR] at e5;subst e5;obtain ⟨n,rfl⟩:=okWide_bool e2 hval;rfl
     |str=>simp only [TyR] at e5;subst e5;obtain ⟨n,rfl⟩:=okWide_string e2 hval;rfl
     |slice e=>simp only [TyR] at e5;obtain ⟨rfl,_⟩:=e5;obtain ⟨a,b,c,rfl⟩:=okWide_slice e2 hval;rfl
     |struct fs=>simp [isStruct,hi] at hs'
     |_=>simp at hr
    rw [hv] at h1
    exact ⟨x,(h1.2 0 x v rfl rfl).1,hne,fun h=>absurd h hs,fun _=>hx,by rw [hx];exact h2⟩
theorem Ac3 (hc:CxTy P cx) {m:Nat}: ∀ {pts:List Nat} {vs:List Value} {ds:List (DataW H)} {ps:List MemPlace},DataW.TrodAll enc P W 0 spare held pts vs ds ps→pts.all (rdB cx m)=true→
  (∀k∈DataW.weightsEach P pts ds,k≤reachBytes)→(∀(j:Nat) t v,pts[j]?=some t→vs[j]?=some v→Value.okWide P W .any base t v)→
  ∃xs,VRs ⟨fun _=>none,fun _=> []⟩ (· <W.heap.size) W [] (xs.map .t) vs∧Args cx m pts xs
 | [],vs,ds,ps,h,_,_,_=>by
  obtain ⟨rfl,rfl,rfl⟩:=trodAll_nil h
  exact ⟨[],⟨rfl,by simp⟩,trivial⟩
 |t::pts,vs,ds,ps,h,hr,hw,hv=>by
  obtain ⟨v,vs',d,ds',p,q,rfl,rfl,rfl,h1,h2⟩:=trodAll_cons h
  simp only [List.all_cons,Bool.and_eq_true] at hr
  obtain ⟨x,k1,k2⟩:=Ahr (base:=base) hc hr.1 (hv 0 t v rfl rfl) (fun k hk=>hw k (by simp only [DataW.weightsEach,List.mem_append];exact .inl hk)) h1
  obtain ⟨xs,k3,k4⟩:=Ac3 hc h2 hr.2 (fun k hk=>hw k (by simp only [DataW.weightsEach,List.mem_append];exact .inr hk)) (fun j t v ht hv'=>hv (j+1) t v ht hv')
  refine ⟨x::xs,⟨by have:=k3.1;simp at this;simp [this],?_⟩,k2,k4⟩
  intro i y u hy hu
  cases i with
  |zero=>simp at hy hu;subst hy;subst hu;exact .t _ _ k1
  |succ i=>exact k3.2 i y u (by simpa using hy) (by simpa using hu)
theorem Agg (hl:laidOutB P=true) {W':World} (bel:Below W.heap.size W W'): ∀ {pts:List Nat} {vs:List Value} {ds:List (DataW H)} {ps:List MemPlace},DataW.TrodAll enc P W 0 (fun _=>true) true pts vs ds ps→
  (pts.all fun t=>P.readableRec t&&decide (t<P.types.size))=true→DataW.TrodAll enc P W' 0 (fun b=>decide (b<W.heap.size)) true pts vs ds ps
 | [],vs,ds,ps,h,_=>by
  obtain ⟨rfl,rfl,rfl⟩:=trodAll_nil h
  exact trodAll_mk0
 |t::pts,vs,ds,ps,h,hr=>by
  obtain ⟨v,vs',d,ds',p,q,rfl,rfl,rfl,h1,h2⟩:=trodAll_cons h
  simp only [List.all_cons,Bool.and_eq_true,decide_eq_true_eq] at hr
  refine trodAll_cons_mk (Below.trod hl hr.1.1 hr.1.2 h1 bel ?_) (Agg hl bel h2 hr.2)
  obtain ⟨m,hm⟩:=h1
  exact DataW.trod_lt m _ _ _ hm
theorem AeS: ∀ {pts:List Nat} {vs:List Value} {ds:List (DataW H)} {ps:List MemPlace},DataW.TrodAll enc P W 0 spare held pts vs ds ps→ds.length=pts.length
 | [],vs,ds,ps,h=>by
  obtain ⟨rfl,rfl,rfl⟩:=trodAll_nil h
  rfl
 |t::pts,vs,ds,ps,h=>by
  obtain ⟨v,vs',d,ds',p,q,rfl,rfl,rfl,h1,h2⟩:=trodAll_cons h
  simp [AeS h2]
theorem Afx (hc:CxTy P cx) (hfn:FnsOK P cx) {f:Nat} {xs:List T} (h:Ev cx (.call f (xs.map .t) []) (· =⟨.ret,[.t (.bool true)],[]⟩)) {vals:Array Value}
  (hv:VRs ⟨fun _=>none,fun _=> []⟩ (· <W.heap.size) W [] (xs.map .t) vals.toList):Calls P f vals W fun e W'=>e= .returned (.bool true)∧Below W.heap.size W W':=by
 have:=sound hc hfn h
 refine (this W ⟨fun _=>none,fun _=> []⟩ (· <W.heap.size) vals (AbZ fun b hb=>hb) hv).mono ?_
 rintro e W' ⟨x,v,ι',F',rfl,rfl,_,_,hr,he⟩
 refine ⟨?_,he.os,he.tape,he.output,he.size,fun k hk=>he.same k hk (fun h=>Abp h)⟩
 have:VR ι' F' W' [] (.t (.bool true)) v:=hr
 cases this with
 |t x v h=>cases h;rfl
end
end Go.Eva
namespace Go.Eva
inductive Hd where
 |fail|ret
 |ask (t:Task)|test (b:Bool)|num (k:IntKind) (n:Int)|get (xs:List T) (i:Nat)|norm (x:T)|nat (n:Nat)|cap (lo:Nat)|want (p:Prop)|both|find (kd:IntKind) (n:Int) (ks:List T)
inductive An where
 |b (c:Bool)|i (n:Int)|t (x:T)|n (m:Nat)|r (x:Res)|o|f (x:Option Nat)
def hd {α:Type}:Q α→Hd
 | .fail=> .fail
 | .ret _=> .ret
 | .ask t _=> .ask t
 | .test b _=> .test b
 | .num k n _=> .num k n
 | .get xs i _=> .get xs i
 | .norm x _=> .norm x
 | .nat n _=> .nat n
 | .cap lo _=> .cap lo
 | @Q.want _ p _ _=> .want p
 | .both _ _=> .both
 | .find kd n ks _=> .find kd n ks
def nx {α:Type}:Q α→An→Q α
 | .ask _ k,.r x=>k x
 | .test _ k,.b c=>k c
 | .num _ _ k,.i n=>k n
 | .get _ _ k,.t x=>k x
 | .norm _ k,.t x=>k x
 | .nat _ k,.n m=>k m
 | .cap _ k,.n m=>k m
 | @Q.want _ _ _ q,.o=>q
 | .both p _,.b true=>p
 | .both _ q,.b false=>q
 | .find _ _ _ k,.f x=>k x
 |_,_=> .fail
def out {α:Type}:Q α→Option α
 | .ret a=>some a
 |_=>none
def Ok (S:Task→(Res→Prop)→Prop):Hd→An→Prop
 | .ask t,.r x=>S t (· =x)
 | .test b,.b c=>b=c
 | .num k n,.i m=>k.wrap n=m
 | .get xs i,.t x=>xs[i]?=some x∧x≠ .any
 | .norm x,.t y=>x=y
 | .nat n,.n m=>n=m
 | .want p,.o=>p
 | .find kd n ks,.f x=>keysB kd ks=true∧findIx kd n ks=x
 |_,_=>False
def nxs {α:Type}:Q α→List An→Q α
 |q,[]=>q
 |q,a::az=>nxs (nx q a) az
def hds {α:Type}:Q α→List An→List Hd
 |_,[]=> []
 |q,a::az=>hd q::hds (nx q a) az
def Oks (S:Task→(Res→Prop)→Prop):List Hd→List An→Prop
 | [],[]=>True
 | [h],[a]=>Ok S h a
 |h::hs,a::az=>Ok S h a∧Oks S hs az
 |_,_=>False
abbrev ti (n:Int):T:= .int .i64 n
abbrev vi (n:Int):V:= .t (.int .i64 n)
abbrev vb (b:Bool):V:= .t (.bool b)
def gt {α:Type} [Inhabited α] (l:List α) (i:Nat):α:=l[i]?.getD default
section
variable {S:Task→(Res→Prop)→Prop}
theorem o_a {t:Task} {x:Res} (h:S t (· =x)):Ok S (.ask t) (.r x):=h
end
section
variable {α:Type} {f:α→T} {a b:List T} {l m:List α} {x:T} {e:α} {n:Nat}
end
inductive Stp where
 |tt|ff
 |b (x c:Bool)|w (p:Prop)|n (n m:Nat)|l (n:Nat)|i (k:IntKind) (n m:Int)|t (x y:T)|s (x:T)|g (xs:List T) (i:Nat) (x:T)|a (t:Task) (r:Res)|f (kd:IntKind) (n:Int) (ks:List T) (x:Option Nat)
def Stp.hd:Stp→Hd
 | .tt=> .test true| .ff=> .test false
 | .b x1 _=> .test x1| .w p1=> .want p1| .n n1 _=> .nat n1| .l n1=> .nat n1| .i k1 n1 _=> .num k1 n1| .t x1 _=> .norm x1| .s x1=> .norm x1| .g xs1 i1 _=> .get xs1 i1| .a t1 _=> .ask t1| .f kd1 n1 ks1 _=> .find kd1 n1 ks1
def Stp.an:Stp→An
 | .tt=> .b true| .ff=> .b false
 | .b _ c1=> .b c1| .w _=> .o| .n _ m1=> .n m1| .l n1=> .n n1| .i _ _ m1=> .i m1| .t _ y1=> .t y1| .s x1=> .t x1| .g _ _ x1=> .t x1| .a _ r1=> .r r1| .f _ _ _ x1=> .f x1
def hdL:List Stp→List Hd
 | []=> []
 |s::r=>s.hd::hdL r
def anL:List Stp→List An
 | []=> []
 |s::r=>s.an::anL r
def Obs (S:Task→(Res→Prop)→Prop):List Stp→Prop
 | []=>True
 | .tt::r=>Obs S r
 | .ff::r=>Obs S r
 | .l _::r=>Obs S r
 | .s _::r=>Obs S r
 |x::r=>Ok S x.hd x.an∧Obs S r
theorem Obs.oks {S:Task→(Res→Prop)→Prop}: ∀ {l:List Stp},Obs S l→Oks S (hdL l) (anL l)
 | [],_=>trivial
 |s::r,h=>by
  have key:Ok S s.hd s.an∧Oks S (hdL r) (anL r):=by
   cases s<;>first|exact ⟨h.1,Obs.oks h.2⟩|exact ⟨rfl,Obs.oks (l:=r) h⟩
  cases r with
  |nil=>exact key.1
  |cons s' r=>exact key
section
variable {S:Task→(Res→Prop)→Prop}
end
structure Wp (cx:Cx) (q:Q Res) (R:Res→Prop):Prop where
 h:wpQ (Ev cx) q R
section
variable {cx:Cx} {R:Res→Prop} {q:Q Res}
theorem Wp.ev {t:Task} (h:Wp cx (body cx t) R):Ev cx t R:=Ev.mk h.h
theorem go1 {a:An} (h:Ok (Ev cx) (hd q) a) (k:Wp cx (nx q a) R):Wp cx q R:=by
 constructor
 replace k:=k.h
 cases q<;>cases a<;>simp only [hd,Ok,nx] at h k<;>try exact h.elim
 ·exact ⟨_,h,⟨_,rfl⟩,fun _ e=>e ▸ k⟩
 ·subst h;exact k
 ·subst h;exact k
 ·exact ⟨_,h.1,h.2,k⟩
 ·subst h;exact k
 ·subst h;exact k
 ·exact ⟨h,k⟩
 ·exact ⟨h.1,h.2.symm ▸ k⟩
theorem go {l:List An} {hs:List Hd} (h:hds q l=hs) (o:Oks (Ev cx) hs l) (k:Wp cx (nxs q l) R):Wp cx q R:=by
 induction l generalizing q hs with
 |nil=>exact k
 |cons a l ih=>
  subst h
  cases l with
  |nil=>exact go1 o k
  |cons b l=>exact go1 o.1 (ih rfl o.2 k)
theorem gs {l:List Stp} (h:hds q (anL l)=hdL l) (o:Obs (Ev cx) l) (k:Wp cx (nxs q (anL l)) R):Wp cx q R:=go h o.oks k
theorem bo (h:hd q= .both) (k1:Wp cx (nx q (.b true)) R) (k2:Wp cx (nx q (.b false)) R):Wp cx q R:=by
 cases q<;>simp only [hd,reduceCtorEq] at h
 exact ⟨k1.h,k2.h⟩
theorem rt {a:Res} (h:out q=some a) (hr:R a):Wp cx q R:=by
 cases q<;>simp only [out,Option.some.injEq,reduceCtorEq] at h
 subst h
 exact ⟨hr⟩
theorem gg (l:List Stp) (o:Obs (Ev cx) l) (k:Wp cx (nxs q (anL l)) R) (h:hds q (anL l)=hdL l:=by kernel_rfl):Wp cx q R:=gs h o k
theorem bO (k1:Wp cx (nx q (.b true)) R) (k2:Wp cx (nx q (.b false)) R) (h:hd q= .both:=by kernel_rfl):Wp cx q R:=bo h k1 k2
theorem rT {a:Res} (hr:R a) (h:out q=some a:=by kernel_rfl):Wp cx q R:=rt h hr
theorem nK {S:Task→(Res→Prop)→Prop} {n m:Nat} (h:n=m:=by kernel_rfl):Ok S (.nat n) (.n m):=h
theorem bK {S:Task→(Res→Prop)→Prop} {b c:Bool} (h:b=c:=by kernel_rfl):Ok S (.test b) (.b c):=h
end
theorem mkOk {P : Program} {cx : Cx} {f : Nat} {fi : FI} {fn : Func} (h1 : P.funcs[f]? = some fn := by kernel_rfl) (h2 : fn.name ≠ "runtime.NumGoroutine" := by decide +kernel) (h3 : fn.body = some fi.code := by kernel_rfl)
 (h4:fn.results.toList.map rvOf=fi.res:=by kernel_rfl) (h5:fi.res.all (rvTy cx)=true:=by kernel_rfl) (h6:fitC cx fi fn.ntmps fi.code=true:=by decide+kernel):FnOK P cx f fi fn:=⟨h1,h2,h3,h4,h5,h6⟩
end Go.Eva
namespace Go.Eva
def eqPs:List (Nat×V)→List (Nat×V)→Bool
 | [],[]=>true
 |(i,a)::x,(j,b)::y=>match Nat.beq i j&&a.eqB b with|true=>eqPs x y|false=>false
 |_,_=>false
def Ob.eqB:Ob→Ob→Bool
 | .arr s a p r,.arr t b q u=>match Nat.beq s t&&eqO p q&&eqBo r u with|true=>eqTs a b|false=>false
 | .one s v r,.one t u q=>match Nat.beq s t&&eqBo r q with|true=>v.eqB u|false=>false
 | .vec s a p,.vec t b q=>match Nat.beq s t&&eqTs a b with|true=>eqPs p q|false=>false
 | .map a b p,.map c d q=>match eqTs a c&&eqTs b d with|true=>eqPs p q|false=>false
 | .iter a b c,.iter d e f=>match eqTs a d&&eqTs b e with|true=>eqN c f|false=>false
 | .rng a b p i c,.rng d e q j f=>match eqTs a d&&eqTs b e&&Nat.beq i j&&eqPs p q with|true=>eqN c f|false=>false
 | .hand m,.hand n=>Nat.beq m n
 | .dead,.dead=>true
 |_,_=>false
def eqH:Heap→Heap→Bool
 | [],[]=>true
 |a::x,b::y=>match a.eqB b with|true=>eqH x y|false=>false
 |_,_=>false
def eqE:Ex→Ex→Bool
 | .normal,.normal=>true
 | .ret,.ret=>true
 | .exit a,.exit b=>Nat.beq a b
 |_,_=>false
def Res.eqB (a b:Res):Bool:=match eqE a.e b.e with
 |true=>match eqVs a.vs b.vs with|true=>eqH a.H b.H|false=>false
 |false=>false
theorem Adl: ∀ {a b:List (Nat×V)},eqPs a b=true→a=b
 | [],[],_=>rfl
 |(i,x)::a,(j,y)::b,h=>by
  unfold eqPs at h
  split at h
  ·rename_i hb
   simp only [Bool.and_eq_true] at hb
   rw [Nat.eq_of_beq_eq_true hb.1,V.eqB_ok hb.2,Adl h]
  ·contradiction
 | [],_::_,h=>by simp [eqPs] at h
 |_::_,[],h=>by simp [eqPs] at h
theorem Ob.eqB_ok {a b:Ob} (h:Ob.eqB a b=true):a=b:=by
 unfold Ob.eqB at h
 split at h
 ·split at h
  ·rename_i hs
   simp only [Bool.and_eq_true] at hs
   rw [Nat.eq_of_beq_eq_true hs.1.1,AfT hs.1.2,AdZ hs.2,eqTs_ok h]
  ·contradiction
 ·split at h
  ·rename_i hs
   simp only [Bool.and_eq_true] at hs
   rw [Nat.eq_of_beq_eq_true hs.1,AdZ hs.2,V.eqB_ok h]
  ·contradiction
 ·split at h
  ·rename_i hs
   simp only [Bool.and_eq_true] at hs
   rw [Nat.eq_of_beq_eq_true hs.1,eqTs_ok hs.2,Adl h]
  ·contradiction
 ·split at h
  ·rename_i hs
   simp only [Bool.and_eq_true] at hs
   rw [eqTs_ok hs.1,eqTs_ok hs.2,Adl h]
  ·contradiction
 ·split at h
  ·rename_i hs
   simp only [Bool.and_eq_true] at hs
   rw [eqTs_ok hs.1,eqTs_ok hs.2,Aeu h]
  ·contradiction
 ·split at h
  ·rename_i hs
   simp only [Bool.and_eq_true] at hs
   rw [eqTs_ok hs.1.1.1,eqTs_ok hs.1.1.2,Nat.eq_of_beq_eq_true hs.1.2,Adl hs.2,Aeu h]
  ·contradiction
 ·rw [Nat.eq_of_beq_eq_true h]
 ·rfl
 ·contradiction
theorem Afu: ∀ {a b:Heap},eqH a b=true→a=b
 | [],[],_=>rfl
 |x::a,y::b,h=>by
  unfold eqH at h
  split at h
  ·rename_i hb;rw [Ob.eqB_ok hb,Afu h]
  ·contradiction
 | [],_::_,h=>by simp [eqH] at h
 |_::_,[],h=>by simp [eqH] at h
theorem Ah1 {a b:Ex} (h:eqE a b=true):a=b:=by
 unfold eqE at h
 split at h
 ·rfl
 ·rfl
 ·rw [Nat.eq_of_beq_eq_true h]
 ·contradiction
theorem Res.eqB_ok {a b:Res} (h:Res.eqB a b=true):a=b:=by
 obtain ⟨e,vs,H⟩:=a
 obtain ⟨e',vs',H'⟩:=b
 unfold Res.eqB at h
 simp only at h
 split at h
 ·rename_i h1
  split at h
  ·rename_i h2
   rw [Ah1 h1,eqVs_ok h2,Afu h]
  ·contradiction
 ·contradiction
def nowN {α:Type} (n:Nat) (k:Nat→α):α:=match n with
 |0=>k 0
 |n+1=>k (n+1)
def nowI {α:Type} (n:Int) (k:Int→α):α:=match n with
 | .ofNat m=>nowN m fun m=>k (.ofNat m)
 | .negSucc m=>nowN m fun m=>k (.negSucc m)
def nowT {α:Type} (x:T) (k:T→α):α:=match x with
 | .int kd n=>nowI n fun n=>k (.int kd n)
 | .bool b=>match b with|true=>k (.bool true)|false=>k (.bool false)
 |x=>k x
theorem Af2 {α:Type} (n:Nat) (k:Nat→α):nowN n k=k n:=by cases n<;>rfl
theorem AfU {α:Type} (n:Int) (k:Int→α):nowI n k=k n:=by cases n<;>simp [nowI,Af2]
theorem AfO {α:Type} (x:T) (k:T→α):nowT x k=k x:=by
 unfold nowT
 split
 ·rw [AfU]
 ·split<;>rfl
 ·rfl
def noAny:T→Bool
 | .any=>true
 |_=>false
def each {α β:Type} (f:α→Option (List β)):List α→Option (List β)
 | []=>some []
 |x::r=>match f x with
  |some l=>match each f r with
   |some m=>some (l++m)
   |none=>none
  |none=>none
def walk (ask:Task→Option (List Res)) {α:Type}:Q α→Option (List α)
 | .fail=>none
 | .ret a=>some [a]
 | .ask t k=>match ask t with
  |some rs=>each (fun r=>walk ask (k r)) rs
  |none=>none
 | .test b k=>match b with
  |true=>walk ask (k true)
  |false=>walk ask (k false)
 | .num kd n k=>nowI (kd.wrap n) fun m=>walk ask (k m)
 | .get xs i k=>match nth xs i with
  |some x=>match noAny x with
   |true=>none
   |false=>nowT x fun x=>walk ask (k x)
  |none=>none
 | .norm x k=>nowT x fun x=>walk ask (k x)
 | .nat n k=>nowN n fun m=>walk ask (k m)
 | .cap _ _=>none
 | @Q.want _ _ d q=>match d with
  |isTrue _=>walk ask q
  |isFalse _=>none
 | .both p q=>match walk ask p with
  |some l=>match walk ask q with
   |some m=>some (l++m)
   |none=>none
  |none=>none
 | .find kd n ks k=>match keysB kd ks with
  |true=>walk ask (k (findIx kd n ks))
  |false=>none
theorem Af0 {α β:Type} {f:α→Option (List β)}: ∀ {l:List α} {m:List β},each f l=some m→ ∀x∈l,∃r,f x=some r∧ ∀y∈r,y∈m
 | [],m,_,x,hx=>by simp at hx
 |z::l,m,h,x,hx=>by
  unfold each at h
  split at h
  ·rename_i r hr
   split at h
   ·rename_i m' hm
    simp at h;subst h
    rcases List.mem_cons.1 hx with rfl|hx
    ·exact ⟨r,hr,fun y hy=>by simp [hy]⟩
    ·obtain ⟨r',h1,h2⟩:=Af0 hm x hx
     exact ⟨r',h1,fun y hy=>by simp [h2 y hy]⟩
   ·contradiction
  ·contradiction
theorem Add {S:Task→(Res→Prop)→Prop} {ask:Task→Option (List Res)} (ha: ∀t rs,ask t=some rs→S t (· ∈rs)∧rs≠ []) {α:Type} (q:Q α): ∀l,walk ask q=some l→wpQ S q (· ∈l):=by
 induction q with
 |fail=>intro l h;simp [walk] at h
 |ret a=>intro l h;simp [walk] at h;subst h;simp [wpQ]
 |ask t k ih=>
  intro l h
  simp only [walk] at h
  split at h
  ·rename_i rs hrs
   obtain ⟨h1,h2⟩:=ha t rs hrs
   refine ⟨_,h1,?_,fun x hx=> ?_⟩
   ·cases rs with
    |nil=>exact absurd rfl h2
    |cons r _=>exact ⟨r,by simp⟩
   ·obtain ⟨m,h3,h4⟩:=Af0 h x hx
    exact AaF _ _ _ h4 (ih x m h3)
  ·contradiction
 |test b k ih=>intro l h;cases b<;>exact ih _ l h
 |num kd n k ih=>intro l h;simp only [walk,AfU] at h;exact ih _ l h
 |get xs i k ih=>
  intro l h
  simp only [walk] at h
  split at h
  ·rename_i x hx
   split at h
   ·contradiction
   ·rename_i hn
    rw [AfO] at h
    refine ⟨x,by rw [←Aad];exact hx,fun e=>by subst e;simp [noAny] at hn,ih _ l h⟩
  ·contradiction
 |norm x k ih=>intro l h;simp only [walk,AfO] at h;exact ih _ l h
 |nat n k ih=>intro l h;simp only [walk,Af2] at h;exact ih _ l h
 |cap lo k ih=>intro l h;simp [walk] at h
 |want p q ih=>
  rename_i d
  intro l h
  cases d with
  |isTrue hp=>exact ⟨hp,ih l h⟩
  |isFalse hp=>simp [walk] at h
 |both p q ih1 ih2=>
  intro l h
  simp only [walk] at h
  split at h
  ·rename_i l1 h1
   split at h
   ·rename_i l2 h2
    simp at h;subst h
    exact ⟨AaF _ _ _ (fun a ha=>by simp [ha]) (ih1 l1 h1),AaF _ _ _ (fun a ha=>by simp [ha]) (ih2 l2 h2)⟩
   ·contradiction
  ·contradiction
 |find kd n ks k ih=>
  intro l h
  simp only [walk] at h
  split at h
  ·rename_i hk;exact ⟨hk,ih _ l h⟩
  ·contradiction
def inR (r:Res):List Res→Bool
 | []=>false
 |x::l=>match r.eqB x with|true=>true|false=>inR r l
def once:List Res→List Res
 | []=> []
 |r::l=>match inR r l with|true=>once l|false=>r::once l
theorem AgI {r:Res}: ∀ {l:List Res},inR r l=true→r∈l
 | [],h=>by simp [inR] at h
 |x::l,h=>by
  unfold inR at h
  split at h
  ·rename_i hx;rw [Res.eqB_ok hx];simp
  ·exact List.mem_cons_of_mem _ (AgI h)
theorem AaX {x:Res}: ∀ {l:List Res},x∈l→x∈once l
 | [],h=>h
 |r::l,h=>by
  unfold once
  split
  ·rename_i hr
   rcases List.mem_cons.1 h with rfl|h
   ·exact AaX (AgI hr)
   ·exact AaX h
  ·rcases List.mem_cons.1 h with rfl|h
   ·simp
   ·exact List.mem_cons_of_mem _ (AaX h)
noncomputable def run (cx:Cx):Nat→Task→Option (List Res)
 |0,_=>none
 |n+1,t=>match walk (run cx n) (body cx t) with
  |some (r::l)=>some (once (r::l))
  |_=>none
theorem AgM {cx:Cx}: ∀(n:Nat) (t:Task) (rs:List Res),run cx n t=some rs→Ev cx t (· ∈rs)∧rs≠ []
 |0,t,rs,h=>by simp [run] at h
 |n+1,t,rs,h=>by
  simp only [run] at h
  split at h
  ·rename_i r l hg
   simp only [Option.some.injEq] at h;subst h
   exact ⟨Ev.mk (AaF _ _ _ (fun _ h=>AaX h) (Add (AgM n) _ _ hg)),fun e=>by have:=AaX (x:=r) (l:=r::l) (by simp);rw [e] at this;simp at this⟩
  ·contradiction
def allEq (R:Res):List Res→Bool
 | []=>true
 |r::l=>match r.eqB R with|true=>allEq R l|false=>false
theorem AcX {R:Res}: ∀ {l:List Res},allEq R l=true→ ∀r∈l,r=R
 | [],_,r,hr=>by simp at hr
 |x::l,h,r,hr=>by
  unfold allEq at h
  split at h
  ·rename_i hx
   rcases List.mem_cons.1 hr with rfl|hr
   ·exact Res.eqB_ok hx
   ·exact AcX h r hr
  ·contradiction
noncomputable def runs (cx:Cx) (n:Nat) (t:Task) (R:Res):Bool:=match run cx n t with
 |some l=>allEq R l
 |none=>false
theorem Aek {cx:Cx} {n:Nat} {t:Task} {R:Res} (h:runs cx n t R=true):Is cx t R:=by
 unfold runs at h
 split at h
 ·rename_i l hl
  cases n with
  |zero=>simp [run] at hl
  |succ n=>
   simp only [run] at hl
   split at hl
   ·rename_i r m hg
    simp only [Option.some.injEq] at hl;subst hl
    exact Ev.mk (AaF _ _ _ (fun x hx=>AcX h x (AaX hx)) (Add (AgM n) _ _ hg))
   ·contradiction
 ·contradiction
theorem Ev.mono {cx:Cx} {t:Task} {R R':Res→Prop} (h:Ev cx t R) (hr: ∀x,R x→R' x):Ev cx t R':=by
 intro P hc hf
 have h:=h P hc hf
 cases t with
 |call f az H=>exact fun w ι F vals hg hv=>(h w ι F vals hg hv).mono fun en w' ⟨x,v,ι',F',h1,h2,h3⟩=>⟨x,v,ι',F',h1,hr x h2,h3⟩
 |loop f p keep vs H=>exact fun fi c live n h1 h2 h3 h4 w ι F a hi=>(h fi c live n h1 h2 h3 h4 w ι F a hi).mono fun e a w ⟨x,ι',F',k1,k2⟩=>⟨x,ι',F',hr x k1,k2⟩
def Task.eqB:Task→Task→Bool
 | .call f a H,.call g b K=>match Nat.beq f g with
  |true=>match eqVs a b with|true=>eqH H K|false=>false
  |false=>false
 |_,_=>false
theorem Task.eqB_ok {a b:Task} (h:Task.eqB a b=true):a=b:=by
 unfold Task.eqB at h
 split at h
 ·split at h
  ·rename_i h1
   split at h
   ·rename_i h2
    rw [Nat.eq_of_beq_eq_true h1,eqVs_ok h2,Afu h]
   ·contradiction
  ·contradiction
 ·contradiction
def knownAt:List (Task×Res)→Task→Option Res
 | [],_=>none
 |(t',r)::l,t=>match t'.eqB t with|true=>some r|false=>knownAt l t
theorem AcO {t:Task} {r:Res}: ∀ {l:List (Task×Res)},knownAt l t=some r→(t,r)∈l
 | [],h=>by simp [knownAt] at h
 |(t',r')::l,h=>by
  unfold knownAt at h
  split at h
  ·rename_i hq
   simp only [Option.some.injEq] at h
   rw [←Task.eqB_ok hq,←h];simp
  ·exact List.mem_cons_of_mem _ (AcO h)
noncomputable def runK (kn:List (Task×Res)) (cx:Cx):Nat→Task→Option (List Res)
 |0,_=>none
 |n+1,t=>match knownAt kn t with
  |some r=>some [r]
  |none=>match walk (runK kn cx n) (body cx t) with
   |some (r::l)=>some (once (r::l))
   |_=>none
def Known (cx:Cx):List (Task×Res)→Prop
 | []=>True
 |(t,r)::l=>Is cx t r∧Known cx l
theorem Ae9 {cx:Cx} {t:Task} {r:Res}: ∀ {kn:List (Task×Res)},Known cx kn→(t,r)∈kn→Is cx t r
 |(t',r')::l,⟨h1,h2⟩,h=>by
  rcases List.mem_cons.1 h with h|h
  ·cases h;exact h1
  ·exact Ae9 h2 h
theorem AfN {kn:List (Task×Res)} {cx:Cx} (hk:Known cx kn): ∀(n:Nat) (t:Task) (rs:List Res),runK kn cx n t=some rs→Ev cx t (· ∈rs)∧rs≠ []
 |0,t,rs,h=>by simp [runK] at h
 |n+1,t,rs,h=>by
  simp only [runK] at h
  split at h
  ·rename_i r hr
   simp only [Option.some.injEq] at h;subst h
   have:=Ae9 hk (AcO hr)
   exact ⟨Ev.mono this (fun x hx=>by rw [hx];simp),by simp⟩
  ·split at h
   ·rename_i r l hg
    simp only [Option.some.injEq] at h;subst h
    exact ⟨Ev.mk (AaF _ _ _ (fun _ h=>AaX h) (Add (AfN hk n) _ _ hg)),fun e=>by have:=AaX (x:=r) (l:=r::l) (by simp);rw [e] at this;simp at this⟩
   ·contradiction
theorem Wp.runK {kn:List (Task×Res)} {cx:Cx} {q:Q Res} {R:Res} (n:Nat) (hk:Known cx kn) (h:(match walk (runK kn cx n) q with|some l=>allEq R l|none=>false)=true:=by kernel_rfl):Wp cx q (· =R):=by
 constructor
 split at h
 ·rename_i l hl
  exact AaF _ _ _ (fun x hx=>AcX h x hx) (Add (AfN hk n) _ _ hl)
 ·contradiction
end Go.Eva
namespace Go.Eva.S9
open Go.Proofs
noncomputable def codeOf (f:Func):Code:=match f.body with|some c=>c|none=> .skip
noncomputable def tis:Tr TI:=
 (.n (.n (.n (.n (.n (.n (.n (.n (.n .z ⟨.ptr,1,8,false⟩ .z) ⟨.struct [(0,78),(3,125),(4,126),(5,4),(6,3),(7,76),(8,3),(9,3)],10,160,false⟩ .z) ⟨.slice 70,1,
 24,false⟩ (.n (.h .z .z) ⟨.fn,1,8,false⟩ .z)) ⟨.slice 91,1,24,false⟩ (.n (.n (.n .z ⟨.fn,1,8,false⟩ .z) ⟨.fn,1,8,false⟩ .z) ⟨.fn,1,8,false⟩ (.n .z ⟨.fn,1,8,
 false⟩ .z))) ⟨.ptr,1,8,false⟩ (.n (.n (.n (.n .z ⟨.fn,1,8,false⟩ .z) ⟨.fn,1,8,false⟩ .z) ⟨.fn,1,8,false⟩ (.n .z ⟨.struct [(0,135),(1,3),(2,4)],3,40,false⟩ .z))
 ⟨.fn,1,8,false⟩ (.n (.n (.n .z ⟨.ptr,1,8,false⟩ .z) ⟨.map 3 76,1,8,false⟩ .z) ⟨.struct [(0,3),(1,22)],2,16,false⟩ (.n .z ⟨.fn,1,8,false⟩ .z)))) ⟨.struct [(0,2),
 (1,3),(2,4),(3,6)],4,24,false⟩ (.n (.n (.n (.n (.n .z ⟨.struct [(0,201),(4,30),(5,3),(6,3)],7,104,false⟩ .z) ⟨.slice 42,1,24,false⟩ .z) ⟨.fn,1,8,false⟩ (.n
 (.n .z ⟨.struct [(0,12),(1,12),(2,181),(3,320),(4,5),(5,5),(6,321),(7,322),(8,323),(9,324),(10,325)],11,48,false⟩ .z) ⟨.slice 126,1,24,false⟩ .z)) ⟨.fn,
 1,8,false⟩ (.n (.n (.n .z ⟨.fn,1,8,false⟩ .z) ⟨.struct [(0,165)],1,24,false⟩ .z) ⟨.map 3 119,1,8,false⟩ (.n .z ⟨.fn,1,8,false⟩ .z))) ⟨.struct [(0,3),(1,3),(2,
 3),(3,3),(4,22)],5,40,false⟩ (.n (.n (.n (.n .z ⟨.fn,1,8,false⟩ .z) ⟨.struct [(0,3),(1,78)],4,64,false⟩ .z) ⟨.fn,1,8,false⟩ (.n .z ⟨.fn,1,8,false⟩ .z)) ⟨.fn,
 1,8,false⟩ (.n (.n (.n .z ⟨.fn,1,8,false⟩ .z) ⟨.fn,1,8,false⟩ .z) ⟨.ptr,1,8,false⟩ (.n .z ⟨.fn,1,8,false⟩ .z))))) ⟨.int .i64,1,8,false⟩ (.n (.n (.n (.n (.n (.n .z
 ⟨.struct [(0,257),(1,256)],2,32,false⟩ .z) ⟨.fn,1,8,false⟩ .z) ⟨.fn,1,8,false⟩ (.n (.n .z ⟨.ptr,1,8,false⟩ .z) ⟨.fn,1,8,false⟩ .z)) ⟨.struct [(0,3),(1,3),(2,
 3),(3,30),(4,30),(5,30),(6,31),(7,32),(8,33),(9,34)],10,192,false⟩ (.n (.n (.n .z ⟨.fn,1,8,false⟩ .z) ⟨.fn,1,8,false⟩ .z) ⟨.ptr,1,8,false⟩ (.n .z ⟨.fn,1,
 8,false⟩ .z))) ⟨.struct [(0,17)],1,8,false⟩ (.n (.n (.n (.n .z ⟨.fn,1,8,false⟩ .z) ⟨.fn,1,8,false⟩ .z) ⟨.fn,1,8,false⟩ (.n .z ⟨.fn,1,8,false⟩ .z)) ⟨.other,1,0,
 false⟩ (.n (.n (.n .z ⟨.fn,1,8,false⟩ .z) ⟨.fn,1,8,false⟩ .z) ⟨.other,1,0,false⟩ (.n .z ⟨.other,1,0,false⟩ .z)))) ⟨.str,1,16,false⟩ (.n (.n (.n (.n (.n .z ⟨.fn,1,
 8,false⟩ .z) ⟨.struct [(0,3),(1,3),(2,76)],3,40,false⟩ .z) ⟨.struct [(0,3),(1,73)],2,32,false⟩ (.n .z ⟨.fn,1,8,false⟩ .z)) ⟨.other,1,0,false⟩ (.n (.n (.n .z
 ⟨.int .u64,1,8,false⟩ .z) ⟨.struct [(0,170)],1,24,false⟩ .z) ⟨.fn,1,8,false⟩ (.n .z ⟨.fn,1,8,false⟩ .z))) ⟨.other,1,0,false⟩ (.n (.n (.n (.n .z ⟨.fn,1,8,false⟩
 .z) ⟨.fn,1,8,false⟩ .z) ⟨.struct [(0,3),(1,3)],2,16,true⟩ (.n .z ⟨.fn,1,8,false⟩ .z)) ⟨.struct [(0,56),(1,57)],2,48,false⟩ (.n (.n (.n .z ⟨.struct [(0,17),(1,
 17),(2,17),(3,9)],4,40,false⟩ .z) ⟨.fn,1,8,false⟩ .z) ⟨.struct [(0,3),(1,3),(2,3),(3,3),(4,110),(13,3),(14,3)],15,120,true⟩ (.n .z ⟨.struct [(0,50),(5,
 3),(6,3),(7,73),(8,3),(9,76)],10,112,false⟩ .z)))))) ⟨.fn,1,8,false⟩ (.n (.n (.n (.n (.n (.n (.n .z ⟨.slice 260,1,24,false⟩ .z) ⟨.fn,1,8,false⟩ .z) ⟨.struct
 [(0,53),(1,50),(6,3),(7,63),(8,62),(9,3),(10,3)],11,104,false⟩ (.n (.n .z ⟨.int .u8,1,1,false⟩ .z) ⟨.fn,1,8,false⟩ .z)) ⟨.slice 140,1,24,false⟩ (.n (.n (.n
 .z ⟨.fn,1,8,false⟩ .z) ⟨.fn,1,8,false⟩ .z) ⟨.fn,1,8,false⟩ (.n .z ⟨.fn,1,8,false⟩ .z))) ⟨.ptr,1,8,false⟩ (.n (.n (.n (.n .z ⟨.int .i64,1,8,false⟩ .z) ⟨.fn,1,8,
 false⟩ .z) ⟨.fn,1,8,false⟩ (.n .z ⟨.fn,1,8,false⟩ .z)) ⟨.struct [(0,24)],5,40,true⟩ (.n (.n (.n .z ⟨.fn,1,8,false⟩ .z) ⟨.fn,1,8,false⟩ .z) ⟨.struct [(0,112)],2,
 16,false⟩ (.n .z ⟨.fn,1,8,false⟩ .z)))) ⟨.str,1,16,false⟩ (.n (.n (.n (.n (.n .z ⟨.ptr,1,8,false⟩ .z) ⟨.struct [(0,75),(2,76),(3,135),(4,75),(6,76)],7,136,
 false⟩ .z) ⟨.slice 110,1,24,false⟩ (.n (.n .z ⟨.other,1,8,false⟩ .z) ⟨.struct [(0,3),(1,3),(2,126),(3,199)],4,64,false⟩ .z)) ⟨.struct [(0,3),(1,3),(2,4)],3,
 24,false⟩ (.n (.n (.n .z ⟨.ptr,1,8,false⟩ .z) ⟨.struct [(0,167)],1,24,false⟩ .z) ⟨.struct [(0,99),(1,50),(6,101),(7,103),(8,3),(9,3),(10,3)],11,88,false⟩
 (.n .z ⟨.fn,1,8,false⟩ .z))) ⟨.ptr,1,8,false⟩ (.n (.n (.n (.n .z ⟨.fn,1,8,false⟩ .z) ⟨.fn,1,8,false⟩ .z) ⟨.fn,1,8,false⟩ (.n .z ⟨.fn,1,8,false⟩ .z)) ⟨.slice 76,
 1,24,false⟩ (.n (.n (.n .z ⟨.fn,1,8,false⟩ .z) ⟨.fn,1,8,false⟩ .z) ⟨.fn,1,8,false⟩ (.n .z ⟨.ptr,1,8,false⟩ .z))))) ⟨.int .u8,1,1,false⟩ (.n (.n (.n (.n (.n (.n .z
 ⟨.fn,1,8,false⟩ .z) ⟨.fn,1,8,false⟩ .z) ⟨.struct [(0,3),(1,66),(2,3),(3,30),(4,30),(5,30),(6,4),(7,3)],8,112,false⟩ (.n (.n .z ⟨.int .i32,1,4,false⟩ .z)
 ⟨.fn,1,8,false⟩ .z)) ⟨.int .u64,1,8,false⟩ (.n (.n (.n .z ⟨.fn,1,8,false⟩ .z) ⟨.slice 208,1,24,false⟩ .z) ⟨.ptr,1,8,false⟩ (.n .z ⟨.fn,1,8,false⟩ .z))) ⟨.int
 .i32,1,4,false⟩ (.n (.n (.n (.n .z ⟨.other,1,0,false⟩ .z) ⟨.struct [(0,3),(1,3),(2,135)],3,40,false⟩ .z) ⟨.fn,1,8,false⟩ (.n .z ⟨.fn,1,8,false⟩ .z)) ⟨.ptr,1,
 8,false⟩ (.n (.n (.n .z ⟨.ptr,1,8,false⟩ .z) ⟨.int .u32,1,4,false⟩ .z) ⟨.fn,1,8,false⟩ (.n .z ⟨.fn,1,8,false⟩ .z)))) ⟨.struct [(0,9),(1,12)],2,24,false⟩ (.n (.n
 (.n (.n (.n .z ⟨.fn,1,8,false⟩ .z) ⟨.fn,1,8,false⟩ .z) ⟨.struct [(0,75),(2,76)],3,56,false⟩ (.n .z ⟨.ptr,1,8,false⟩ .z)) ⟨.fn,1,8,false⟩ (.n (.n (.n .z ⟨.fn,1,
 8,false⟩ .z) ⟨.struct [(0,172)],1,24,false⟩ .z) ⟨.struct [(0,3),(1,3),(2,3),(3,3),(4,3),(5,3),(6,3),(7,3),(8,3)],9,72,false⟩ (.n .z ⟨.fn,1,8,false⟩
 .z))) ⟨.fn,1,8,false⟩ (.n (.n (.n (.n .z ⟨.fn,1,8,false⟩ .z) ⟨.fn,1,8,false⟩ .z) ⟨.fn,1,8,false⟩ (.n .z ⟨.fn,1,8,false⟩ .z)) ⟨.fn,1,8,false⟩ (.n (.n (.h .z .z)
 ⟨.fn,1,8,false⟩ .z) ⟨.slice 138,1,24,false⟩ (.n .z ⟨.fn,1,8,false⟩ .z))))))) ⟨.other,1,0,false⟩ (.n (.n (.n (.n (.n (.n (.n (.n .z ⟨.map 3 260,1,8,false⟩ .z)
 ⟨.struct [(0,78),(3,125),(4,126),(5,4),(6,3),(7,76),(8,3),(9,3)],10,160,false⟩ .z) ⟨.struct [(0,53),(1,50),(6,3),(7,63),(8,62),(9,3),(10,3)],11,
 104,false⟩ (.n (.n .z ⟨.int .u8,1,1,false⟩ .z) ⟨.other,1,0,false⟩ .z)) ⟨.slice 149,1,24,false⟩ (.n (.n (.n .z ⟨.ptr,1,8,false⟩ .z) ⟨.fn,1,8,false⟩ .z) ⟨.fn,1,8,
 false⟩ (.n .z ⟨.fn,1,8,false⟩ .z))) ⟨.ptr,1,8,false⟩ (.n (.n (.n (.n .z ⟨.fn,1,8,false⟩ .z) ⟨.fn,1,8,false⟩ .z) ⟨.fn,1,8,false⟩ (.n .z ⟨.struct [(0,135),(1,3),
 (2,4)],3,40,false⟩ .z)) ⟨.fn,1,8,false⟩ (.n (.n (.n .z ⟨.fn,1,8,false⟩ .z) ⟨.fn,1,8,false⟩ .z) ⟨.struct [(0,3),(1,22)],2,16,false⟩ (.n .z ⟨.fn,1,8,false⟩
 .z)))) ⟨.struct [(0,2),(1,3),(2,4),(3,6)],4,24,false⟩ (.n (.n (.n (.n (.n .z ⟨.fn,1,8,false⟩ .z) ⟨.struct [(0,75),(2,76),(3,135),(4,75),(6,76)],7,136,
 false⟩ .z) ⟨.fn,1,8,false⟩ (.n (.n .z ⟨.fn,1,8,false⟩ .z) ⟨.struct [(0,3),(1,3),(2,126),(3,199)],4,64,false⟩ .z)) ⟨.fn,1,8,false⟩ (.n (.n (.n .z ⟨.fn,1,8,
 false⟩ .z) ⟨.struct [(0,167)],1,24,false⟩ .z) ⟨.struct [(0,99),(1,50),(6,101),(7,103),(8,3),(9,3),(10,3)],11,88,false⟩ (.n .z ⟨.fn,1,8,false⟩ .z))) ⟨.struct
 [(0,3),(1,3),(2,3),(3,3),(4,22)],5,40,true⟩ (.n (.n (.n (.n .z ⟨.fn,1,8,false⟩ .z) ⟨.fn,1,8,false⟩ .z) ⟨.fn,1,8,false⟩ (.n .z ⟨.fn,1,8,false⟩ .z)) ⟨.slice
 75,1,24,false⟩ (.n (.n (.n .z ⟨.fn,1,8,false⟩ .z) ⟨.other,1,0,false⟩ .z) ⟨.fn,1,8,false⟩ (.n .z ⟨.fn,1,8,false⟩ .z))))) ⟨.bool,1,1,false⟩ (.n (.n (.n (.n (.n (.n
 .z ⟨.ptr,1,8,false⟩ .z) ⟨.fn,1,8,false⟩ .z) ⟨.fn,1,8,false⟩ (.n (.n .z ⟨.int .i32,1,4,false⟩ .z) ⟨.other,1,0,false⟩ .z)) ⟨.struct [(0,3),(1,3),(2,3),(3,30),
 (4,30),(5,30),(6,31),(7,32),(8,33),(9,34)],10,192,false⟩ (.n (.n (.n .z ⟨.fn,1,8,false⟩ .z) ⟨.fn,1,8,false⟩ .z) ⟨.fn,1,8,false⟩ (.n .z ⟨.fn,1,8,false⟩
 .z))) ⟨.other,1,16,false⟩ (.n (.n (.n (.n .z ⟨.fn,1,8,false⟩ .z) ⟨.struct [(0,3),(1,3),(2,135)],3,40,false⟩ .z) ⟨.fn,1,8,false⟩ (.n .z ⟨.fn,1,8,false⟩ .z))
 ⟨.fn,1,8,false⟩ (.n (.n (.n .z ⟨.fn,1,8,false⟩ .z) ⟨.fn,1,8,false⟩ .z) ⟨.fn,1,8,false⟩ (.n .z ⟨.fn,1,8,false⟩ .z)))) ⟨.int .u64,1,8,false⟩ (.n (.n (.n (.n (.n .z
 ⟨.fn,1,8,false⟩ .z) ⟨.struct [(0,3),(1,3),(2,76)],3,40,false⟩ .z) ⟨.slice 124,1,24,false⟩ (.n .z ⟨.fn,1,8,false⟩ .z)) ⟨.fn,1,8,false⟩ (.n (.n (.n .z ⟨.fn,1,8,
 false⟩ .z) ⟨.struct [(0,170)],1,24,false⟩ .z) ⟨.fn,1,8,false⟩ (.n .z ⟨.fn,1,8,false⟩ .z))) ⟨.fn,1,8,false⟩ (.n (.n (.n (.n .z ⟨.other,1,0,false⟩ .z) ⟨.other,1,0,
 false⟩ .z) ⟨.fn,1,8,false⟩ (.n .z ⟨.fn,1,8,false⟩ .z)) ⟨.other,1,0,false⟩ (.n (.n (.n .z ⟨.struct [(0,17),(1,17),(2,17),(3,9)],4,40,false⟩ .z) ⟨.fn,1,8,false⟩
 .z) ⟨.struct [(0,3),(1,3),(2,3),(3,3),(4,110),(13,3),(14,3)],15,120,true⟩ (.n .z ⟨.fn,1,8,false⟩ .z)))))) ⟨.int .i64,1,8,false⟩ (.n (.n (.n (.n (.n (.n (.n .z
 ⟨.struct [(0,257),(1,256)],2,32,false⟩ .z) ⟨.fn,1,8,false⟩ .z) ⟨.ptr,1,8,false⟩ (.n (.n .z ⟨.fn,1,8,false⟩ .z) ⟨.fn,1,8,false⟩ .z)) ⟨.slice 151,1,24,false⟩ (.n
 (.n (.n .z ⟨.fn,1,8,false⟩ .z) ⟨.fn,1,8,false⟩ .z) ⟨.fn,1,8,false⟩ (.n .z ⟨.other,1,0,false⟩ .z))) ⟨.struct [(0,17)],1,8,false⟩ (.n (.n (.n (.n .z ⟨.other,1,0,
 false⟩ .z) ⟨.fn,1,8,false⟩ .z) ⟨.fn,1,8,false⟩ (.n .z ⟨.fn,1,8,false⟩ .z)) ⟨.struct [(0,24)],5,40,false⟩ (.n (.n (.n .z ⟨.fn,1,8,false⟩ .z) ⟨.fn,1,8,false⟩ .z)
 ⟨.struct [(0,112)],2,16,false⟩ (.n .z ⟨.fn,1,8,false⟩ .z)))) ⟨.str,1,16,false⟩ (.n (.n (.n (.n (.n .z ⟨.fn,1,8,false⟩ .z) ⟨.ptr,1,8,false⟩ .z) ⟨.struct [(0,3),(1,
 73)],2,32,false⟩ (.n .z ⟨.fn,1,8,false⟩ .z)) ⟨.struct [(0,3),(1,3),(2,4)],3,24,true⟩ (.n (.n (.n .z ⟨.fn,1,8,false⟩ .z) ⟨.slice 175,1,24,false⟩ .z) ⟨.other,1,
 0,false⟩ (.n .z ⟨.fn,1,8,false⟩ .z))) ⟨.int .i64,1,8,false⟩ (.n (.n (.n (.n .z ⟨.fn,1,8,false⟩ .z) ⟨.other,1,0,false⟩ .z) ⟨.struct [(0,3),(1,3)],2,16,false⟩ (.n
 .z ⟨.fn,1,8,false⟩ .z)) ⟨.struct [(0,56),(1,57)],2,48,false⟩ (.n (.n (.n .z ⟨.fn,1,8,false⟩ .z) ⟨.fn,1,8,false⟩ .z) ⟨.fn,1,8,false⟩ (.n .z ⟨.struct [(0,50),(5,
 3),(6,3),(7,73),(8,3),(9,76)],10,112,false⟩ .z))))) ⟨.int .u8,1,1,false⟩ (.n (.n (.n (.n (.n (.n .z ⟨.struct [(0,201),(4,30),(5,3),(6,3)],7,104,false⟩ .z)
 ⟨.fn,1,8,false⟩ .z) ⟨.struct [(0,3),(1,66),(2,3),(3,30),(4,30),(5,30),(6,4),(7,3)],8,112,false⟩ (.n (.n .z ⟨.struct [(0,12),(1,12),(2,181),(3,320),(4,
 5),(5,5),(6,321),(7,322),(8,323),(9,324),(10,325)],11,48,false⟩ .z) ⟨.slice 201,1,24,false⟩ .z)) ⟨.fn,1,8,false⟩ (.n (.n (.n .z ⟨.fn,1,8,false⟩ .z) ⟨.struct
 [(0,165)],1,24,false⟩ .z) ⟨.fn,1,8,false⟩ (.n .z ⟨.fn,1,8,false⟩ .z))) ⟨.int .u64,1,8,false⟩ (.n (.n (.n (.n .z ⟨.fn,1,8,false⟩ .z) ⟨.struct [(0,3),(1,78)],4,
 64,false⟩ .z) ⟨.ptr,1,8,false⟩ (.n .z ⟨.fn,1,8,false⟩ .z)) ⟨.other,1,0,false⟩ (.n (.n (.n .z ⟨.fn,1,8,false⟩ .z) ⟨.other,1,0,false⟩ .z) ⟨.fn,1,8,false⟩ (.n .z
 ⟨.fn,1,8,false⟩ .z)))) ⟨.struct [(0,9),(1,12)],2,24,false⟩ (.n (.n (.n (.n (.n .z ⟨.fn,1,8,false⟩ .z) ⟨.fn,1,8,false⟩ .z) ⟨.struct [(0,75),(2,76)],3,56,false⟩
 (.n .z ⟨.fn,1,8,false⟩ .z)) ⟨.fn,1,8,false⟩ (.n (.n (.n .z ⟨.fn,1,8,false⟩ .z) ⟨.struct [(0,172)],1,24,false⟩ .z) ⟨.struct [(0,3),(1,3),(2,3),(3,3),(4,3),(5,
 3),(6,3),(7,3),(8,3)],9,72,true⟩ (.n .z ⟨.fn,1,8,false⟩ .z))) ⟨.slice 3,1,24,false⟩ (.n (.n (.n (.n .z ⟨.fn,1,8,false⟩ .z) ⟨.fn,1,8,false⟩ .z) ⟨.fn,1,8,
 false⟩ (.n .z ⟨.fn,1,8,false⟩ .z)) ⟨.map 3 4,1,8,false⟩ (.n (.n (.h .z .z) ⟨.fn,1,8,false⟩ .z) ⟨.slice 4,1,24,false⟩ (.n .z ⟨.fn,1,8,false⟩ .z))))))))
noncomputable def fi3:FI:=⟨codeOf Tryz.f3,[.tmp 2],.pure,[],[],[],false,false⟩
noncomputable def fi4:FI:=⟨codeOf Tryz.f4,[.tmp 4,.tmp 5],.fresh,[([0,1,0,1,1,1,1,1,1],[1,6,10,12,52,53]),([0,1,0,1,1,1,1,1,1,1],[10,12,77,78,79])],[(11,.one 0 (.one 1 (.one 2 (.one 3 (.one 10 (.one 11 (.one 4 (.one 7 (.one 12 (.alt 5 (.alt 6 (.two 8 (.two 9 (.one 13 (.one 14 (.one 15 (.one 16 (.one 17 (.one 18 (.one 19 (.done)))))))) 13 (.one 9 (.one 14 (.one 15 (.one 16 (.one 17 (.one 18 (.one 19 (.done))))))))) 13 (.one 8 (.one 9 (.one 14 (.one 15 (.one 16 (.one 17 (.one 18 (.one 19 (.done)))))))))) (.alt 8 (.two 6 (.two 9 (.one 13 (.one 14 (.one 15 (.one 16 (.one 17 (.one 18 (.one 19 (.done)))))))) 13 (.one 9 (.one 14 (.one 15 (.one 16 (.one 17 (.one 18 (.one 19 (.done))))))))) 13 (.one 6 (.one 9 (.one 14 (.one 15 (.one 16 (.one 17 (.one 18 (.one 19 (.done)))))))))) (.one 13 (.two 6 (.one 8 (.one 9 (.one 14 (.one 15 (.one 16 (.one 17 (.one 18 (.one 19 (.done))))))))) 8 (.one 6 (.one 9 (.one 14 (.one 15 (.one 16 (.one 17 (.one 18 (.one 19 (.done))))))))))))) (.alt 6 (.two 5 (.two 8 (.two 9 (.one 13 (.one 14 (.one 15 (.one 16 (.one 17 (.one 18 (.one 19 (.done)))))))) 13 (.one 9 (.one 14 (.one 15 (.one 16 (.one 17 (.one 18 (.one 19 (.done))))))))) 13 (.one 8 (.one 9 (.one 14 (.one 15 (.one 16 (.one 17 (.one 18 (.one 19 (.done)))))))))) 13 (.one 5 (.one 8 (.one 9 (.one 14 (.one 15 (.one 16 (.one 17 (.one 18 (.one 19 (.done))))))))))) (.one 13 (.two 5 (.two 6 (.one 8 (.one 9 (.one 14 (.one 15 (.one 16 (.one 17 (.one 18 (.one 19 (.done))))))))) 8 (.one 6 (.one 9 (.one 14 (.one 15 (.one 16 (.one 17 (.one 18 (.one 19 (.done)))))))))) 6 (.one 5 (.one 8 (.one 9 (.one 14 (.one 15 (.one 16 (.one 17 (.one 18 (.one 19 (.done))))))))))))))))))))))),(16,.one 0 (.one 1 (.one 2 (.one 4 (.one 5 (.one 7 (.one 3 (.one 6 (.one 8 (.one 9 (.one 10 (.one 11 (.done)))))))))))))],[],true,false⟩
noncomputable def fi5:FI:=⟨codeOf Tryz.f5,[.tmp 0],.pure,[],[],[],false,false⟩
noncomputable def fi6:FI:=⟨codeOf Tryz.f6,[.tmp 4],.inout,[],[],[],false,false⟩
noncomputable def fi7:FI:=⟨codeOf Tryz.f7,[.tmp 4],.inout,[],[(5,.one 0 (.one 1 (.one 2 (.one 4 (.one 5 (.one 6 (.one 9 (.one 3 (.one 7 (.one 8 (.one 10 (.one 11 (.done)))))))))))))],[],false,false⟩
noncomputable def fi8:FI:=⟨codeOf Tryz.f8,[.tmp 4],.inout,[],[],[],false,false⟩
noncomputable def fi9:FI:=⟨codeOf Tryz.f9,[.tmp 4],.inout,[],[(3,.one 0 (.one 1 (.one 2 (.one 3 (.one 4 (.one 5 (.one 6 (.one 7 (.done))))))))),(5,.one 0 (.one 2 (.one 3 (.one 4 (.one 1 (.one 5 (.one 6 (.one 7 (.done))))))))),(7,.one 0 (.one 2 (.one 3 (.one 4 (.one 1 (.one 5 (.one 6 (.one 7 (.done))))))))),(9,.one 0 (.one 1 (.one 2 (.one 4 (.one 9 (.one 3 (.one 5 (.one 6 (.one 7 (.one 8 (.one 10 (.one 11 (.one 12 (.one 13 (.done)))))))))))))))],[],false,false⟩
noncomputable def fi10:FI:=⟨codeOf Tryz.f10,[.tmp 4],.inout,[],[(7,.one 0 (.one 1 (.one 2 (.one 5 (.one 7 (.one 8 (.one 9 (.one 10 (.one 11 (.one 3 (.hold 12 (.keep 4 [12] (.keep 6 [12] (.one 13 (.one 14 (.one 15 (.done))))))))))))))))),(9,.one 0 (.one 1 (.one 2 (.one 4 (.one 5 (.one 6 (.one 9 (.one 10 (.one 11 (.one 12 (.hold 3 (.hold 7 (.hold 14 (.alt 8 (.alt 15 (.keep 13 [3] (.one 16 (.done))) (.keep 13 [14,3] (.one 15 (.one 16 (.done))))) (.alt 15 (.alt 8 (.keep 13 [3] (.one 16 (.done))) (.keep 13 [7,3] (.one 8 (.one 16 (.done))))) (.keep 13 [14,7,3] (.alt 8 (.one 15 (.one 16 (.done))) (.one 15 (.one 8 (.one 16 (.done))))))))))))))))))))),(10,.one 0 (.one 1 (.one 2 (.one 4 (.one 5 (.one 6 (.one 7 (.hold 3 (.keep 8 [3] (.one 9 (.one 10 (.done))))))))))))],[],false,false⟩
noncomputable def fi11:FI:=⟨codeOf Tryz.f11,[.cell 4 36,.tmp 5],.inout,[([0,1,0,1,1,1,1,1],[0,4,7,8]),([0,1,0,1,1,1,1,1,1],[0,4,7,92,93])],[(5,.one 0 (.one 1 (.one 2 (.one 4 (.one 5 (.one 6 (.one 7 (.one 9 (.one 11 (.one 12 (.one 13 (.one 16 (.one 17 (.one 18 (.one 21 (.one 22 (.one 23 (.hold 3 (.hold 8 (.hold 14 (.hold 19 (.hold 24 (.alt 27 (.keep 10 [24,19,14,8,3] (.keep 15 [24,19,8,3] (.keep 20 [24,8,3] (.keep 25 [8,3] (.one 26 (.one 28 (.done))))))) (.keep 10 [24,19,14,8,3] (.alt 27 (.keep 15 [24,19,8,3] (.keep 20 [24,8,3] (.keep 25 [8,3] (.one 26 (.one 28 (.done)))))) (.keep 15 [24,19,8,3] (.alt 27 (.keep 20 [24,8,3] (.keep 25 [8,3] (.one 26 (.one 28 (.done))))) (.keep 20 [24,8,3] (.alt 27 (.keep 25 [8,3] (.one 26 (.one 28 (.done)))) (.keep 25 [8,3] (.alt 26 (.one 27 (.one 28 (.done))) (.one 27 (.one 26 (.one 28 (.done))))))))))))))))))))))))))))))))))),(9,.one 0 (.one 2 (.one 3 (.one 4 (.one 6 (.one 5 (.hold 1 (.keep 7 [1] (.one 8 (.one 9 (.one 10 (.one 11 (.done))))))))))))),(13,.one 0 (.one 2 (.one 3 (.one 4 (.one 6 (.one 5 (.hold 1 (.keep 7 [1] (.one 8 (.one 9 (.one 10 (.one 11 (.done))))))))))))),(16,.one 0 (.one 1 (.one 2 (.one 5 (.one 6 (.one 7 (.one 3 (.one 4 (.one 8 (.one 9 (.one 10 (.one 11 (.one 12 (.done))))))))))))))],[],false,false⟩
noncomputable def fi12:FI:=⟨codeOf Tryz.f12,[.tmp 2],.inout,[],[],[],false,false⟩
noncomputable def fi13:FI:=⟨codeOf Tryz.f13,[.tmp 2],.inout,[([0,1,0,1,1,1,1,1],[0,4,30,31,32])],[(6,.one 0 (.one 1 (.one 2 (.one 4 (.one 5 (.one 3 (.one 6 (.one 7 (.one 8 (.done))))))))))],[],false,false⟩
noncomputable def fi14:FI:=⟨codeOf Tryz.f14,[.tmp 2],.inout,[([0,1,0,1,1,1,1],[3,30,31])],[(4,.one 0 (.one 1 (.one 2 (.one 5 (.one 6 (.one 7 (.one 10 (.one 11 (.one 12 (.one 3 (.hold 8 (.hold 13 (.keep 4 [13,8] (.keep 9 [13] (.one 14 (.one 15 (.one 16 (.one 17 (.one 18 (.one 19 (.one 20 (.done)))))))))))))))))))))),(8,.one 0 (.one 2 (.one 3 (.one 5 (.one 4 (.one 6 (.one 7 (.one 8 (.hold 1 (.keep 9 [1] (.one 10 (.one 11 (.one 12 (.done))))))))))))))],[],false,false⟩
noncomputable def fi15:FI:=⟨codeOf Tryz.f15,[.cell 2 50,.tmp 3],.pure,[],[],[],false,false⟩
noncomputable def fi16:FI:=⟨codeOf Tryz.f16,[.tmp 2,.tmp 3],.fresh,[],[(4,.one 0 (.one 1 (.one 2 (.one 4 (.one 5 (.two 3 (.two 6 (.two 7 (.one 8 (.one 9 (.one 10 (.one 11 (.one 12 (.done)))))) 8 (.one 7 (.one 9 (.one 10 (.one 11 (.one 12 (.done))))))) 8 (.one 6 (.one 7 (.one 9 (.one 10 (.one 11 (.one 12 (.done)))))))) 8 (.one 3 (.one 6 (.one 7 (.one 9 (.one 10 (.one 11 (.one 12 (.done))))))))))))))],[],true,false⟩
noncomputable def fi17:FI:=⟨codeOf Tryz.f17,[.cell 2 59,.tmp 3],.pure,[([0,1,0,1,1,1,1],[2,4,6,7])],[(4,.one 0 (.one 3 (.two 1 (.alt 2 (.two 4 (.two 5 (.one 6 (.one 7 (.one 8 (.done)))) 7 (.one 5 (.one 6 (.one 8 (.done))))) 7 (.one 4 (.one 5 (.one 6 (.one 8 (.done)))))) (.alt 4 (.alt 2 (.two 5 (.one 6 (.one 7 (.one 8 (.done)))) 7 (.one 5 (.one 6 (.one 8 (.done))))) (.alt 5 (.two 2 (.one 6 (.one 7 (.one 8 (.done)))) 7 (.one 2 (.one 6 (.one 8 (.done))))) (.one 7 (.two 2 (.one 5 (.one 6 (.one 8 (.done)))) 5 (.one 2 (.one 6 (.one 8 (.done)))))))) (.one 7 (.two 2 (.one 4 (.one 5 (.one 6 (.one 8 (.done))))) 4 (.two 2 (.one 5 (.one 6 (.one 8 (.done)))) 5 (.one 2 (.one 6 (.one 8 (.done))))))))) 7 (.one 1 (.two 2 (.one 4 (.one 5 (.one 6 (.one 8 (.done))))) 4 (.two 2 (.one 5 (.one 6 (.one 8 (.done)))) 5 (.one 2 (.one 6 (.one 8 (.done)))))))))),(10,.one 0 (.one 2 (.one 3 (.one 5 (.one 9 (.one 10 (.one 11 (.one 12 (.one 13 (.one 14 (.one 1 (.one 4 (.one 6 (.one 7 (.one 8 (.one 15 (.one 16 (.one 17 (.one 18 (.one 19 (.done)))))))))))))))))))))],[],false,false⟩
noncomputable def fi18:FI:=⟨codeOf Tryz.f18,[.tmp 0],.fresh,[],[],[],true,false⟩
noncomputable def fi19:FI:=⟨codeOf Tryz.f19,[.tmp 4],.pure,[([0,0,1,1,1,1,1,1],[7,8])],[(9,.one 0 (.one 1 (.one 2 (.one 3 (.one 4 (.one 5 (.one 6 (.one 7 (.one 8 (.one 9 (.done)))))))))))],[],false,false⟩
noncomputable def fi20:FI:=⟨codeOf Tryz.f20,[.tmp 2],.pure,[],[],[],false,false⟩
noncomputable def fi21:FI:=⟨codeOf Tryz.f21,[.tmp 6],.pure,[([0,1,0,1,1],[1,2,3,7,10,11])],[],[([0,1,0,1,1],[7])],false,false⟩
noncomputable def fi22:FI:=⟨codeOf Tryz.f22,[.tmp 6],.inout,[],[(7,.one 0 (.one 1 (.one 2 (.one 4 (.one 3 (.one 5 (.one 6 (.one 7 (.one 8 (.done)))))))))),(9,.one 0 (.one 1 (.one 2 (.one 4 (.one 5 (.one 8 (.one 3 (.one 6 (.one 9 (.one 7 (.one 10 (.one 11 (.one 12 (.one 13 (.one 14 (.done))))))))))))))))],[],false,false⟩
noncomputable def fi23:FI:=⟨codeOf Tryz.f23,[.tmp 2],.inout,[([0,1,0,0,1,0,0,1,0,1,1,1,1],[0,3,4,5,25,26,27]),([0,1,0,1,1,1,1],[0,3,4,5])],[],[],false,false⟩
noncomputable def fi24:FI:=⟨codeOf Tryz.f24,[.tmp 2],.inout,[],[],[],false,false⟩
noncomputable def fi25:FI:=⟨codeOf Tryz.f25,[.tmp 2],.inout,[],[],[],false,false⟩
noncomputable def fi26:FI:=⟨codeOf Tryz.f26,[.tmp 4],.inout,[],[],[],false,false⟩
noncomputable def fi27:FI:=⟨codeOf Tryz.f27,[.tmp 4],.inout,[],[],[],false,false⟩
noncomputable def fi28:FI:=⟨codeOf Tryz.f28,[.tmp 4],.pure,[],[],[],false,false⟩
noncomputable def fi29:FI:=⟨codeOf Tryz.f29,[.tmp 4],.inout,[([0,1,0,1,1,0,1,1],[0,1,5,6])],[(12,.one 0 (.one 1 (.one 2 (.one 4 (.one 5 (.one 6 (.one 7 (.one 8 (.one 10 (.one 11 (.hold 3 (.hold 9 (.keep 12 [9,3] (.one 13 (.one 14 (.one 15 (.one 16 (.one 17 (.one 18 (.one 19 (.one 20 (.done))))))))))))))))))))))],[],false,false⟩
noncomputable def fi30:FI:=⟨codeOf Tryz.f30,[.tmp 4],.inout,[],[],[],false,false⟩
noncomputable def fi31:FI:=⟨codeOf Tryz.f31,[.tmp 4],.inout,[],[],[],false,false⟩
noncomputable def fi32:FI:=⟨codeOf Tryz.f32,[.tmp 4],.pure,[],[(7,.one 0 (.one 1 (.one 2 (.one 3 (.one 4 (.one 5 (.one 6 (.one 7 (.one 8 (.one 9 (.one 10 (.one 11 (.one 12 (.done)))))))))))))),(9,.one 0 (.one 1 (.one 2 (.one 3 (.one 4 (.one 5 (.one 6 (.one 7 (.one 8 (.one 9 (.one 10 (.one 11 (.one 12 (.one 13 (.done)))))))))))))))],[],false,false⟩
noncomputable def fi33:FI:=⟨codeOf Tryz.f33,[.tmp 4],.inout,[],[(4,.one 0 (.one 1 (.one 2 (.one 3 (.one 4 (.one 5 (.one 7 (.one 8 (.one 9 (.one 10 (.one 11 (.one 15 (.one 6 (.one 12 (.one 13 (.one 14 (.one 16 (.one 17 (.one 18 (.one 19 (.one 20 (.one 21 (.one 22 (.one 23 (.done))))))))))))))))))))))))),(5,.one 0 (.one 1 (.one 2 (.one 3 (.one 5 (.one 6 (.one 7 (.one 8 (.one 10 (.one 4 (.one 9 (.one 11 (.one 12 (.one 13 (.one 14 (.one 15 (.one 16 (.one 17 (.done)))))))))))))))))))],[],false,false⟩
noncomputable def fi34:FI:=⟨codeOf Tryz.f34,[],.inout,[([0,1,0,1,1,1,1],[0,3,4,49,50,51]),([0,1,1,1,1,1,1],[0,4,73,74,75])],[(1,.one 0 (.one 1 (.one 2 (.one 4 (.one 3 (.one 5 (.one 6 (.one 7 (.done))))))))),(2,.one 0 (.one 2 (.one 3 (.one 4 (.one 1 (.one 5 (.one 6 (.done)))))))),(3,.one 0 (.one 1 (.one 2 (.one 3 (.one 5 (.one 8 (.one 4 (.one 6 (.one 9 (.one 7 (.one 10 (.one 11 (.one 12 (.one 13 (.one 14 (.one 15 (.one 16 (.one 17 (.one 18 (.one 19 (.done))))))))))))))))))))),(8,.one 0 (.one 1 (.one 2 (.one 4 (.one 5 (.one 6 (.one 7 (.one 9 (.one 12 (.one 3 (.one 8 (.one 10 (.one 11 (.one 13 (.one 14 (.one 15 (.done))))))))))))))))),(13,.one 0 (.one 1 (.one 2 (.one 3 (.one 4 (.one 5 (.one 6 (.one 8 (.one 9 (.one 10 (.one 7 (.one 11 (.one 12 (.one 13 (.one 14 (.one 15 (.one 16 (.one 17 (.one 18 (.one 19 (.one 20 (.one 21 (.done))))))))))))))))))))))),(14,.one 0 (.one 1 (.one 2 (.one 4 (.one 5 (.hold 3 (.keep 6 [3] (.one 7 (.one 8 (.one 9 (.done)))))))))))],[],false,false⟩
noncomputable def fi35:FI:=⟨codeOf Tryz.f35,[],.inout,[([0,1,0,1],[0,3,11,12,13]),([0,1,0,1,1],[0,3,53,54,55]),([0,1,1,1,1],[0,3,78,79,80])],[(4,.one 0 (.one 2 (.one 1 (.one 3 (.one 4 (.one 5 (.one 6 (.one 7 (.one 8 (.one 9 (.one 10 (.one 11 (.one 12 (.one 13 (.one 15 (.one 16 (.one 17 (.one 14 (.one 18 (.one 19 (.one 20 (.one 21 (.one 22 (.done)))))))))))))))))))))))),(5,.one 0 (.one 1 (.one 2 (.one 4 (.one 6 (.one 8 (.one 3 (.one 5 (.one 7 (.one 9 (.one 10 (.done)))))))))))),(10,.one 0 (.one 1 (.one 2 (.one 4 (.one 8 (.one 3 (.one 5 (.one 6 (.hold 9 (.keep 7 [9] (.one 10 (.done)))))))))))),(11,.one 0 (.one 1 (.one 2 (.one 3 (.one 4 (.one 5 (.done))))))),(16,.one 0 (.one 1 (.one 2 (.one 4 (.one 3 (.one 5 (.one 6 (.one 7 (.one 8 (.one 9 (.one 10 (.one 12 (.one 16 (.one 17 (.one 18 (.one 11 (.one 13 (.one 14 (.two 15 (.one 19 (.one 20 (.one 21 (.one 22 (.one 23 (.one 24 (.one 25 (.one 27 (.one 29 (.one 26 (.one 28 (.one 30 (.one 31 (.one 32 (.one 33 (.done)))))))))))))))) 19 (.one 15 (.one 20 (.one 21 (.one 22 (.one 23 (.one 24 (.one 25 (.one 27 (.one 29 (.one 26 (.one 28 (.one 30 (.one 31 (.one 32 (.one 33 (.done))))))))))))))))))))))))))))))))))),(17,.one 0 (.one 1 (.one 2 (.one 4 (.one 3 (.one 5 (.one 6 (.done))))))))],[],false,false⟩
noncomputable def fi36:FI:=⟨codeOf Tryz.f36,[],.inout,[([0,1,0,1,1],[0,2,17,18,19])],[(9,.one 0 (.one 1 (.one 2 (.one 4 (.one 5 (.one 6 (.one 9 (.one 3 (.one 7 (.one 8 (.one 10 (.done))))))))))))],[],false,false⟩
noncomputable def fi37:FI:=⟨codeOf Tryz.f37,[.tmp 2],.pure,[],[],[],false,false⟩
noncomputable def fi38:FI:=⟨codeOf Tryz.f38,[.tmp 8],.inout,[],[],[],false,false⟩
noncomputable def fi39:FI:=⟨codeOf Tryz.f39,[.tmp 4],.inout,[],[],[],false,false⟩
noncomputable def fi40:FI:=⟨codeOf Tryz.f40,[.tmp 4],.inout,[([0,1,0,1,1],[0,3,5,6])],[],[([0,1,0,1,1],[5])],false,false⟩
noncomputable def fi41:FI:=⟨codeOf Tryz.f41,[.tmp 4],.inout,[([0,1,0,1,1],[0,3,5,12,13,14]),([0,1,1,1,0,0,1,1,0,0,1,0,1,1],[0,3,5,7,8,12,13,14])],[],[([0,1,0,1,1],[5]),([0,1,1,1,0,0,1,1,0,0,1,0,1,1],[5])],false,false⟩
noncomputable def fi42:FI:=⟨codeOf Tryz.f42,[.tmp 4],.inout,[([0,1,0,1,1],[0,3,5,11,12,13])],[(6,.one 0 (.one 1 (.one 2 (.one 4 (.one 5 (.one 6 (.one 7 (.one 9 (.one 8 (.hold 3 (.alt 15 (.keep 10 [3] (.one 11 (.one 12 (.one 13 (.one 14 (.one 16 (.one 17 (.done)))))))) (.keep 10 [3] (.alt 11 (.one 12 (.one 13 (.one 14 (.one 15 (.one 16 (.one 17 (.done))))))) (.one 15 (.one 11 (.one 12 (.one 13 (.one 14 (.one 16 (.one 17 (.done)))))))))))))))))))))],[([0,1,0,1,1],[5])],false,false⟩
noncomputable def fi43:FI:=⟨codeOf Tryz.f43,[.tmp 4],.inout,[([0,1,0,1,1,1],[0,1,5,24,25,26])],[],[([0,1,0,1,1,1],[5])],false,false⟩
noncomputable def fi45:FI:=⟨codeOf Tryz.f45,[.tmp 2],.inout,[],[],[],false,false⟩
noncomputable def fi46:FI:=⟨codeOf Tryz.f46,[.tmp 2],.inout,[],[],[],false,false⟩
noncomputable def fi47:FI:=⟨codeOf Tryz.f47,[.tmp 4],.inout,[],[],[],false,false⟩
noncomputable def fi48:FI:=⟨codeOf Tryz.f48,[.tmp 2],.inout,[([0,1,0,1,1,1],[3,42])],[(3,.one 0 (.one 1 (.one 2 (.one 5 (.one 6 (.one 7 (.one 9 (.one 10 (.one 11 (.one 15 (.one 16 (.one 17 (.one 19 (.one 20 (.one 21 (.one 23 (.one 24 (.one 25 (.one 3 (.hold 8 (.hold 12 (.hold 18 (.hold 22 (.hold 26 (.alt 14 (.keep 4 [26,22,18,12,8] (.keep 13 [26,22,18,8] (.one 27 (.one 28 (.one 29 (.done)))))) (.keep 4 [26,22,18,12,8] (.alt 14 (.keep 13 [26,22,18,8] (.one 27 (.one 28 (.one 29 (.done))))) (.keep 13 [26,22,18,8] (.one 14 (.one 27 (.one 28 (.one 29 (.done))))))))))))))))))))))))))))))))),(8,.one 0 (.one 1 (.one 2 (.one 5 (.one 6 (.one 7 (.one 3 (.hold 8 (.keep 4 [8] (.one 9 (.one 10 (.one 11 (.one 12 (.one 13 (.done)))))))))))))))],[],false,false⟩
noncomputable def fi50:FI:=⟨codeOf Tryz.f50,[.tmp 2],.fresh,[],[],[],true,false⟩
noncomputable def fi51:FI:=⟨codeOf Tryz.f51,[.tmp 2],.inout,[],[],[],false,false⟩
noncomputable def fi52:FI:=⟨codeOf Tryz.f52,[.tmp 2],.pure,[],[],[],false,false⟩
noncomputable def fi53:FI:=⟨codeOf Tryz.f53,[.tmp 2],.fresh,[],[],[],true,false⟩
noncomputable def fi54:FI:=⟨codeOf Tryz.f54,[.tmp 2],.fresh,[([0,1,0,1,1],[3,17,18])],[],[],true,false⟩
noncomputable def fi55:FI:=⟨codeOf Tryz.f55,[.tmp 4,.tmp 5],.pure,[],[(3,.one 0 (.one 1 (.one 2 (.one 6 (.one 7 (.one 8 (.one 3 (.one 4 (.one 5 (.one 12 (.one 9 (.one 10 (.one 11 (.one 13 (.done)))))))))))))))],[],false,false⟩
noncomputable def fi56:FI:=⟨codeOf Tryz.f56,[.tmp 4],.fresh,[([0,1,0,1,1],[5,11,12,13])],[],[([0,1,0,1,1],[5])],true,false⟩
noncomputable def fi57:FI:=⟨codeOf Tryz.f57,[.tmp 4,.tmp 5],.pure,[],[],[],false,false⟩
noncomputable def fi58:FI:=⟨codeOf Tryz.f58,[.tmp 2,.tmp 3],.pure,[],[(3,.one 0 (.one 1 (.one 3 (.one 4 (.one 2 (.one 6 (.one 5 (.one 7 (.done)))))))))],[],false,false⟩
noncomputable def fi59:FI:=⟨codeOf Tryz.f59,[.tmp 6],.pure,[],[],[],false,false⟩
noncomputable def fi60:FI:=⟨codeOf Tryz.f60,[.tmp 6],.pure,[],[],[],false,false⟩
noncomputable def fi61:FI:=⟨codeOf Tryz.f61,[.tmp 4],.inout,[],[],[],false,false⟩
noncomputable def fi62:FI:=⟨codeOf Tryz.f62,[.tmp 6],.pure,[([0,1,0,1,1],[1,3,5,6,16,17,18])],[(8,.one 0 (.one 1 (.one 2 (.one 3 (.one 5 (.one 7 (.one 8 (.one 4 (.one 6 (.one 9 (.one 10 (.one 11 (.one 12 (.one 13 (.one 14 (.one 16 (.one 18 (.one 19 (.one 15 (.one 17 (.one 20 (.one 21 (.one 22 (.one 23 (.one 24 (.one 26 (.one 28 (.one 29 (.one 25 (.one 27 (.one 30 (.one 31 (.one 32 (.one 33 (.one 34 (.one 35 (.done)))))))))))))))))))))))))))))))))))))],[],false,false⟩
noncomputable def fi63:FI:=⟨codeOf Tryz.f63,[.cell 2 75],.pure,[],[],[],false,false⟩
noncomputable def fi64:FI:=⟨codeOf Tryz.f64,[.tmp 2],.fresh,[],[],[],true,false⟩
noncomputable def fi65:FI:=⟨codeOf Tryz.f65,[],.inout,[],[],[],false,false⟩
noncomputable def fi66:FI:=⟨codeOf Tryz.f66,[.tmp 2],.inout,[],[],[],false,false⟩
noncomputable def fi67:FI:=⟨codeOf Tryz.f67,[.tmp 8],.inout,[],[(2,.one 0 (.one 1 (.one 2 (.one 3 (.one 5 (.one 7 (.one 9 (.one 4 (.one 6 (.one 8 (.one 10 (.one 11 (.one 12 (.one 13 (.one 14 (.one 15 (.done))))))))))))))))),(6,.one 0 (.one 1 (.one 2 (.one 4 (.one 8 (.one 9 (.one 3 (.one 5 (.one 6 (.one 7 (.one 10 (.done)))))))))))),(8,.one 0 (.one 1 (.one 2 (.one 3 (.one 4 (.one 8 (.one 9 (.one 10 (.one 12 (.one 5 (.hold 11 (.alt 6 (.alt 13 (.keep 7 [11] (.one 14 (.one 15 (.one 16 (.one 17 (.one 18 (.one 19 (.one 20 (.done))))))))) (.keep 7 [11] (.one 13 (.one 14 (.one 15 (.one 16 (.one 17 (.one 18 (.one 19 (.one 20 (.done))))))))))) (.one 13 (.one 6 (.keep 7 [11] (.one 14 (.one 15 (.one 16 (.one 17 (.one 18 (.one 19 (.one 20 (.done))))))))))))))))))))))),(9,.one 1 (.one 3 (.one 0 (.one 2 (.one 4 (.one 5 (.one 6 (.done)))))))),(10,.one 0 (.one 1 (.one 2 (.one 3 (.one 4 (.one 6 (.one 8 (.one 9 (.one 5 (.one 7 (.one 10 (.one 11 (.one 12 (.one 13 (.one 14 (.one 15 (.one 16 (.one 17 (.one 18 (.one 19 (.one 20 (.done))))))))))))))))))))))],[],false,false⟩
noncomputable def fi68:FI:=⟨codeOf Tryz.f68,[],.inout,[([0,1,0,1],[0,1,4,19,20,21]),([0,1,0,1,1],[0,1,90,91,92]),([0,1,0,1,1,0,0,1,1,0,0,1,0,1,1,1,0,0,1,1,0,0,1,0,1],[0,1,4,6,7,8,9,10,19,20,21,43,44,52,53,54]),([0,1,0,1,1,1,0,0,1,1,0,0,1,0,1],[0,1,4,6,7,8,19,20,21,43,44]),([0,1,1,1,0,0,1,1,0,0,1,1,1,1],[0,17,18,146,147,148]),([0,1,1,1,1],[0,146,147,148])],[(5,.one 0 (.one 1 (.one 3 (.one 4 (.one 5 (.hold 6 (.alt 8 (.keep 2 [6] (.one 7 (.one 9 (.done)))) (.keep 2 [6] (.alt 7 (.one 8 (.one 9 (.done))) (.one 8 (.one 7 (.one 9 (.done))))))))))))),(13,.one 0 (.one 1 (.one 2 (.one 3 (.one 5 (.one 6 (.one 8 (.hold 4 (.keep 7 [4] (.one 9 (.one 10 (.one 11 (.one 12 (.one 13 (.one 14 (.done)))))))))))))))),(22,.one 0 (.one 1 (.one 2 (.one 4 (.one 5 (.one 6 (.one 3 (.one 7 (.one 8 (.one 9 (.done))))))))))),(24,.one 0 (.one 1 (.one 2 (.one 4 (.hold 3 (.keep 5 [3] (.one 6 (.done)))))))),(25,.one 0 (.one 1 (.one 2 (.one 3 (.one 4 (.one 6 (.one 7 (.one 8 (.one 9 (.one 5 (.one 10 (.one 11 (.one 12 (.one 13 (.one 14 (.one 15 (.done))))))))))))))))),(32,.one 0 (.one 1 (.one 2 (.one 4 (.hold 3 (.keep 5 [3] (.one 6 (.one 7 (.one 8 (.one 9 (.one 10 (.one 11 (.one 12 (.one 13 (.one 14 (.one 15 (.one 16 (.done))))))))))))))))))],[([0,1,0,1],[4]),([0,1,0,1,1,0,0,1,1,0,0,1,0,1,1,1,0,0,1,1,0,0,1,0,1],[10])],false,false⟩
noncomputable def fi69:FI:=⟨codeOf Tryz.f69,[.tmp 4],.pure,[([0,1,0,1],[0,1,4,7,8])],[],[],false,false⟩
noncomputable def fi70:FI:=⟨codeOf Tryz.f70,[.tmp 4],.inout,[],[],[],false,false⟩
noncomputable def fi71:FI:=⟨codeOf Tryz.f71,[.tmp 4],.inout,[],[(1,.one 0 (.one 1 (.one 2 (.one 3 (.one 4 (.one 5 (.one 6 (.one 7 (.one 8 (.one 9 (.one 10 (.one 11 (.one 12 (.one 13 (.one 14 (.one 15 (.one 16 (.one 17 (.one 18 (.one 19 (.one 20 (.one 21 (.one 22 (.one 24 (.one 23 (.one 25 (.one 26 (.done)))))))))))))))))))))))))))),(3,.one 0 (.one 1 (.one 2 (.one 3 (.one 5 (.one 9 (.one 4 (.one 6 (.one 7 (.one 8 (.one 10 (.one 11 (.one 12 (.one 13 (.one 14 (.one 15 (.one 16 (.done)))))))))))))))))),(6,.one 0 (.one 1 (.one 2 (.one 3 (.one 5 (.one 9 (.one 11 (.one 4 (.one 6 (.one 7 (.one 8 (.one 10 (.one 12 (.one 13 (.one 14 (.done))))))))))))))))],[],false,false⟩
noncomputable def fi72:FI:=⟨codeOf Tryz.f72,[.tmp 4],.inout,[],[],[],false,false⟩
noncomputable def fi73:FI:=⟨codeOf Tryz.f73,[.tmp 6],.pure,[],[],[],false,false⟩
noncomputable def fi74:FI:=⟨codeOf Tryz.f74,[.tmp 6],.pure,[],[],[],false,false⟩
noncomputable def fi75:FI:=⟨codeOf Tryz.f75,[.tmp 4],.pure,[([0,1,0,1],[0,1,4,7,8])],[(4,.one 0 (.one 1 (.one 2 (.one 3 (.one 4 (.one 5 (.one 6 (.one 7 (.one 9 (.one 10 (.one 11 (.one 8 (.one 12 (.one 13 (.one 14 (.one 15 (.done)))))))))))))))))],[],false,false⟩
noncomputable def fi76:FI:=⟨codeOf Tryz.f76,[.tmp 4],.pure,[],[],[],false,false⟩
noncomputable def fi77:FI:=⟨codeOf Tryz.f77,[.tmp 4],.pure,[],[],[],false,false⟩
noncomputable def fi78:FI:=⟨codeOf Tryz.f78,[.tmp 3],.pure,[],[],[],false,false⟩
noncomputable def fi79:FI:=⟨codeOf Tryz.f79,[.tmp 4],.pure,[],[(2,.one 0 (.one 1 (.one 2 (.one 3 (.one 4 (.one 5 (.one 6 (.one 7 (.one 8 (.one 10 (.one 9 (.one 11 (.one 12 (.one 13 (.one 14 (.one 15 (.one 16 (.one 17 (.one 18 (.one 19 (.done)))))))))))))))))))))],[],false,false⟩
noncomputable def fi80:FI:=⟨codeOf Tryz.f80,[.tmp 4],.inout,[],[(5,.one 0 (.one 1 (.one 2 (.one 3 (.one 5 (.one 6 (.one 7 (.one 8 (.one 10 (.one 4 (.one 9 (.one 11 (.one 12 (.one 13 (.one 14 (.one 15 (.done)))))))))))))))))],[],false,false⟩
noncomputable def fi81:FI:=⟨codeOf Tryz.f81,[.tmp 2],.fresh,[],[],[],true,false⟩
noncomputable def fi82:FI:=⟨codeOf Tryz.f82,[.tmp 4],.inout,[],[(1,.one 0 (.one 1 (.one 2 (.one 3 (.one 4 (.one 5 (.one 6 (.one 7 (.one 8 (.one 9 (.one 10 (.one 11 (.one 12 (.one 13 (.one 15 (.one 14 (.one 16 (.one 17 (.one 18 (.one 19 (.one 20 (.one 21 (.one 22 (.one 23 (.one 24 (.one 25 (.one 26 (.done))))))))))))))))))))))))))))],[],false,false⟩
noncomputable def fi83:FI:=⟨codeOf Tryz.f83,[.tmp 6],.inout,[],[],[],false,false⟩
noncomputable def fi84:FI:=⟨codeOf Tryz.f84,[.tmp 8],.inout,[([0,1,0,1,1,1,1],[2,9,10,23,24,25])],[(12,.one 0 (.one 1 (.one 2 (.one 3 (.one 4 (.hold 6 (.alt 7 (.one 5 (.one 8 (.one 9 (.one 10 (.one 11 (.done)))))) (.keep 5 [6] (.one 7 (.one 8 (.one 9 (.one 10 (.one 11 (.done))))))))))))))],[],false,false⟩
noncomputable def fi85:FI:=⟨codeOf Tryz.f85,[.tmp 8],.inout,[],[(4,.one 0 (.one 1 (.one 2 (.one 4 (.one 5 (.one 6 (.one 7 (.one 10 (.one 11 (.one 12 (.one 13 (.one 14 (.one 3 (.one 8 (.one 9 (.one 15 (.one 16 (.one 17 (.one 18 (.one 19 (.one 20 (.one 21 (.one 22 (.done))))))))))))))))))))))))],[],false,false⟩
noncomputable def fi86:FI:=⟨codeOf Tryz.f86,[.tmp 2],.inout,[([0,1,0,1,1],[0,3,9,10])],[(5,.one 0 (.one 1 (.one 2 (.one 4 (.one 5 (.one 8 (.one 9 (.one 10 (.hold 3 (.hold 11 (.keep 6 [11,3] (.one 7 (.one 12 (.done))))))))))))))],[([0,1,0,1,1],[3])],false,false⟩
noncomputable def fi87:FI:=⟨codeOf Tryz.f87,[.tmp 6,.tmp 7],.inout,[],[(4,.one 0 (.one 1 (.one 2 (.one 4 (.one 5 (.hold 3 (.keep 6 [3] (.one 7 (.one 8 (.one 9 (.one 10 (.one 11 (.one 12 (.one 13 (.one 14 (.one 15 (.done)))))))))))))))))],[],false,false⟩
noncomputable def fi88:FI:=⟨codeOf Tryz.f88,[.cell 6 78,.tmp 7],.inout,[],[(6,.one 1 (.one 2 (.one 3 (.one 4 (.one 0 (.one 5 (.one 6 (.one 7 (.one 8 (.one 9 (.done))))))))))),(8,.one 1 (.one 2 (.one 3 (.one 0 (.one 4 (.one 5 (.one 6 (.one 7 (.one 8 (.done)))))))))),(9,.one 1 (.one 2 (.one 3 (.one 5 (.one 6 (.hold 0 (.hold 4 (.keep 7 [4,0] (.one 8 (.one 9 (.one 10 (.one 11 (.one 12 (.one 13 (.one 14 (.one 15 (.one 16 (.one 17 (.done)))))))))))))))))))],[],false,false⟩
noncomputable def fi89:FI:=⟨codeOf Tryz.f89,[.tmp 4],.inout,[],[],[],false,false⟩
noncomputable def fi90:FI:=⟨codeOf Tryz.f90,[.tmp 4],.pure,[([0,1,0,0,1,0,0,1,0,1,1,1],[1,2,5,6,7]),([0,1,0,1,1,1],[1,2,5,6])],[(5,.one 0 (.one 1 (.one 2 (.one 3 (.one 7 (.one 8 (.one 4 (.one 5 (.one 6 (.one 9 (.one 10 (.one 11 (.one 12 (.done)))))))))))))),(8,.one 0 (.one 1 (.one 2 (.one 3 (.one 7 (.one 8 (.one 4 (.one 5 (.one 6 (.one 9 (.one 10 (.one 11 (.one 12 (.done))))))))))))))],[([0,1,0,0,1,0,0,1,0,1,1,1],[5]),([0,1,0,1,1,1],[5])],false,false⟩
noncomputable def fi91:FI:=⟨codeOf Tryz.f91,[.tmp 6],.inout,[([0,1,1,1,1],[0,1,6,7])],[],[],false,false⟩
noncomputable def fi94:FI:=⟨codeOf Tryz.f94,[],.inout,[([0,1],[0,5])],[],[],false,false⟩
noncomputable def fi95:FI:=⟨codeOf Tryz.f95,[.tmp 2],.inout,[],[],[],false,false⟩
noncomputable def fi96:FI:=⟨codeOf Tryz.f96,[.tmp 2],.inout,[([0,1,0,1,1,1],[3,21,22])],[(7,.one 0 (.one 1 (.one 2 (.one 3 (.one 5 (.one 6 (.one 7 (.one 8 (.one 9 (.one 11 (.one 10 (.one 12 (.one 13 (.one 14 (.hold 4 (.keep 15 [4] (.one 16 (.one 17 (.one 18 (.done))))))))))))))))))))],[],false,false⟩
noncomputable def fi97:FI:=⟨codeOf Tryz.f97,[.tmp 2],.inout,[([0,1,0,1,1,1],[3,14,15,16])],[(7,.one 0 (.one 1 (.one 2 (.one 3 (.one 4 (.one 6 (.hold 5 (.keep 7 [5] (.one 8 (.one 9 (.one 10 (.one 11 (.one 12 (.one 13 (.done)))))))))))))))],[],false,false⟩
noncomputable def fi98:FI:=⟨codeOf Tryz.f98,[.tmp 2],.inout,[],[],[],false,false⟩
noncomputable def fi99:FI:=⟨codeOf Tryz.f99,[.tmp 2],.inout,[],[],[],false,false⟩
noncomputable def fi101:FI:=⟨codeOf Tryz.f101,[.tmp 6],.pure,[],[],[],false,false⟩
noncomputable def fi102:FI:=⟨codeOf Tryz.f102,[.tmp 4],.pure,[],[],[],false,false⟩
noncomputable def fi103:FI:=⟨codeOf Tryz.f103,[.tmp 2],.fresh,[],[],[],true,false⟩
noncomputable def fi104:FI:=⟨codeOf Tryz.f104,[.tmp 4],.pure,[],[],[],false,false⟩
noncomputable def fi105:FI:=⟨codeOf Tryz.f105,[.tmp 4],.pure,[([0,1,0,1],[0,1,4,7,8])],[],[],false,false⟩
noncomputable def fi106:FI:=⟨codeOf Tryz.f106,[.tmp 3],.pure,[],[],[],false,false⟩
noncomputable def fi107:FI:=⟨codeOf Tryz.f107,[.tmp 6],.inout,[],[(11,.one 0 (.one 1 (.one 2 (.one 3 (.one 4 (.one 5 (.one 6 (.one 7 (.one 8 (.done)))))))))),(15,.one 0 (.one 1 (.one 2 (.one 3 (.one 4 (.one 5 (.one 6 (.one 7 (.one 8 (.done))))))))))],[],true,false⟩
noncomputable def fi108:FI:=⟨codeOf Tryz.f108,[.tmp 4,.tmp 5],.pure,[],[],[],false,false⟩
noncomputable def fi109:FI:=⟨codeOf Tryz.f109,[.tmp 4,.tmp 5],.pure,[],[],[],false,false⟩
noncomputable def fi110:FI:=⟨codeOf Tryz.f110,[.tmp 4],.pure,[],[],[],false,false⟩
noncomputable def fi111:FI:=⟨codeOf Tryz.f111,[.tmp 6],.pure,[([0,1,0,1,1,1],[1,2,3,7,20,21])],[],[([0,1,0,1,1,1],[7])],false,false⟩
noncomputable def fi112:FI:=⟨codeOf Tryz.f112,[.tmp 6],.pure,[],[],[],false,false⟩
noncomputable def fi113:FI:=⟨codeOf Tryz.f113,[.tmp 4],.pure,[],[(1,.one 1 (.one 4 (.one 0 (.one 2 (.one 5 (.one 3 (.one 6 (.one 7 (.one 8 (.one 9 (.one 10 (.one 11 (.one 12 (.one 13 (.one 14 (.one 15 (.one 16 (.one 17 (.done))))))))))))))))))),(5,.one 1 (.one 0 (.one 2 (.one 3 (.one 4 (.one 6 (.one 7 (.one 9 (.one 10 (.one 13 (.one 5 (.one 8 (.one 11 (.one 14 (.one 12 (.one 15 (.one 16 (.one 17 (.one 18 (.one 19 (.one 20 (.one 21 (.one 22 (.one 23 (.one 24 (.one 25 (.one 26 (.one 27 (.one 28 (.one 30 (.one 29 (.one 31 (.one 32 (.one 33 (.one 34 (.done))))))))))))))))))))))))))))))))))))],[],false,false⟩
noncomputable def fi114:FI:=⟨codeOf Tryz.f114,[.tmp 4],.pure,[],[],[],false,false⟩
noncomputable def fi115:FI:=⟨codeOf Tryz.f115,[.cell 4 75],.inout,[],[(3,.one 0 (.one 1 (.one 2 (.one 4 (.one 5 (.hold 3 (.keep 6 [3] (.one 7 (.one 8 (.one 9 (.one 10 (.one 11 (.one 12 (.one 13 (.one 14 (.done))))))))))))))))],[],false,false⟩
noncomputable def fi116:FI:=⟨codeOf Tryz.f116,[.tmp 8],.inout,[([0,1,0,1,1,1],[0,1,3,9,26,27,28])],[],[([0,1,0,1,1,1],[9])],false,false⟩
noncomputable def fi117:FI:=⟨codeOf Tryz.f117,[.tmp 6,.tmp 7],.inout,[([0,1,0,1,1],[0,2,8,9,21,22,23])],[],[],false,false⟩
noncomputable def fi118:FI:=⟨codeOf Tryz.f118,[.tmp 8],.pure,[([0,1,0,1,1],[9,16,17,18])],[],[([0,1,0,1,1],[9])],false,false⟩
noncomputable def fi119:FI:=⟨codeOf Tryz.f119,[.tmp 8],.inout,[],[(1,.one 0 (.one 1 (.one 2 (.one 3 (.one 4 (.one 5 (.one 6 (.one 8 (.one 7 (.one 9 (.one 10 (.one 11 (.one 12 (.one 13 (.one 14 (.one 15 (.one 16 (.one 18 (.one 17 (.one 19 (.one 20 (.one 21 (.one 22 (.one 23 (.one 24 (.one 25 (.one 27 (.one 26 (.one 28 (.one 29 (.one 30 (.one 31 (.one 32 (.one 33 (.one 35 (.one 34 (.one 36 (.one 37 (.one 38 (.done))))))))))))))))))))))))))))))))))))))))],[],false,false⟩
noncomputable def fi120:FI:=⟨codeOf Tryz.f120,[.cell 10 75,.tmp 11,.tmp 12],.pure,[],[(4,.one 1 (.one 2 (.one 5 (.one 7 (.one 0 (.one 3 (.one 4 (.one 6 (.one 8 (.one 9 (.one 10 (.one 11 (.done))))))))))))),(11,.one 0 (.one 3 (.one 4 (.one 5 (.one 8 (.one 9 (.one 10 (.one 1 (.one 2 (.one 6 (.one 7 (.one 11 (.one 12 (.one 13 (.one 14 (.one 15 (.one 16 (.done))))))))))))))))))],[],false,false⟩
noncomputable def fi121:FI:=⟨codeOf Tryz.f121,[.tmp 6],.inout,[],[],[],false,false⟩
noncomputable def fi122:FI:=⟨codeOf Tryz.f122,[.tmp 4],.inout,[([0,1,0,0,1,1,0,0,1,1,0,1,0,0,1,0,1,1,1],[5,9,11,67,68,69]),([0,1,0,1,1],[2,5,18,19,20]),([0,1,0,1,1,1],[5,9]),([0,1,0,1,1,1,1,1],[12,91,92,93]),([0,1,1,0,1,0,0,1,0,1,1,1],[5,9,67,68,69])],[(7,.one 0 (.one 1 (.one 2 (.one 3 (.one 4 (.one 5 (.one 7 (.one 8 (.one 9 (.one 10 (.one 6 (.one 11 (.one 12 (.one 13 (.one 14 (.done)))))))))))))))),(8,.one 0 (.one 1 (.one 2 (.one 4 (.one 5 (.one 6 (.one 7 (.one 9 (.one 3 (.one 8 (.one 10 (.done))))))))))))],[([0,1,0,1,1,1,1,1],[12])],false,false⟩
noncomputable def fi123:FI:=⟨codeOf Tryz.f123,[.tmp 6],.inout,[([0,1,0,1],[0,2,6,15,16,17])],[],[],false,false⟩
noncomputable def fi124:FI:=⟨codeOf Tryz.f124,[.tmp 4],.inout,[],[],[],false,false⟩
noncomputable def fi125:FI:=⟨codeOf Tryz.f125,[.tmp 4],.inout,[],[],[],false,false⟩
noncomputable def fi126:FI:=⟨codeOf Tryz.f126,[.tmp 4],.both,[],[],[],false,false⟩
noncomputable def fi127:FI:=⟨codeOf Tryz.f127,[.tmp 3],.pure,[],[],[],false,false⟩
noncomputable def fi128:FI:=⟨codeOf Tryz.f128,[.tmp 4],.inout,[],[],[],false,false⟩
noncomputable def fi129:FI:=⟨codeOf Tryz.f129,[.tmp 4],.pure,[],[],[],false,false⟩
noncomputable def fi130:FI:=⟨codeOf Tryz.f130,[.tmp 4],.pure,[],[],[],false,false⟩
noncomputable def fi131:FI:=⟨codeOf Tryz.f131,[.tmp 2],.pure,[],[],[],false,false⟩
noncomputable def fi132:FI:=⟨codeOf Tryz.f132,[.tmp 4],.pure,[([0,1,0,1],[0,1,4,7,8])],[],[],false,false⟩
noncomputable def fi133:FI:=⟨codeOf Tryz.f133,[.tmp 4],.pure,[],[],[],false,false⟩
noncomputable def fi134:FI:=⟨codeOf Tryz.f134,[.tmp 3],.pure,[],[],[],false,false⟩
noncomputable def fi135:FI:=⟨codeOf Tryz.f135,[.tmp 4],.pure,[],[],[],false,false⟩
noncomputable def fi136:FI:=⟨codeOf Tryz.f136,[.tmp 4],.pure,[([0,1,0,1],[0,1,4,7,8])],[(4,.one 0 (.one 1 (.one 2 (.one 3 (.one 4 (.one 5 (.one 6 (.one 7 (.one 9 (.one 10 (.one 11 (.one 8 (.one 12 (.one 13 (.one 14 (.one 15 (.done)))))))))))))))))],[],false,false⟩
noncomputable def fi137:FI:=⟨codeOf Tryz.f137,[.tmp 4],.pure,[],[],[],false,false⟩
noncomputable def fi138:FI:=⟨codeOf Tryz.f138,[.tmp 4],.pure,[],[],[],false,false⟩
noncomputable def fi139:FI:=⟨codeOf Tryz.f139,[.tmp 3],.pure,[],[],[],false,false⟩
noncomputable def fi140:FI:=⟨codeOf Tryz.f140,[.tmp 4],.pure,[([0,1,0,1,1],[2,3,4,21,22,23])],[(1,.one 0 (.one 1 (.one 2 (.one 3 (.one 4 (.one 5 (.one 6 (.one 7 (.one 8 (.one 9 (.one 10 (.one 11 (.one 12 (.done)))))))))))))),(6,.one 0 (.one 1 (.one 2 (.one 3 (.one 4 (.one 5 (.one 7 (.one 6 (.one 8 (.one 9 (.one 10 (.one 11 (.one 12 (.one 14 (.one 13 (.one 15 (.one 16 (.one 17 (.one 18 (.one 19 (.one 20 (.one 21 (.one 23 (.one 25 (.one 26 (.one 22 (.one 24 (.one 27 (.one 28 (.one 29 (.one 30 (.one 31 (.done)))))))))))))))))))))))))))))))))],[],false,false⟩
noncomputable def fi141:FI:=⟨codeOf Tryz.f141,[.tmp 4],.pure,[([0,1,0,1],[0,1,4,7,8])],[(4,.one 0 (.one 1 (.one 2 (.one 3 (.one 4 (.one 5 (.one 6 (.one 7 (.one 9 (.one 10 (.one 11 (.one 8 (.one 12 (.one 13 (.one 14 (.one 15 (.done)))))))))))))))))],[],false,false⟩
noncomputable def fi142:FI:=⟨codeOf Tryz.f142,[.tmp 4],.pure,[],[(1,.one 0 (.one 2 (.one 5 (.one 7 (.one 1 (.one 3 (.one 6 (.one 8 (.one 4 (.one 9 (.one 10 (.one 11 (.one 12 (.done))))))))))))))],[],false,false⟩
noncomputable def fi143:FI:=⟨codeOf Tryz.f143,[.tmp 2],.pure,[([0,1,0,1,1],[2,3,6,7,8])],[],[],false,false⟩
noncomputable def fi144:FI:=⟨codeOf Tryz.f144,[.tmp 4],.pure,[],[],[],false,false⟩
noncomputable def fi145:FI:=⟨codeOf Tryz.f145,[.tmp 3],.pure,[],[],[],false,false⟩
noncomputable def fi146:FI:=⟨codeOf Tryz.f146,[.tmp 4],.pure,[([0,1,0,1],[0,1,4,7,8])],[(4,.one 0 (.one 1 (.one 2 (.one 3 (.one 4 (.one 5 (.one 6 (.one 7 (.one 9 (.one 10 (.one 11 (.one 8 (.one 12 (.one 13 (.one 14 (.one 15 (.done)))))))))))))))))],[],false,false⟩
noncomputable def fi147:FI:=⟨codeOf Tryz.f147,[.tmp 4],.pure,[],[],[],false,false⟩
noncomputable def fi148:FI:=⟨codeOf Tryz.f148,[.tmp 3],.inout,[],[(1,.one 0 (.one 1 (.one 2 (.one 3 (.one 4 (.one 5 (.one 6 (.one 7 (.done)))))))))],[],false,false⟩
noncomputable def fi149:FI:=⟨codeOf Tryz.f149,[.tmp 6],.inout,[],[],[],false,false⟩
noncomputable def fi150:FI:=⟨codeOf Tryz.f150,[.tmp 2],.inout,[],[],[],true,false⟩
noncomputable def fi151:FI:=⟨codeOf Tryz.f151,[.tmp 2],.fresh,[],[],[],true,false⟩
noncomputable def fi152:FI:=⟨codeOf Tryz.f152,[.tmp 2],.inout,[],[],[],false,false⟩
noncomputable def fi153:FI:=⟨codeOf Tryz.f153,[.tmp 4],.inout,[],[(1,.one 0 (.one 1 (.one 2 (.one 3 (.one 4 (.one 5 (.one 6 (.one 9 (.one 10 (.one 11 (.two 7 (.one 8 (.one 12 (.one 13 (.one 14 (.one 15 (.one 16 (.done))))))) 12 (.one 13 (.one 7 (.one 8 (.one 14 (.one 15 (.one 16 (.done))))))))))))))))))],[],false,false⟩
noncomputable def fi154:FI:=⟨codeOf Tryz.f154,[.cell 6 75,.tmp 7],.inout,[],[],[],false,false⟩
noncomputable def fi158:FI:=⟨codeOf Tryz.f158,[],.inout,[([0,1],[0,5])],[],[],false,false⟩
noncomputable def fi159:FI:=⟨codeOf Tryz.f159,[.tmp 2],.inout,[],[],[],false,false⟩
noncomputable def fi161:FI:=⟨codeOf Tryz.f161,[.tmp 3],.pure,[],[],[],false,false⟩
noncomputable def fi163:FI:=⟨codeOf Tryz.f163,[],.inout,[],[],[],false,false⟩
noncomputable def fi164:FI:=⟨codeOf Tryz.f164,[.tmp 4],.pure,[],[],[],false,false⟩
noncomputable def fi165:FI:=⟨codeOf Tryz.f165,[.tmp 2],.pure,[([0,1,0,1],[0,2,5,6])],[(4,.one 0 (.one 1 (.one 2 (.one 3 (.one 4 (.one 5 (.one 6 (.one 8 (.one 9 (.one 10 (.one 11 (.one 12 (.one 7 (.one 13 (.one 14 (.one 15 (.done)))))))))))))))))],[],false,false⟩
noncomputable def fi166:FI:=⟨codeOf Tryz.f166,[.tmp 2],.pure,[([0,1,0,1,1],[3,6,7,8])],[],[],false,false⟩
noncomputable def fi167:FI:=⟨codeOf Tryz.f167,[.tmp 4],.pure,[],[],[],false,false⟩
noncomputable def fi168:FI:=⟨codeOf Tryz.f168,[.tmp 4],.pure,[],[(1,.one 0 (.one 1 (.one 2 (.one 3 (.one 4 (.one 6 (.one 8 (.one 5 (.one 7 (.one 9 (.one 11 (.one 10 (.one 12 (.one 13 (.one 14 (.done))))))))))))))))],[],false,false⟩
noncomputable def fi169:FI:=⟨codeOf Tryz.f169,[.tmp 4],.pure,[],[],[],false,false⟩
noncomputable def fi170:FI:=⟨codeOf Tryz.f170,[.tmp 6],.pure,[],[(4,.one 0 (.one 5 (.one 1 (.one 6 (.one 2 (.one 3 (.one 4 (.one 7 (.one 8 (.one 9 (.one 10 (.one 11 (.done)))))))))))))],[],false,false⟩
noncomputable def fi171:FI:=⟨codeOf Tryz.f171,[.tmp 6],.pure,[],[],[],false,false⟩
noncomputable def fi172:FI:=⟨codeOf Tryz.f172,[.tmp 4],.pure,[],[(1,.one 0 (.one 2 (.one 5 (.one 7 (.one 1 (.one 3 (.one 6 (.one 8 (.one 4 (.one 9 (.one 10 (.one 11 (.one 12 (.done)))))))))))))),(6,.one 0 (.one 2 (.one 5 (.one 7 (.one 1 (.one 3 (.one 6 (.one 8 (.one 4 (.one 9 (.one 10 (.one 11 (.one 12 (.done))))))))))))))],[],false,false⟩
noncomputable def fi173:FI:=⟨codeOf Tryz.f173,[.tmp 4],.fresh,[],[],[],true,false⟩
noncomputable def fi174:FI:=⟨codeOf Tryz.f174,[.tmp 6],.inout,[],[(6,.one 0 (.one 1 (.one 2 (.one 4 (.one 5 (.hold 3 (.keep 6 [3] (.one 7 (.one 8 (.one 9 (.one 10 (.one 11 (.one 12 (.one 13 (.done)))))))))))))))],[],false,false⟩
noncomputable def fi175:FI:=⟨codeOf Tryz.f175,[.cell 6 42,.tmp 7],.inout,[],[(10,.one 0 (.one 1 (.one 2 (.one 4 (.one 5 (.one 6 (.one 3 (.one 7 (.one 8 (.one 9 (.one 10 (.one 11 (.one 12 (.one 13 (.one 14 (.done))))))))))))))))],[],false,false⟩
noncomputable def fi176:FI:=⟨codeOf Tryz.f176,[.tmp 8],.fresh,[([0,1,0,1,1],[9,15,16,17])],[],[([0,1,0,1,1],[9])],true,false⟩
noncomputable def fi177:FI:=⟨codeOf Tryz.f177,[.tmp 4],.pure,[([0,1,0,1,1],[0,1,4,12,13])],[(6,.one 0 (.one 1 (.one 2 (.one 4 (.one 5 (.one 6 (.one 3 (.one 7 (.one 8 (.done))))))))))],[],false,false⟩
noncomputable def fi178:FI:=⟨codeOf Tryz.f178,[.tmp 4],.pure,[([0,1,0,1,1],[0,1,4,12,13])],[(6,.one 0 (.one 1 (.one 2 (.one 4 (.one 5 (.one 6 (.one 3 (.one 7 (.one 8 (.done))))))))))],[],false,false⟩
noncomputable def fi179:FI:=⟨codeOf Tryz.f179,[.tmp 4],.pure,[([0,1,0,1,1],[0,1,4,12,13])],[(6,.one 0 (.one 1 (.one 2 (.one 4 (.one 5 (.one 6 (.one 3 (.one 7 (.one 8 (.done))))))))))],[],false,false⟩
noncomputable def fi180:FI:=⟨codeOf Tryz.f180,[.tmp 10],.pure,[],[],[],false,false⟩
noncomputable def fi181:FI:=⟨codeOf Tryz.f181,[],.inout,[([0,1],[0,1,12,13,14])],[(7,.one 0 (.one 1 (.one 2 (.one 3 (.one 7 (.hold 4 (.hold 5 (.hold 6 (.keep 8 [6,5,4] (.one 9 (.one 10 (.one 11 (.one 12 (.one 13 (.one 14 (.done)))))))))))))))),(10,.one 0 (.one 1 (.one 2 (.one 4 (.one 5 (.one 6 (.one 8 (.one 3 (.one 7 (.one 9 (.one 11 (.one 10 (.one 12 (.one 13 (.done)))))))))))))))],[],false,false⟩
noncomputable def fi182:FI:=⟨codeOf Tryz.f182,[],.inout,[([0,1,0,1],[0,2,10,11,12])],[(4,.one 0 (.one 1 (.one 2 (.one 3 (.one 4 (.two 5 (.one 6 (.one 7 (.one 8 (.one 9 (.one 10 (.one 11 (.done))))))) 9 (.one 5 (.one 6 (.one 7 (.one 8 (.one 10 (.one 11 (.done)))))))))))))],[([0,1,0,1],[2])],false,false⟩
noncomputable def fi183:FI:=⟨codeOf Tryz.f183,[.tmp 4],.fresh,[([0,1,0,1,1],[5,12,13,14]),([0,1,1,0,0,1,1,0,0,1,0,1,1],[5,7,12,13,14,19,20])],[(9,.one 0 (.one 1 (.one 2 (.one 3 (.one 4 (.one 5 (.one 6 (.one 7 (.one 8 (.one 9 (.one 10 (.one 11 (.one 12 (.one 14 (.one 16 (.one 13 (.one 15 (.one 17 (.one 18 (.one 19 (.done)))))))))))))))))))))],[],true,false⟩
noncomputable def fi184:FI:=⟨codeOf Tryz.f184,[.tmp 2],.fresh,[],[],[],true,false⟩
noncomputable def fi185:FI:=⟨codeOf Tryz.f185,[.tmp 2],.fresh,[],[],[],true,false⟩
noncomputable def fi186:FI:=⟨codeOf Tryz.f186,[],.inout,[([0,1],[0,11,12,13]),([0,1,0,1,1,0,0,1,1,0,0,1],[0,3,4,11,12,13,36,37,38])],[(3,.one 0 (.one 1 (.one 2 (.one 4 (.one 5 (.one 6 (.one 8 (.one 3 (.one 7 (.one 9 (.one 10 (.one 11 (.done))))))))))))),(4,.one 0 (.one 1 (.one 2 (.one 4 (.one 5 (.one 6 (.one 10 (.one 3 (.one 7 (.one 8 (.one 9 (.done)))))))))))),(7,.one 0 (.one 1 (.one 2 (.one 3 (.one 4 (.one 6 (.one 7 (.one 8 (.one 5 (.one 9 (.one 10 (.one 11 (.done)))))))))))))],[],false,false⟩
noncomputable def fi187:FI:=⟨codeOf Tryz.f187,[],.inout,[([0,1,0,1],[0,2,10,11,12])],[(7,.one 0 (.one 1 (.one 2 (.one 3 (.one 4 (.one 6 (.one 7 (.one 8 (.one 10 (.one 11 (.one 12 (.one 5 (.one 9 (.one 13 (.one 14 (.one 15 (.one 16 (.one 17 (.one 18 (.one 19 (.one 20 (.one 21 (.one 22 (.one 23 (.one 24 (.one 25 (.done))))))))))))))))))))))))))),(9,.one 0 (.one 1 (.one 2 (.one 3 (.one 5 (.one 7 (.one 8 (.hold 4 (.keep 6 [4] (.one 9 (.one 10 (.one 11 (.one 12 (.one 13 (.one 14 (.done))))))))))))))))],[],false,false⟩
noncomputable def fi188:FI:=⟨codeOf Tryz.f188,[],.inout,[([0,1,0,1],[0,2,9,10,11])],[(4,.one 0 (.one 1 (.one 2 (.one 4 (.one 6 (.one 3 (.one 5 (.one 7 (.one 8 (.one 9 (.done)))))))))))],[([0,1,0,1],[2])],false,false⟩
noncomputable def fi189:FI:=⟨codeOf Tryz.f189,[.tmp 2],.fresh,[],[],[],true,false⟩
noncomputable def fi190:FI:=⟨codeOf Tryz.f190,[.tmp 4],.inout,[([0,1,0,1,1,1],[3,4,5,26,27,28])],[],[],false,false⟩
noncomputable def fi191:FI:=⟨codeOf Tryz.f191,[.tmp 4],.inout,[([0,1,0,1,1,1],[0,1,4,5,38,39,40])],[(1,.one 0 (.one 1 (.one 2 (.one 4 (.one 5 (.one 6 (.one 7 (.one 3 (.one 8 (.one 9 (.one 10 (.done))))))))))))],[],false,false⟩
noncomputable def fi192:FI:=⟨codeOf Tryz.f192,[.tmp 4],.both,[([0,1,0,1],[0,1,4,7,8])],[],[],false,false⟩
noncomputable def fi193:FI:=⟨codeOf Tryz.f193,[.tmp 4],.inout,[],[],[],false,false⟩
noncomputable def fi194:FI:=⟨codeOf Tryz.f194,[.tmp 4],.pure,[([0,1,0,1],[0,1,4,7,8])],[],[],false,false⟩
noncomputable def fi195:FI:=⟨codeOf Tryz.f195,[.tmp 4],.pure,[([0,1,0,1],[0,1,4,7,8])],[],[],false,false⟩
noncomputable def fi196:FI:=⟨codeOf Tryz.f196,[.tmp 4],.pure,[],[],[],false,false⟩
noncomputable def fi197:FI:=⟨codeOf Tryz.f197,[.tmp 2],.pure,[],[],[],false,false⟩
noncomputable def fi198:FI:=⟨codeOf Tryz.f198,[.tmp 4],.pure,[([0,1,0,1],[0,1,4,7,8])],[],[],false,false⟩
noncomputable def fi199:FI:=⟨codeOf Tryz.f199,[.tmp 4],.pure,[([0,1,0,1],[0,1,4,7,8])],[],[],false,false⟩
noncomputable def fi211:FI:=⟨codeOf Tryz.f211,[],.inout,[],[],[],false,false⟩
noncomputable def fi212:FI:=⟨codeOf Tryz.f212,[.tmp 6],.pure,[],[],[],false,false⟩
noncomputable def fi213:FI:=⟨codeOf Tryz.f213,[.tmp 2],.pure,[],[],[],false,false⟩
noncomputable def fi214:FI:=⟨codeOf Tryz.f214,[.tmp 6],.pure,[],[],[],false,false⟩
noncomputable def fi215:FI:=⟨codeOf Tryz.f215,[.tmp 2],.pure,[],[],[],false,false⟩
noncomputable def fi216:FI:=⟨codeOf Tryz.f216,[.tmp 2],.pure,[],[],[],false,false⟩
noncomputable def fi217:FI:=⟨codeOf Tryz.f217,[.tmp 4],.inout,[([0,1,0,1,1,1],[0,1,5,6])],[],[],true,false⟩
noncomputable def fi218:FI:=⟨codeOf Tryz.f218,[.tmp 3],.pure,[],[],[],false,false⟩
noncomputable def fi219:FI:=⟨codeOf Tryz.f219,[.tmp 6,.tmp 7],.inout,[],[],[],false,false⟩
noncomputable def fi220:FI:=⟨codeOf Tryz.f220,[.cell 4 42],.pure,[],[],[],false,false⟩
noncomputable def fi221:FI:=⟨codeOf Tryz.f221,[.tmp 2],.pure,[],[],[],false,false⟩
noncomputable def fi222:FI:=⟨codeOf Tryz.f222,[.tmp 5],.pure,[],[],[],false,false⟩
noncomputable def fi223:FI:=⟨codeOf Tryz.f223,[.cell 4 110,.tmp 5],.pure,[],[(3,.one 0 (.one 3 (.one 1 (.one 2 (.one 6 (.hold 4 (.alt 5 (.one 7 (.one 8 (.one 9 (.done)))) (.keep 7 [4] (.one 5 (.one 8 (.one 9 (.done))))))))))))],[],false,false⟩
noncomputable def fi224:FI:=⟨codeOf Tryz.f224,[.tmp 2],.pure,[],[],[],false,false⟩
noncomputable def fi225:FI:=⟨codeOf Tryz.f225,[.cell 6 110],.pure,[],[(1,.one 0 (.one 1 (.one 3 (.one 5 (.one 8 (.one 11 (.one 2 (.one 4 (.one 6 (.one 9 (.one 12 (.two 7 (.two 10 (.one 13 (.one 14 (.one 15 (.done)))) 14 (.one 10 (.one 13 (.one 15 (.done))))) 14 (.one 7 (.one 10 (.one 13 (.one 15 (.done)))))))))))))))))],[],false,false⟩
noncomputable def fi226:FI:=⟨codeOf Tryz.f226,[.tmp 2],.inout,[],[(2,.one 0 (.one 1 (.one 2 (.one 4 (.one 5 (.one 6 (.one 10 (.one 11 (.one 12 (.one 17 (.one 18 (.one 19 (.one 3 (.one 7 (.one 13 (.one 20 (.one 8 (.one 9 (.one 14 (.one 15 (.one 16 (.one 21 (.one 22 (.one 23 (.done)))))))))))))))))))))))))],[],false,false⟩
noncomputable def fi227:FI:=⟨codeOf Tryz.f227,[.cell 4 110,.tmp 5],.pure,[],[(3,.one 0 (.one 2 (.one 6 (.one 8 (.one 1 (.one 3 (.one 7 (.one 9 (.two 4 (.two 5 (.one 10 (.one 11 (.one 12 (.one 13 (.done))))) 10 (.one 5 (.one 11 (.one 12 (.one 13 (.done)))))) 10 (.one 4 (.one 5 (.one 11 (.one 12 (.one 13 (.done))))))))))))))),(8,.one 0 (.one 5 (.one 1 (.one 6 (.one 2 (.one 3 (.one 4 (.one 10 (.one 7 (.one 8 (.one 9 (.one 11 (.one 12 (.one 13 (.done)))))))))))))))],[],false,false⟩
noncomputable def fi228:FI:=⟨codeOf Tryz.f228,[.tmp 8],.pure,[],[],[],false,false⟩
noncomputable def fi229:FI:=⟨codeOf Tryz.f229,[.tmp 4],.pure,[],[],[],false,false⟩
noncomputable def fi230:FI:=⟨codeOf Tryz.f230,[.tmp 10],.fresh,[([0,1,0,1,1,1],[1,4,7,8,11,12,24,25,26]),([0,1,0,1,1,1,1,1],[12,16,55,56,57])],[],[([0,1,0,1,1,1,1,1],[16])],true,false⟩
noncomputable def fi231:FI:=⟨codeOf Tryz.f231,[.tmp 4],.pure,[],[],[],false,false⟩
noncomputable def fi232:FI:=⟨codeOf Tryz.f232,[.tmp 2],.pure,[],[],[],false,false⟩
noncomputable def fi233:FI:=⟨codeOf Tryz.f233,[.tmp 2],.pure,[([0,1,0,1,1],[3,6,7,8])],[],[],false,false⟩
noncomputable def fi234:FI:=⟨codeOf Tryz.f234,[.tmp 4],.pure,[],[],[],false,false⟩
noncomputable def fi235:FI:=⟨codeOf Tryz.f235,[.tmp 2],.pure,[],[],[],false,false⟩
noncomputable def fi236:FI:=⟨codeOf Tryz.f236,[.tmp 2],.inout,[([0,1,0,1,1],[3,6,7,8])],[],[([0,1,0,1,1],[3])],false,false⟩
noncomputable def fi237:FI:=⟨codeOf Tryz.f237,[],.inout,[],[(1,.one 0 (.one 1 (.one 2 (.one 4 (.one 5 (.one 6 (.one 3 (.one 8 (.hold 7 (.keep 9 [7] (.one 10 (.one 11 (.done))))))))))))),(2,.one 0 (.one 1 (.one 2 (.one 3 (.one 4 (.one 5 (.one 6 (.one 7 (.one 8 (.one 9 (.one 10 (.done))))))))))))],[],false,false⟩
noncomputable def fi238:FI:=⟨codeOf Tryz.f238,[.tmp 8,.tmp 9],.pure,[],[(1,.one 0 (.one 1 (.one 2 (.one 4 (.one 5 (.one 6 (.one 3 (.one 7 (.one 8 (.one 9 (.one 10 (.one 11 (.one 12 (.one 13 (.done))))))))))))))),(2,.one 0 (.one 1 (.one 2 (.one 3 (.one 4 (.one 5 (.one 7 (.one 8 (.one 9 (.one 10 (.one 12 (.one 16 (.one 17 (.one 18 (.one 19 (.one 20 (.one 21 (.one 23 (.one 24 (.one 25 (.one 26 (.one 28 (.one 6 (.one 11 (.one 22 (.one 27 (.two 13 (.two 14 (.one 15 (.one 29 (.one 30 (.one 31 (.one 32 (.one 33 (.done))))))) 29 (.one 14 (.one 15 (.one 30 (.one 31 (.one 32 (.one 33 (.done)))))))) 29 (.one 13 (.one 14 (.one 15 (.one 30 (.one 31 (.one 32 (.one 33 (.done)))))))))))))))))))))))))))))))))))],[],false,false⟩
noncomputable def fi239:FI:=⟨codeOf Tryz.f239,[.tmp 6],.pure,[],[],[],false,false⟩
noncomputable def fi240:FI:=⟨codeOf Tryz.f240,[.tmp 2],.fresh,[([0,1,0,1,1],[0,3,9,10,11]),([0,1,0,1,1,1,1],[6,25,26,27])],[],[([0,1,0,1,1,1,1],[6])],true,false⟩
noncomputable def fi241:FI:=⟨codeOf Tryz.f241,[],.inout,[],[],[],false,false⟩
noncomputable def fi242:FI:=⟨codeOf Tryz.f242,[.tmp 6],.inout,[],[],[],false,false⟩
noncomputable def fi243:FI:=⟨codeOf Tryz.f243,[.tmp 4],.pure,[([0,1,0,1],[0,1,4,7,8])],[],[],false,false⟩
noncomputable def fi249:FI:=⟨codeOf Tryz.f249,[],.inout,[([0,1],[0,2,3])],[(3,.one 0 (.one 1 (.one 2 (.one 3 (.one 4 (.one 5 (.one 6 (.one 8 (.one 9 (.one 10 (.one 7 (.one 11 (.one 12 (.one 13 (.one 14 (.one 15 (.done)))))))))))))))))],[],false,false⟩
noncomputable def fi250:FI:=⟨codeOf Tryz.f250,[.tmp 2],.pure,[],[],[],false,false⟩
noncomputable def fi251:FI:=⟨codeOf Tryz.f251,[.tmp 2],.pure,[],[],[],false,false⟩
noncomputable def fi252:FI:=⟨codeOf Tryz.f252,[.tmp 8],.pure,[],[],[],false,false⟩
noncomputable def fi253:FI:=⟨codeOf Tryz.f253,[.tmp 2],.pure,[],[],[],false,false⟩
noncomputable def fi254:FI:=⟨codeOf Tryz.f254,[.tmp 5],.pure,[],[],[],false,false⟩
noncomputable def fi255:FI:=⟨codeOf Tryz.f255,[.tmp 4],.pure,[([0,1,0,1,1],[5,10,11,12])],[],[],false,false⟩
noncomputable def fi256:FI:=⟨codeOf Tryz.f256,[.tmp 4],.inout,[],[],[],true,false⟩
noncomputable def fi257:FI:=⟨codeOf Tryz.f257,[],.inout,[([0,0,1,0,1,0,0,1,1,1,1],[0,1,2,6,7,8]),([0,0,1,1],[0,1,2,6,7,8]),([0,1,1,1,1],[0,1,2,6])],[],[],false,false⟩
noncomputable def fi259:FI:=⟨codeOf Tryz.f259,[.tmp 2],.pure,[],[],[],false,false⟩
noncomputable def fi260:FI:=⟨codeOf Tryz.f260,[.tmp 2],.pure,[],[],[],false,false⟩
noncomputable def fi261:FI:=⟨codeOf Tryz.f261,[],.inout,[([0,1],[0,1,2,3,8]),([0,1,0,0,1,0,0,1],[0,1,2,3,8,9])],[(4,.one 0 (.one 1 (.one 2 (.one 3 (.one 4 (.one 5 (.one 6 (.one 7 (.one 9 (.one 10 (.one 11 (.one 12 (.one 8 (.one 13 (.one 14 (.one 15 (.one 16 (.done)))))))))))))))))),(6,.one 0 (.one 1 (.one 2 (.one 3 (.one 4 (.one 5 (.one 6 (.one 7 (.one 8 (.one 10 (.one 11 (.one 12 (.one 9 (.one 13 (.one 14 (.one 15 (.one 16 (.one 17 (.done)))))))))))))))))))],[],false,false⟩
noncomputable def fi262:FI:=⟨codeOf Tryz.f262,[],.inout,[([0,0,1,1,0,1,0],[0,1,4,10,11]),([0,0,1,1,0,1,0,1],[0,2,4,14,15]),([0,0,1,1,1,1,1,1,1],[0,1,2,3,4,18,19,20,21,22]),([0,1,0,1,1,1,0,1,0],[0,10,13]),([0,1,0,1,1,1,0,1,0,1],[0,14,17])],[(5,.one 0 (.one 1 (.one 2 (.one 3 (.one 5 (.one 6 (.one 7 (.one 4 (.one 8 (.one 9 (.one 10 (.done)))))))))))),(11,.one 0 (.one 1 (.one 2 (.one 3 (.one 4 (.one 5 (.one 6 (.one 7 (.one 8 (.one 10 (.one 11 (.one 12 (.one 9 (.one 13 (.one 14 (.one 15 (.one 16 (.one 17 (.done))))))))))))))))))),(17,.one 0 (.one 1 (.one 2 (.one 3 (.one 5 (.one 6 (.one 7 (.one 4 (.one 8 (.one 9 (.one 10 (.one 11 (.done))))))))))))),(23,.one 0 (.one 1 (.one 2 (.one 3 (.one 4 (.one 5 (.one 6 (.one 7 (.one 8 (.one 10 (.one 11 (.one 12 (.one 9 (.one 13 (.one 14 (.one 15 (.one 16 (.one 17 (.done))))))))))))))))))),(35,.one 0 (.one 1 (.one 2 (.one 3 (.one 4 (.one 5 (.one 7 (.one 8 (.one 9 (.one 6 (.one 10 (.one 11 (.one 12 (.one 13 (.done)))))))))))))))],[],false,false⟩
noncomputable def fi263:FI:=⟨codeOf Tryz.f263,[],.inout,[([0,0,1,1],[0,2,4,10,11])],[],[],false,false⟩
noncomputable def fi264:FI:=⟨codeOf Tryz.f264,[],.inout,[([0,1],[0,1,2,3,10])],[(3,.one 0 (.one 1 (.one 2 (.one 3 (.one 4 (.one 5 (.one 6 (.one 7 (.one 8 (.one 9 (.one 10 (.one 11 (.one 12 (.one 14 (.one 15 (.one 16 (.one 17 (.one 18 (.one 13 (.one 19 (.one 20 (.one 21 (.one 22 (.one 23 (.done)))))))))))))))))))))))))],[],false,false⟩
noncomputable def fns:Tr (Option FI):=
 (.n (.n (.n (.n (.n (.n (.n (.n (.n .z (some fi255) .z) (some fi127) .z) (some fi63) (.n .z (some fi191) .z)) (some fi31) (.n (.n .z (some fi159) .z) (some fi95) (.n .z (some
 fi223) .z))) (some fi15) (.n (.n (.n (.n .z none .z) (some fi143) .z) (some fi79) (.n .z none .z)) (some fi47) (.n (.n .z (some fi175) .z) (some fi111) (.n .z (some fi239)
 .z)))) (some fi7) (.n (.n (.n (.n (.n .z (some fi263) .z) (some fi135) .z) (some fi71) (.n .z (some fi199) .z)) (some fi39) (.n (.n .z (some fi167) .z) (some fi103) (.n .z (some
 fi231) .z))) (some fi23) (.n (.n (.n (.n .z none .z) (some fi151) .z) (some fi87) (.n .z (some fi215) .z)) (some fi55) (.n (.n .z (some fi183) .z) (some fi119) (.n .z none
 .z))))) (some fi3) (.n (.n (.n (.n (.n (.n .z (some fi259) .z) (some fi131) .z) (some fi67) (.n .z (some fi195) .z)) (some fi35) (.n (.n .z (some fi163) .z) (some fi99) (.n .z
 (some fi227) .z))) (some fi19) (.n (.n (.n (.n .z none .z) (some fi147) .z) (some fi83) (.n .z (some fi211) .z)) (some fi51) (.n (.n .z (some fi179) .z) (some fi115) (.n .z (some
 fi243) .z)))) (some fi11) (.n (.n (.n (.n (.n .z none .z) (some fi139) .z) (some fi75) (.n .z none .z)) (some fi43) (.n (.n .z (some fi171) .z) (some fi107) (.n .z (some
 fi235) .z))) (some fi27) (.n (.n (.n .z none .z) (some fi91) (.n .z (some fi219) .z)) (some fi59) (.n (.n .z (some fi187) .z) (some fi123) (.n .z (some fi251) .z)))))) none
 (.n (.n (.n (.n (.n (.n (.n .z (some fi257) .z) (some fi129) .z) (some fi65) (.n .z (some fi193) .z)) (some fi33) (.n (.n .z (some fi161) .z) (some fi97) (.n .z (some fi225) .z)))
 (some fi17) (.n (.n (.n (.n .z none .z) (some fi145) .z) (some fi81) (.n .z none .z)) none (.n (.n .z (some fi177) .z) (some fi113) (.n .z (some fi241) .z)))) (some fi9)
 (.n (.n (.n (.n (.n .z none .z) (some fi137) .z) (some fi73) (.n .z none .z)) (some fi41) (.n (.n .z (some fi169) .z) (some fi105) (.n .z (some fi233) .z))) (some fi25) (.n
 (.n (.n (.n .z none .z) (some fi153) .z) (some fi89) (.n .z (some fi217) .z)) (some fi57) (.n (.n .z (some fi185) .z) (some fi121) (.n .z (some fi249) .z))))) (some fi5) (.n (.n
 (.n (.n (.n (.n .z (some fi261) .z) (some fi133) .z) (some fi69) (.n .z (some fi197) .z)) (some fi37) (.n (.n .z (some fi165) .z) (some fi101) (.n .z (some fi229) .z))) (some fi21)
 (.n (.n (.n (.n .z none .z) (some fi149) .z) (some fi85) (.n .z (some fi213) .z)) (some fi53) (.n (.n .z (some fi181) .z) (some fi117) (.n .z none .z)))) (some fi13) (.n
 (.n (.n (.n (.n .z none .z) (some fi141) .z) (some fi77) (.n .z none .z)) (some fi45) (.n (.n .z (some fi173) .z) (some fi109) (.n .z (some fi237) .z))) (some fi29) (.n (.n
 (.n .z none .z) none (.n .z (some fi221) .z)) (some fi61) (.n (.n .z (some fi189) .z) (some fi125) (.n .z (some fi253) .z))))))) none (.n (.n (.n (.n (.n (.n (.n (.n
 .z (some fi256) .z) (some fi128) .z) (some fi64) (.n .z (some fi192) .z)) (some fi32) (.n (.n .z none .z) (some fi96) (.n .z (some fi224) .z))) (some fi16) (.n (.n (.n (.n .z none
 .z) (some fi144) .z) (some fi80) (.n .z none .z)) (some fi48) (.n (.n .z (some fi176) .z) (some fi112) (.n .z (some fi240) .z)))) (some fi8) (.n (.n (.n (.n (.n .z (some
 fi264) .z) (some fi136) .z) (some fi72) (.n .z none .z)) (some fi40) (.n (.n .z (some fi168) .z) (some fi104) (.n .z (some fi232) .z))) (some fi24) (.n (.n (.n (.n .z none
 .z) (some fi152) .z) (some fi88) (.n .z (some fi216) .z)) (some fi56) (.n (.n .z (some fi184) .z) (some fi120) (.n .z none .z))))) (some fi4) (.n (.n (.n (.n (.n (.n .z
 (some fi260) .z) (some fi132) .z) (some fi68) (.n .z (some fi196) .z)) (some fi36) (.n (.n .z (some fi164) .z) none (.n .z (some fi228) .z))) (some fi20) (.n (.n (.n (.n .z none
 .z) (some fi148) .z) (some fi84) (.n .z (some fi212) .z)) (some fi52) (.n (.n .z (some fi180) .z) (some fi116) (.n .z none .z)))) (some fi12) (.n (.n (.n (.n (.n .z none
 .z) (some fi140) .z) (some fi76) (.n .z none .z)) none (.n (.n .z (some fi172) .z) (some fi108) (.n .z (some fi236) .z))) (some fi28) (.n (.n (.n .z none .z) none (.n .z (some fi220) .z)) (some fi60) (.n (.n .z (some fi188) .z) (some fi124) (.n .z (some fi252) .z)))))) none (.n (.n (.n (.n (.n (.n (.n .z none .z) (some fi130)
 .z) (some fi66) (.n .z (some fi194) .z)) (some fi34) (.n (.n .z none .z) (some fi98) (.n .z (some fi226) .z))) (some fi18) (.n (.n (.n (.n .z none .z) (some fi146) .z) (some fi82)
 (.n .z none .z)) (some fi50) (.n (.n .z (some fi178) .z) (some fi114) (.n .z (some fi242) .z)))) (some fi10) (.n (.n (.n (.n (.n .z none .z) (some fi138) .z) (some fi74)
 (.n .z none .z)) (some fi42) (.n (.n .z (some fi170) .z) (some fi106) (.n .z (some fi234) .z))) (some fi26) (.n (.n (.n (.n .z none .z) (some fi154) .z) (some fi90) (.n .z
 (some fi218) .z)) (some fi58) (.n (.n .z (some fi186) .z) (some fi122) (.n .z (some fi250) .z))))) (some fi6) (.n (.n (.n (.n (.n (.n .z (some fi262) .z) (some fi134) .z) (some
 fi70) (.n .z (some fi198) .z)) (some fi38) (.n (.n .z (some fi166) .z) (some fi102) (.n .z (some fi230) .z))) (some fi22) (.n (.n (.n (.n .z none .z) (some fi150) .z) (some fi86)
 (.n .z (some fi214) .z)) (some fi54) (.n (.n .z (some fi182) .z) (some fi118) (.n .z none .z)))) (some fi14) (.n (.n (.n (.n (.n .z none .z) (some fi142) .z) (some fi78)
 (.n .z none .z)) (some fi46) (.n (.n .z (some fi174) .z) (some fi110) (.n .z (some fi238) .z))) (some fi30) (.n (.n (.n .z (some fi158) .z) (some fi94) (.n .z (some fi222)
 .z)) (some fi62) (.n (.n .z (some fi190) .z) (some fi126) (.n .z (some fi254) .z))))))))
noncomputable def cx:Cx:=⟨tis,fns,[(162,.overlaps 73),(44,.keys [158,94]),(160,.twin),(49,.twin)],[(63,70),(257,33),(198,82),(170,8),(170,28)],[]⟩
end Go.Eva.S9
namespace Go.Eva.S9
abbrev peerC:V:= .t (.agg [ti 2,ti 1,ti 3,ti 4,.int .u64 0])
def peer0:Heap:= [.one 11 (.agg [.ptr 1 0 0,vi 2,vi 1,vi 3,vi 4,.t (.int .u64 0),vi 0,.all 2 none,.map 3,vi (-1),vi 0]) false,.one 11 (.agg [.ptr 4 0 0,vi 2,vi 1,vi 3,vi 4,.t (.int .u64 0),.ptr 5 0 0,.map 6,vi 0,vi 9223372036854775807,vi 0]) false,.vec 8 [.nilp,.nilp,.nilp] [(2,.agg [vi 0,.ptr 7 0 0,vi 0,.t (.sl 1 [ti (-1),ti (-1)]),.fit 1 [],.all 8 none,vb false,vi 0]),(1,.agg [vi 0,.ptr 9 0 0,vi 0,.t (.sl 1 [ti (-1),ti (-1)]),.fit 1 [],.all 10 none,vb false,vi 0]),(0,.agg [vi 0,.ptr 11 0 0,vi 0,.t (.sl 1 [ti (-1),ti (-1)]),.fit 1 [],.all 12 none,vb false,vi 0])],.map [] [] [],.one 1 (.agg [.all 13 none]) false,.one 1 (.agg [.all 14 none]) false,.map [ti 0] [.nilp] [(0,.ptr 15 0 0)],.one 2 (.t (.agg [ti 0,.int .u64 0])) false,.arr 1 [ti 0,ti 0,ti 0] (some 0) false,.one 2 (.t (.agg [ti 0,.int .u64 0])) false,.arr 1 [ti 0,ti 0,ti 0] (some 0) false,.one 2 (.t (.agg [ti 0,.int .u64 0])) false,.arr 1 [ti 0,ti 0,ti 0] (some 0) false,.arr 3 [.agg [.sl 3 [],ti 0,.bool false],.agg [.sl 3 [],ti 0,.bool false],.agg [.sl 3 [],ti 0,.bool false]] (some 0) false,.vec 1 [.nilm,.nilm] [(1,.map 16),(0,.map 17)],.one 10 (.agg [vi 0,.t (.sl 9 [.agg [ti 1,ti 1,ti 512,ti 512,ti 0,ti 0,ti 100,ti 0,ti 0],.agg [ti 3,ti 1,ti 512,ti 512,ti 0,ti 0,ti 100,ti 0,ti 0]]),.all 18 none,.fit 1 [],.fit 1 [],vb true,vi 0,.all 19 none,vi 0,vi 0]) false,.map [] [] [],.map [] [] [],.arr 15 [] none true,.arr 15 [] none false]
theorem AdQ:Is cx (.call 4 [peerC,vi 0] []) ⟨.ret,[.ptr 0 0 0,vi 0],peer0⟩:=Aek (n:=60) (by kernel_rfl)
theorem Adw:Is cx (.call 4 [peerC,vi 3] []) ⟨.ret,[.t .nilp,vi 12],[]⟩:=Aek (n:=60) (by kernel_rfl)
end Go.Eva.S9
namespace Go.Eva.S9
theorem Ab5:Is cx (.call 5 [] []) ⟨.ret,[vb true],[]⟩:=Aek (n:=60) (by kernel_rfl)
end Go.Eva.S9
namespace Go.Eva.S9
abbrev peerAns (k u what:Int):List Stp:= [.a (.call 4 [peerC,vi 0] []) ⟨.ret,[.ptr 0 0 0,vi 0],peer0⟩,.a (.call 4 [peerC,vi 3] []) ⟨.ret,[.t .nilp,vi 12],[]⟩,.a (.call 5 [] []) ⟨.ret,[vb true],[]⟩,.ff,.ff,.ff,.ff,.ff,.ff,.ff,.ff,.ff,.ff,.ff,.ff,.ff,.i .u64 what u,.w ((12:Int)≠0),.t (.int .u64 (u.tmod 12)) (.int .u64 k)]
theorem peerStep {k u what:Int} (hu:IntKind.u64.wrap what=u) (hk:u.tmod 12=k) (h:Wp cx (nxs (body cx (.call 3 [vi what] [])) (anL (peerAns k u what))) (· =⟨.ret,[vb true],[]⟩)):
  Is cx (.call 3 [vi what] []) ⟨.ret,[vb true],[]⟩:=
 Wp.ev (gg (peerAns k u what) ⟨o_a AdQ,o_a Adw,o_a Ab5,hu,(by decide:(12:Int)≠0),congrArg (T.int .u64) hk,trivial⟩ h)
theorem peerU (what:Int):0≤(IntKind.u64.wrap what).tmod 12∧(IntKind.u64.wrap what).tmod 12<12:=by
 have h64:IntKind.u64.wrap what=what%18446744073709551616:=by simp [zp,IntKind.bits,IntKind.signed]
 rw [h64,Int.tmod_eq_emod_of_nonneg (by omega)]
 omega
theorem peerCase0 {what u:Int} (hu:IntKind.u64.wrap what=u) (hk:u.tmod 12=0):Is cx (.call 3 [vi what] []) ⟨.ret,[vb true],[]⟩:=peerStep hu hk (Wp.runK (kn:= []) 60 trivial)
theorem peerCase1 {what u:Int} (hu:IntKind.u64.wrap what=u) (hk:u.tmod 12=1):Is cx (.call 3 [vi what] []) ⟨.ret,[vb true],[]⟩:=peerStep hu hk (Wp.runK (kn:= []) 60 trivial)
theorem peerCase2 {what u:Int} (hu:IntKind.u64.wrap what=u) (hk:u.tmod 12=2):Is cx (.call 3 [vi what] []) ⟨.ret,[vb true],[]⟩:=peerStep hu hk (Wp.runK (kn:= []) 60 trivial)
theorem peerCase3 {what u:Int} (hu:IntKind.u64.wrap what=u) (hk:u.tmod 12=3):Is cx (.call 3 [vi what] []) ⟨.ret,[vb true],[]⟩:=peerStep hu hk (Wp.runK (kn:= []) 60 trivial)
theorem peerCase4 {what u:Int} (hu:IntKind.u64.wrap what=u) (hk:u.tmod 12=4):Is cx (.call 3 [vi what] []) ⟨.ret,[vb true],[]⟩:=peerStep hu hk (Wp.runK (kn:= []) 60 trivial)
theorem peerCase5 {what u:Int} (hu:IntKind.u64.wrap what=u) (hk:u.tmod 12=5):Is cx (.call 3 [vi what] []) ⟨.ret,[vb true],[]⟩:=peerStep hu hk (Wp.runK (kn:= []) 60 trivial)
theorem peerCase6 {what u:Int} (hu:IntKind.u64.wrap what=u) (hk:u.tmod 12=6):Is cx (.call 3 [vi what] []) ⟨.ret,[vb true],[]⟩:=peerStep hu hk (Wp.runK (kn:= []) 60 trivial)
theorem peerCase7 {what u:Int} (hu:IntKind.u64.wrap what=u) (hk:u.tmod 12=7):Is cx (.call 3 [vi what] []) ⟨.ret,[vb true],[]⟩:=peerStep hu hk (Wp.runK (kn:= []) 60 trivial)
theorem peerCase8 {what u:Int} (hu:IntKind.u64.wrap what=u) (hk:u.tmod 12=8):Is cx (.call 3 [vi what] []) ⟨.ret,[vb true],[]⟩:=peerStep hu hk (Wp.runK (kn:= []) 60 trivial)
theorem peerCase9 {what u:Int} (hu:IntKind.u64.wrap what=u) (hk:u.tmod 12=9):Is cx (.call 3 [vi what] []) ⟨.ret,[vb true],[]⟩:=peerStep hu hk (Wp.runK (kn:= []) 60 trivial)
theorem peerCase10 {what u:Int} (hu:IntKind.u64.wrap what=u) (hk:u.tmod 12=10):Is cx (.call 3 [vi what] []) ⟨.ret,[vb true],[]⟩:=peerStep hu hk (Wp.runK (kn:= []) 60 trivial)
theorem peerCase11 {what u:Int} (hu:IntKind.u64.wrap what=u) (hk:u.tmod 12=11):Is cx (.call 3 [vi what] []) ⟨.ret,[vb true],[]⟩:=peerStep hu hk (Wp.runK (kn:= []) 60 trivial)
theorem AaK (what:Int):Is cx (.call 3 [vi what] []) ⟨.ret,[vb true],[]⟩:=by
 obtain ⟨h0,h1⟩:=peerU what
 generalize hu:IntKind.u64.wrap what=u at h0 h1
 generalize hk:u.tmod 12=k at h0 h1
 have:k=0∨k=1∨k=2∨k=3∨k=4∨k=5∨k=6∨k=7∨k=8∨k=9∨k=10∨k=11:=by omega
 rcases this with rfl|rfl|rfl|rfl|rfl|rfl|rfl|rfl|rfl|rfl|rfl|rfl
 ·exact peerCase0 hu hk
 ·exact peerCase1 hu hk
 ·exact peerCase2 hu hk
 ·exact peerCase3 hu hk
 ·exact peerCase4 hu hk
 ·exact peerCase5 hu hk
 ·exact peerCase6 hu hk
 ·exact peerCase7 hu hk
 ·exact peerCase8 hu hk
 ·exact peerCase9 hu hk
 ·exact peerCase10 hu hk
 ·exact peerCase11 hu hk
end Go.Eva.S9
namespace Go.Eva
open Go.RowKit Go.Maps Go.Sort Go.Shelf Go.Proofs
theorem Acr (n:Int): ∀l:List Int,(insI n l).Perm (n::l)
 | []=> .refl _
 |m::r=>by
  unfold insI
  split
  ·exact .refl _
  ·exact ((Acr n r).cons m).trans (.swap _ _ _)
theorem AbI: ∀l:List Int,(sortI l).Perm l
 | []=> .refl _
 |n::r=>(Acr n _).trans ((AbI r).cons n)
theorem Aco (n:Int): ∀ {l:List Int},l.Pairwise (· ≤ ·)→(insI n l).Pairwise (· ≤ ·)
 | [],_=>by simp [insI]
 |m::r,h=>by
  unfold insI
  have h':=List.pairwise_cons.1 h
  split
  ·rename_i hd
   have hd:=of_decide_eq_true hd
   exact List.pairwise_cons.2 ⟨fun x hx=>by
    rcases List.mem_cons.1 hx with rfl|hx
    ·exact hd
    ·have:=h'.1 x hx;omega,h⟩
  ·rename_i hd
   have hd:=of_decide_eq_false hd
   refine List.pairwise_cons.2 ⟨fun x hx=> ?_,Aco n h'.2⟩
   rcases List.mem_cons.1 ((Acr n r).mem_iff.1 hx) with rfl|hx
   ·omega
   ·exact h'.1 x hx
theorem AbR: ∀l:List Int,(sortI l).Pairwise (· ≤ ·)
 | []=> .nil
 |n::r=>Aco n (AbR r)
theorem Ags {l m:List Int} (h:l.Perm m) (hs:m.Pairwise (· ≤ ·)):sortI l=m:=
 List.Perm.eq_of_pairwise (le:=fun a b:Int=>a≤b) (fun a b _ _ h1 h2=>by omega) (AbR l) hs ((AbI l).trans h)
theorem Aej {l m:List Int} (h:l.Perm m):l.mergeSort (fun x y=>decide (x≤y))=sortI m:=by
 refine (Ags ((List.mergeSort_perm l _).trans h).symm ?_).symm
 have tr: ∀a b c:Int,decide (a≤b)=true→decide (b≤c)=true→decide (a≤c)=true:=fun a b c h1 h2=>by simp only [decide_eq_true_eq] at*;omega
 have to: ∀a b:Int,(decide (a≤b)||decide (b≤a))=true:=fun a b=>by simp only [Bool.or_eq_true,decide_eq_true_eq];omega
 exact (List.pairwise_mergeSort tr to l).imp fun h=>by simpa using h
theorem AeA {n:Int}: ∀ {l:List Int},newI n l=true→n∉l
 | [],_=>by simp
 |m::r,h=>by
  unfold newI at h
  split at h
  ·contradiction
  ·rename_i hn
   simp only [List.mem_cons,not_or]
   exact ⟨by simpa using hn,AeA h⟩
theorem Acv: ∀ {l:List Int},goodI l=true→l.Nodup∧ ∀n∈l,-9223372036854775808≤n∧n≤9223372036854775807
 | [],_=>⟨.nil,by simp⟩
 |n::r,h=>by
  simp only [goodI,Bool.and_eq_true,decide_eq_true_eq] at h
  obtain ⟨⟨⟨h1,h2⟩,h3⟩,h4⟩:=h
  obtain ⟨h5,h6⟩:=Acv h4
  refine ⟨List.nodup_cons.2 ⟨AeA h3,h5⟩,fun x hx=> ?_⟩
  rcases List.mem_cons.1 hx with rfl|hx
  ·exact ⟨h1,h2⟩
  ·exact h6 x hx
theorem Ad3 {P:Program} {cx:Cx} {ρ ρ' ρ'':Ren} (K:SlLaysZI.n10 P ρ) (L:SlLaysZI.n6 P ρ') (Y:SlLaysM.n5 P ρ'') (h5:ρ''.f 5=ρ'.f 9) {f g:Nat} (hf:ρ'.f 6=f) (hg:ρ.f 10=g):ExOK P cx f (.keys [g]):=by
 subst hf hg
 refine ⟨L.f6.enters rfl,fun g' hg' w Bm b es clock zs hcell hb he hsz hkey hgood hmax=> ?_⟩
 obtain rfl:=List.mem_singleton.1 hg'
 obtain ⟨hnd,hrg⟩:=Acv hgood
 let R:Value→Option (DataW Unit×List MemPlace):=fun _=>some (.nil,[])
 have hrd: ∀x∈es.toList,∃z∈zs,x.key= .int .i64 z∧WideElems.rd P (ρ.t 26) R x=some (.int .i64 z,.nil):=by
  intro x hx
  obtain ⟨i,hi,rfl⟩:=List.mem_iff_getElem.1 hx
  have hi':i<es.size:=by simpa using hi
  have hx:es[i]?=some es.toList[i]:=by rw [Array.getElem?_eq_getElem hi'];simp
  have hz:zs[i]?=some (zs[i]'(by omega)):=List.getElem?_eq_getElem _
  have hk:=hkey i _ _ hz hx
  have hm:zs[i]'(by omega)∈zs:=List.getElem_mem _
  refine ⟨_,hm,hk,?_⟩
  have:=hrg _ hm
  have hw:(Lit.int .i64 (zs[i]'(by omega))).wf=true:=by simp [Lit.wf,IntKind.min,IntKind.max,IntKind.bits,IntKind.signed];omega
  unfold WideElems.rd keyOf mapKey
  rw [K.t26,hk]
  simp [hw,R]
 have hkeys:es.toList.map (fun x=>x.key)=zs.map (.int .i64):=by
  refine List.ext_getElem? fun i=> ?_
  simp only [List.getElem?_map,Array.getElem?_toList]
  by_cases hi:i<es.size
  ·have hz:zs[i]?=some (zs[i]'(by omega)):=List.getElem?_eq_getElem _
   have hx:es[i]?=some es[i]:=Array.getElem?_eq_getElem hi
   rw [hz,hx]
   simp [hkey i _ _ hz hx]
  ·rw [Array.getElem?_eq_none (by omega),List.getElem?_eq_none (by omega)]
   rfl
 have hfit:WideElems.Fit P (ρ.t 26) R es clock:=by
  refine ⟨by unfold maxLen;omega,⟨fun x hx=> ?_,?_,?_⟩,fun x hx=> ?_⟩
  ·obtain ⟨i,hi,rfl⟩:=List.mem_iff_getElem.1 hx
   exact he.1 i _ (by rw [←Array.getElem?_toList];exact List.getElem?_eq_getElem hi)
  ·refine List.pairwise_iff_getElem.2 fun i j hi hj hij e=> ?_
   simp only [List.getElem_map] at e
   simp only [List.length_map] at hi hj
   have:=he.2 i j _ _ (by rw [←Array.getElem?_toList];exact List.getElem?_eq_getElem hi) (by rw [←Array.getElem?_toList];exact List.getElem?_eq_getElem hj) e
   omega
  ·rw [hkeys]
   exact List.pairwise_map.2 (hnd.imp fun h e=>h (by simpa using e))
  ·obtain ⟨z,_,_,h⟩:=hrd x hx
   exact ⟨_,h⟩
 have hown:w.ownsMap P (ρ.t 26) R b es.size (.map ((es.toList.map (WideElems.rg P (ρ.t 26) R)).foldr DataW.insert [])):=⟨es,clock,hb,hfit,Nat.le_refl _,rfl⟩
 have hint:(intKeys (.map ((es.toList.map (WideElems.rg P (ρ.t 26) R)).foldr DataW.insert []))).Perm zs:=by
  refine ((WideShapes.sorted_perm _).map _).trans ?_
  rw [List.map_map]
  have:es.toList.map ((fun p:Lit×DataW Unit=>intOf p.1)∘WideElems.rg P (ρ.t 26) R)=zs:=by
   have h2:es.toList.map ((fun p:Lit×DataW Unit=>intOf p.1)∘WideElems.rg P (ρ.t 26) R)=(es.toList.map (fun x=>x.key)).map fun v=>match v with| .int _ n=>n|_=>0:=by
    rw [List.map_map]
    refine List.map_congr_left fun x hx=> ?_
    obtain ⟨z,_,h1,h2⟩:=hrd x hx
    simp [WideElems.rg,h2,h1,intOf]
   rw [h2,hkeys,List.map_map]
   simp [Function.comp_def]
  rw [this]
 have hsize:Maps.size (.map ((es.toList.map (WideElems.rg P (ρ.t 26) R)).foldr DataW.insert []))=es.size:=by
  simp only [Maps.size]
  rw [length_sorted]
  simp
 refine (callsIn_wide (n:=6)).1 ?_
 have hBm:Bm<w.heap.size:=by
  refine Nat.lt_of_not_le fun h=> ?_
  simp [World.cell?,Array.getElem?_eq_none h] at hcell
 have hseq:=AnyZI.keys_gives K Fence.wide 3 trivial rfl (by omega) Bm b es.size _ w hBm hcell hown
 have hsort:AnyZI.SortsIn P ρ' Fence.wide 5:=⟨fun blk off cap ss W hH hblk hs=>callsIn_wide.2 (by rw [←h5];exact AnyM.slices_Sort_int Y blk off cap ss W hH hblk hs),fun p cap W=>callsIn_wide.2 (by rw [←h5];exact AnyM.slices_Sort_int_none Y p cap W)⟩
 have e9:Enters P (ρ'.f 9):=by rw [←h5];exact Y.f5.enters rfl
 have cS:=AnyZI.sorted_in L Fence.wide 6 trivial trivial trivial trivial rfl (by omega) hsort e9 (ρ.f 10) #[.pointer (some ⟨Bm,0,none⟩)] trivial (K.f10.enters rfl) _ _ (by rw [hsize];unfold maxLen;omega) (by rw [hsize];omega) w hseq
 refine cS.mono ?_
 rintro e w' ⟨v,ss,rfl,hS,hrow,_,hbl⟩
 refine ⟨v,rfl,?_,hbl⟩
 rw [Aej (hS.trans hint)] at hrow
 have hlen:(sortI zs).length=ss.length:=(AbI zs).length_eq.trans (hS.trans hint).length_eq.symm
 obtain ⟨hl,hrow⟩:=hrow
 rcases hrow with ⟨rfl,h0⟩|⟨gb,cap,cur,rfl,h1,h2,h3,h4,h6,h7⟩
 ·rw [List.eq_nil_of_length_eq_zero (show (sortI zs).length=0 by omega)]
  exact .slN _ _ _
 ·by_cases hn:sortI zs= []
  ·rw [hn] at hlen⊢
   rw [←hlen]
   exact .slN _ _ _
  rw [←hlen,show (sortI zs).length=((sortI zs).map (T.int .i64)).length by simp]
  refine .slC 1 _ gb 0 cap (fun i _=> .int .i64 ((sortI zs).getD i 0)) (by simpa using hn) (by simp;omega) ⟨h1,(Array.getElem?_eq_some_iff.1 h2).1⟩ ?_ ?_ ?_
  ·intro i j hi hj
   simp only [List.length_map] at hi
   refine ⟨?_,rfl⟩
   obtain rfl:j=0:=by omega
   have hc:cur[i]?=some (.int .i64 ((sortI zs).getD i 0)):=by
    have:=congrArg (·[i]?) h7
    simp only [List.getElem?_map] at this
    rw [List.getElem?_take_of_lt (by omega),Array.getElem?_toList] at this
    rw [this,List.getElem?_eq_getElem hi]
    simp [List.getD,List.getElem?_eq_getElem hi]
   simp [World.cell?,h2,hc]
  ·intro i x hx _
   simp only [List.getElem?_map] at hx
   obtain ⟨z,_,rfl⟩:=Option.map_eq_some_iff.1 hx
   rfl
  ·intro i j x t hx _ ht
   simp only [List.getElem?_map] at hx
   obtain ⟨z,hz,rfl⟩:=Option.map_eq_some_iff.1 hx
   match j,ht with
   |0,ht=>
    simp [T.cells] at ht
    subst ht
    simp only [List.getD,hz]
    exact .int _ _
   |j+1,ht=>simp [T.cells] at ht
theorem Ad1 {P:Program} {cx:Cx} {ρ:Ren} (L:SlLaysW.n5 P ρ) {f:Nat} (hf:ρ.f 5=f):ExOK P cx f .twin:=by
 subst hf
 exact ⟨L.f5.enters rfl,AnyW.maps_Clone_nil L,fun w b es clock h=>AnyW.maps_Clone L b es clock w h⟩
theorem AfQ {P:Program} {cx:Cx} {f:Nat} {a b:List Nat} (h1:ExOK P cx f (.keys a)) (h2:ExOK P cx f (.keys b)):ExOK P cx f (.keys (a++b)):=
 ⟨h1.1,fun g hg=>(List.mem_append.1 hg).elim (h1.2 g) (h2.2 g)⟩
end Go.Eva
namespace Go.Eva.S9
open Go.Proofs Go.Shelf
def keysRen:Ren:=⟨fun|7=>95|10=>158|n=>n,fun|23=>103|26=>3|3=>119|28=>94|0=>0|27=>93|33=>48|4=>4|n=>n,fun n=>n⟩
theorem keysLay:SlLaysZI.n10 Tryz.prog keysRen where
 mixed:=by kernel_rfl
 f10:=⟨Tryz.f158.name,of_decide_eq_true (by kernel_rfl),Tryz.func158.trans (congrArg some (by kernel_rfl))⟩
 t0:=Tryz.underlying0
 a0:=Tryz.isAgg0
 z0:=Tryz.sizeOf0
 v0:=Tryz.zeroValue0
 t4:=Tryz.underlying4
 a4:=Tryz.isAgg4
 z4:=Tryz.sizeOf4
 v4:=Tryz.zeroValue4
 t23:=Tryz.underlying103
 a23:=Tryz.isAgg103
 z23:=Tryz.sizeOf103
 v23:=Tryz.zeroValue103
 t26:=Tryz.underlying3
 a26:=Tryz.isAgg3
 z26:=Tryz.sizeOf3
 v26:=Tryz.zeroValue3
 t33:=Tryz.underlying48
 a33:=Tryz.isAgg48
 z33:=Tryz.sizeOf48
 v33:=Tryz.zeroValue48
def keysBRen:Ren:=⟨fun|7=>45|10=>94|n=>n,fun|23=>62|26=>3|3=>4|28=>94|0=>0|27=>93|33=>48|4=>4|n=>n,fun n=>n⟩
theorem keysBLay:SlLaysZI.n10 Tryz.prog keysBRen where
 mixed:=by kernel_rfl
 f10:=⟨Tryz.f94.name,of_decide_eq_true (by kernel_rfl),Tryz.func94.trans (congrArg some (by kernel_rfl))⟩
 t0:=Tryz.underlying0
 a0:=Tryz.isAgg0
 z0:=Tryz.sizeOf0
 v0:=Tryz.zeroValue0
 t4:=Tryz.underlying4
 a4:=Tryz.isAgg4
 z4:=Tryz.sizeOf4
 v4:=Tryz.zeroValue4
 t23:=Tryz.underlying62
 a23:=Tryz.isAgg62
 z23:=Tryz.sizeOf62
 v23:=Tryz.zeroValue62
 t26:=Tryz.underlying3
 a26:=Tryz.isAgg3
 z26:=Tryz.sizeOf3
 v26:=Tryz.zeroValue3
 t33:=Tryz.underlying48
 a33:=Tryz.isAgg48
 z33:=Tryz.sizeOf48
 v33:=Tryz.zeroValue48
def sortedRen:Ren:=⟨fun|6=>44|8=>92|9=>93|11=>155|13=>157|12=>156|23=>209|24=>210|14=>200|15=>201|16=>202|17=>203|18=>204|19=>205|20=>206|21=>207|22=>208|25=>244|26=>245|27=>246|28=>247|29=>248|30=>131|31=>258|n=>n,fun|26=>3|28=>94|24=>30|0=>0|3=>3|37=>37|48=>181|50=>22|4=>4|40=>274|39=>273|45=>277|5=>5|9=>9|51=>299|55=>303|57=>309|58=>106|33=>48|n=>n,fun n=>n⟩
theorem sortedLay:SlLaysZI.n6 Tryz.prog sortedRen where
 mixed:=by kernel_rfl
 f6:=⟨Tryz.f44.name,of_decide_eq_true (by kernel_rfl),Tryz.func44.trans (congrArg some (by kernel_rfl))⟩
 f8:=⟨Tryz.f92.name,of_decide_eq_true (by kernel_rfl),Tryz.func92.trans (congrArg some (by kernel_rfl))⟩
 f11:=⟨Tryz.f155.name,of_decide_eq_true (by kernel_rfl),Tryz.func155.trans (congrArg some (by kernel_rfl))⟩
 t0:=Tryz.underlying0
 a0:=Tryz.isAgg0
 z0:=Tryz.sizeOf0
 v0:=Tryz.zeroValue0
 t24:=Tryz.underlying30
 a24:=Tryz.isAgg30
 z24:=Tryz.sizeOf30
 v24:=Tryz.zeroValue30
 t26:=Tryz.underlying3
 a26:=Tryz.isAgg3
 z26:=Tryz.sizeOf3
 v26:=Tryz.zeroValue3
 t28:=Tryz.underlying94
 a28:=Tryz.isAgg94
 z28:=Tryz.sizeOf94
 v28:=Tryz.zeroValue94
 i26:=by kernel_rfl
def sortRen:Ren:=⟨fun|5=>93|8=>157|7=>156|19=>209|20=>210|10=>200|11=>201|12=>202|13=>203|14=>204|15=>205|16=>206|17=>207|18=>208|30=>244|31=>245|32=>246|33=>247|34=>248|35=>131|40=>258|n=>n,fun|23=>30|25=>3|3=>3|32=>37|22=>30|0=>0|44=>181|46=>22|4=>4|36=>274|35=>273|41=>277|5=>5|9=>9|53=>299|57=>303|63=>309|64=>106|n=>n,fun n=>n⟩
theorem sortLay:SlLaysM.n5 Tryz.prog sortRen where
 mixed:=by kernel_rfl
 f5:=⟨Tryz.f93.name,of_decide_eq_true (by kernel_rfl),Tryz.func93.trans (congrArg some (by kernel_rfl))⟩
 f7:=⟨Tryz.f156.name,of_decide_eq_true (by kernel_rfl),Tryz.func156.trans (congrArg some (by kernel_rfl))⟩
 f8:=Tryz.func157.trans (congrArg some (by kernel_rfl))
 f10:=⟨Tryz.f200.name,of_decide_eq_true (by kernel_rfl),Tryz.func200.trans (congrArg some (by kernel_rfl))⟩
 f11:=⟨Tryz.f201.name,of_decide_eq_true (by kernel_rfl),Tryz.func201.trans (congrArg some (by kernel_rfl))⟩
 f12:=⟨Tryz.f202.name,of_decide_eq_true (by kernel_rfl),Tryz.func202.trans (congrArg some (by kernel_rfl))⟩
 f13:=⟨Tryz.f203.name,of_decide_eq_true (by kernel_rfl),Tryz.func203.trans (congrArg some (by kernel_rfl))⟩
 f14:=⟨Tryz.f204.name,of_decide_eq_true (by kernel_rfl),Tryz.func204.trans (congrArg some (by kernel_rfl))⟩
 f15:=⟨Tryz.f205.name,of_decide_eq_true (by kernel_rfl),Tryz.func205.trans (congrArg some (by kernel_rfl))⟩
 f16:=⟨Tryz.f206.name,of_decide_eq_true (by kernel_rfl),Tryz.func206.trans (congrArg some (by kernel_rfl))⟩
 f17:=⟨Tryz.f207.name,of_decide_eq_true (by kernel_rfl),Tryz.func207.trans (congrArg some (by kernel_rfl))⟩
 f18:=⟨Tryz.f208.name,of_decide_eq_true (by kernel_rfl),Tryz.func208.trans (congrArg some (by kernel_rfl))⟩
 f19:=Tryz.func209.trans (congrArg some (by kernel_rfl))
 f20:=Tryz.func210.trans (congrArg some (by kernel_rfl))
 f30:=⟨Tryz.f244.name,of_decide_eq_true (by kernel_rfl),Tryz.func244.trans (congrArg some (by kernel_rfl))⟩
 f31:=Tryz.func245.trans (congrArg some (by kernel_rfl))
 f32:=Tryz.func246.trans (congrArg some (by kernel_rfl))
 f33:=⟨Tryz.f247.name,of_decide_eq_true (by kernel_rfl),Tryz.func247.trans (congrArg some (by kernel_rfl))⟩
 f34:=⟨Tryz.f248.name,of_decide_eq_true (by kernel_rfl),Tryz.func248.trans (congrArg some (by kernel_rfl))⟩
 f35:=⟨Tryz.f131.name,of_decide_eq_true (by kernel_rfl),Tryz.func131.trans (congrArg some (by kernel_rfl))⟩
 f40:=⟨Tryz.f258.name,of_decide_eq_true (by kernel_rfl),Tryz.func258.trans (congrArg some (by kernel_rfl))⟩
 t0:=Tryz.underlying0
 a0:=Tryz.isAgg0
 z0:=Tryz.sizeOf0
 v0:=Tryz.zeroValue0
 t3:=Tryz.underlying3
 a3:=Tryz.isAgg3
 z3:=Tryz.sizeOf3
 v3:=Tryz.zeroValue3
 t4:=Tryz.underlying4
 a4:=Tryz.isAgg4
 z4:=Tryz.sizeOf4
 v4:=Tryz.zeroValue4
 t5:=Tryz.underlying5
 a5:=Tryz.isAgg5
 z5:=Tryz.sizeOf5
 v5:=Tryz.zeroValue5
 t9:=Tryz.underlying9
 a9:=Tryz.isAgg9
 z9:=Tryz.sizeOf9
 v9:=Tryz.zeroValue9
 t22:=Tryz.underlying30
 a22:=Tryz.isAgg30
 z22:=Tryz.sizeOf30
 v22:=Tryz.zeroValue30
 t23:=Tryz.underlying30
 a23:=Tryz.isAgg30
 z23:=Tryz.sizeOf30
 v23:=Tryz.zeroValue30
 t25:=Tryz.underlying3
 a25:=Tryz.isAgg3
 z25:=Tryz.sizeOf3
 v25:=Tryz.zeroValue3
 t32:=Tryz.underlying37
 a32:=Tryz.isAgg37
 z32:=Tryz.sizeOf37
 v32:=Tryz.zeroValue37
 t35:=Tryz.underlying273
 a35:=Tryz.isAgg273
 z35:=Tryz.sizeOf273
 v35:=Tryz.zeroValue273
 t36:=Tryz.underlying274
 a36:=Tryz.isAgg274
 z36:=Tryz.sizeOf274
 v36:=Tryz.zeroValue274
 t41:=Tryz.underlying277
 a41:=Tryz.isAgg277
 z41:=Tryz.sizeOf277
 v41:=Tryz.zeroValue277
 t44:=Tryz.underlying181
 a44:=Tryz.isAgg181
 z44:=Tryz.sizeOf181
 v44:=Tryz.zeroValue181
 t46:=Tryz.underlying22
 a46:=Tryz.isAgg22
 z46:=Tryz.sizeOf22
 v46:=Tryz.zeroValue22
 t53:=Tryz.underlying299
 a53:=Tryz.isAgg299
 z53:=Tryz.sizeOf299
 v53:=Tryz.zeroValue299
 t57:=Tryz.underlying303
 a57:=Tryz.isAgg303
 z57:=Tryz.sizeOf303
 v57:=Tryz.zeroValue303
 t63:=Tryz.underlying309
 a63:=Tryz.isAgg309
 z63:=Tryz.sizeOf309
 v63:=Tryz.zeroValue309
 t64:=Tryz.underlying106
 a64:=Tryz.isAgg106
 z64:=Tryz.sizeOf106
 v64:=Tryz.zeroValue106
def twinRen:Ren:=⟨fun|5=>160|7=>100|n=>n,fun|23=>175|25=>3|3=>76|4=>4|20=>20|n=>n,fun n=>n⟩
theorem twinLay:SlLaysW.n5 Tryz.prog twinRen where
 mixed:=by kernel_rfl
 f5:=⟨Tryz.f160.name,of_decide_eq_true (by kernel_rfl),Tryz.func160.trans (congrArg some (by kernel_rfl))⟩
 f7:=Tryz.func100.trans (congrArg some (by kernel_rfl))
 t4:=Tryz.underlying4
 a4:=Tryz.isAgg4
 z4:=Tryz.sizeOf4
 v4:=Tryz.zeroValue4
 t20:=Tryz.underlying20
 a20:=Tryz.isAgg20
 z20:=Tryz.sizeOf20
 v20:=Tryz.zeroValue20
 t23:=Tryz.underlying175
 a23:=Tryz.isAgg175
 z23:=Tryz.sizeOf175
 v23:=Tryz.zeroValue175
def twinBRen:Ren:=⟨fun|5=>49|7=>100|n=>n,fun|23=>62|25=>3|3=>4|4=>4|20=>20|n=>n,fun n=>n⟩
theorem twinBLay:SlLaysW.n5 Tryz.prog twinBRen where
 mixed:=by kernel_rfl
 f5:=⟨Tryz.f49.name,of_decide_eq_true (by kernel_rfl),Tryz.func49.trans (congrArg some (by kernel_rfl))⟩
 f7:=Tryz.func100.trans (congrArg some (by kernel_rfl))
 t4:=Tryz.underlying4
 a4:=Tryz.isAgg4
 z4:=Tryz.sizeOf4
 v4:=Tryz.zeroValue4
 t20:=Tryz.underlying20
 a20:=Tryz.isAgg20
 z20:=Tryz.sizeOf20
 v20:=Tryz.zeroValue20
 t23:=Tryz.underlying62
 a23:=Tryz.isAgg62
 z23:=Tryz.sizeOf62
 v23:=Tryz.zeroValue62
theorem keysOK:ExOK Tryz.prog cx 44 (.keys [158,94]):=AfQ (Ad3 (cx:=cx) keysLay sortedLay sortLay rfl rfl rfl) (Ad3 (cx:=cx) keysBLay sortedLay sortLay rfl rfl rfl)
theorem twin160:ExOK Tryz.prog cx 160 .twin:=Ad1 twinLay rfl
theorem twin49:ExOK Tryz.prog cx 49 .twin:=Ad1 twinBLay rfl
end Go.Eva.S9