/- A reading of the program, proved sound against the model, and what its functions answer by it: part 2. -/
import Derived.Test.YtjkeffbjjepgdaaGreatEva1
import Derived.Maps.RangeRun
import Derived.MapKept
import Derived.Laws.Externs
import Derived.OrdersHeld
import Derived.KernelRfl
import Derived.ChangeArms
import Derived.SizedLaws
import Derived.Carry
import Derived.OpenShut
import Derived.ChangeOld
import Derived.Test.YtjkeffbjjepgdaaGreatProg
set_option linter.unusedSimpArgs false
set_option linter.unusedVariables false
open List renaming length → zj, getElem?_eq_some_iff → zh, getElem?_eq_getElem → zt, getElem?_append_left → qq, getElem?_set_self → qw, getElem?_set_ne → qy, getElem?_append_right → qg, mem_cons → qf, getElem?_map → qb, map_cons → qo, mem_cons_of_mem → qu, range → jq, mem_flatMap → jv, mem_cons_self → jh, mem_append → jp, all_eq_true → jm, ext_getElem? → vq, take_of_length_le → vz, map_append → vj, nodup_cons → vw, mem_map → vg, length_set → vm, getElem?_eq_none → vo, length_map → wj, getElem?_range → wd, mem_filter → wu, mem_map_of_mem → yz, getElem?_cons_succ → yv, getElem?_toArray → ym, flatMap_cons → ut, getElem?_cons_zero → ua, length_eraseIdx_of_lt → kf, set_append_right → ka, mem_append_left → gz, getElem?_eraseIdx → fj, mem_append_right → fg, contains_eq_mem → bq, all_cons → ct
open Bool renaming and_eq_true → zf, or_eq_true → ya
open Nat renaming eq_of_beq_eq_true → zp, mul_le_mul_right → qj, beq → qd, le_refl → qn, zero_add → jk, le_of_ble_eq_true → jf, lt_or_ge → wo, le_trans → yp, div → y8, exists_eq_succ_of_ne_zero → pw, mod → dk, zero_le → d8, pred → fw, sub_self → fv
open Option.some renaming inj → ze
open Array renaming getElem?_eq_some_iff → zu, getElem?_eq_getElem → qp, getElem?_toList → xg, getD_eq_getD_getElem? → vd, getElem?_setIfInBounds → yr, getElem?_eq_none → yu, getElem?_setIfInBounds_ne → uz, ext_getElem? → pk, getElem?_push → dm, replicate → mw
open Option renaming map_eq_some_iff → qa, isSome_iff_exists → v7, getD_some → ug
open Go.Region renaming ready → jo, binds → ud, wanted → pn, noSelect → dt
open Go.Result renaming andThen_ok → j4, andThen → mu
open Go.Sem renaming run_bind → xy, run_pure → ve, run → nh
open Prod renaming fst → xl
open Ne renaming symm → vf
open Go.Value renaming cells → v6, bool → m8
open List.Sublist renaming refl → wy
open Go.ChangeMaps renaming setBlock → yd
open Go.Calls renaming mono → y3
open Go.Oper renaming apart_spec → uq, wp_mono → dg
open Go.Instr renaming findNow → u7, mapUpdate → bg, lookup → mq, checkKey → mn, sameBits → mr
open Go.Deferred renaming ofValue → kq
open List.cons renaming injEq → ko
open Go.World renaming cell? → dv
open Go.Act renaming put → bu
open Go.DataW renaming weightsEach → ck, TrodAll → cm, weights → cn, weightsAll → ci
open Go.Builtin renaming delete_ → mv
open Go.Ending renaming returned → mg
open Go.Eva.Tr renaming get → nk
open Go.Eva.V renaming tup → nf
namespace Go.Eva
open Go.RowKit
section
variable {P:Program} {cx:Cx} {S:Task→(Res→Prop)→Prop} {o:Oper} {e:Env} {H:Heap} {a:Act} {w:World} {ι:Io} {F:Nat→Prop} {R:V×Heap→Prop} {Q:Exit→Act→World→Prop}
theorem AoS (hc:CxTy P cx) {t:Nat} {k:IntKind} (h:intTy cx t=some k):P.underlying t=some (.int k):=by
 unfold intTy at h;split at h
 ·rename_i kk _ _ _ hget;simp at h;subst h;obtain ⟨inf,d,h1,h2,h3,h4,h5,_⟩:=hc.ty _ _ hget;simp only [TyR] at h5;exact h5 ▸ h2
 ·contradiction
theorem AeG (hc:CxTy P cx) {t:Nat} {kd:IntKind} {et:Nat} (h:mapTy cx t=some (kd,et)): ∃k,P.underlying t=some (.map k et)∧P.underlying k=some (.int kd):=by
 unfold mapTy at h;split at h
 ·rename_i k e' _ _ _ hget;split at h
  ·rename_i kd' hk;simp at h;obtain ⟨rfl,rfl⟩:=h;obtain ⟨inf,d,h1,h2,h3,h4,h5,_⟩:=hc.ty _ _ hget;simp only [TyR] at h5;exact ⟨k,h5 ▸ h2,AoS hc hk⟩
  ·contradiction
 ·contradiction
theorem Afp {k:Nat} {kd:IntKind} (hk:P.underlying k=some (.int kd)) (b:Bool) (n:Int):(mn b 10000 k (.int kd n)).run P w= .ok () w:=by
 show (mn b (9999+1) k (.int kd n)).run P w= .ok () w;unfold mn;simp only [xy,run_underlying hk,mu];simp
theorem Adz {k:Nat} {kd:IntKind} (hk:P.underlying k=some (.int kd)) {es:List MapEntry} {n:Int} {r:Option (Nat×Value)} (h:u7 (.int kd) (.int kd n) es 0=some r):(Instr.findKey k (.int kd n) es).run P w= .ok r w:=by
 simp [Instr.findKey,run_underlying hk,mu,h]
theorem Abj {r:Nat} {es:Array MapEntry} {clock:Nat} (hb:w.heap[r]?=some (.map es clock)):(getObj r).run P w= .ok (.map es clock) w:=by
 simp [getObj,nh,hb]
theorem AcZ {kd:IntKind} {n:Int}: ∀(ks:List T) (es:List MapEntry) (i:Nat),es.length=ks.length→
  (∀(j:Nat) x e,ks[j]?=some x→es[j]?=some e→TR F w x e.key)→keysB kd ks=true→
  (findIx kd n ks=none∧u7 (.int kd) (.int kd n) es i=some none)∨
   ∃j e,findIx kd n ks=some j∧es[j]?=some e∧u7 (.int kd) (.int kd n) es i=some (some (i+j,e.val))∧e.key= .int kd n
 | [],es,i,hl,_,_=>by
  have:es= []:=List.length_eq_zero_iff.1 hl;subst this;exact .inl ⟨rfl,rfl⟩
 |x::r,[],i,hl,_,h=>by simp at hl
 |x::r,e::es,i,hl,hk,h=>by
  cases x with
  |int kd' m=>
   simp only [keysB,zf,decide_eq_true_eq] at h;obtain ⟨rfl,h⟩:=h;have hkey:=(hk 0 _ e rfl rfl).int_inv;have hnow:u7 (.int kd) (.int kd n) (e::es) i=match n==m with|true=>some (some (i,e.val))|false=>u7 (.int kd) (.int kd n) es (i+1):=by
    rw [u7,hkey];simp only [Instr.sameNow,if_true];cases n==m<;>rfl
   rw [hnow];have hix:findIx kd n (.int kd m::r)=match n==m with|true=>some 0|false=>match findIx kd n r with|some i=>some (i+1)|none=>none:=by
    simp only [findIx,decide_true];cases n==m<;>rfl
   rw [hix];cases hb:n==m with
   |true=>exact .inr ⟨0,e,rfl,rfl,rfl,by rw [hkey,eq_of_beq hb]⟩
   |false=>
    rcases AcZ r es (i+1) (by simpa using hl) (fun j y e' hy he=>hk (j+1) y e' (by simpa using hy) (by simpa using he)) h with ⟨h1,h2⟩|⟨j,e',h1,h2,h3,h4⟩
    ·exact .inl ⟨by simp only [h1],h2⟩
    ·refine .inr ⟨j+1,e',by simp only [h1],by simpa using h2,?_,h4⟩;rw [show i+(j+1)=i+1+j by omega];exact h3
  |_=>simp [keysB] at h
theorem AhI (hg:Good ι F w H) (t:Nat) (ho:o.op= .makeMap t none) (h:wpQ S (opQ cx o e H) R):o.wp P a w (fun a' w'=>OpPost R o ι F H w a a' w'∧OldSame w w') Q:=by
 unfold opQ at h;rw [ho] at h;simp only at h;split at h
 ·have key: ∀ι1 H1,Good ι1 F w H1→Step ι F H w ι1 F H1 w→wpQ S ((alloc (.map [] [] []) H1).bind fun (i,H)=>Eva.Q.ret (V.map i,H)) R→o.wp P a w (fun a' w'=>OpPost R o ι F H w a a' w'∧OldSame w w') Q:=by
   intro ι1 H1 hg1 st1 h;replace h:=Aar (Aaa _ _ _ h);obtain ⟨g1,g2⟩:=Aen hg1 (.map [] [] []) (.map #[] 0) rfl
    ⟨rfl,⟨by simp [keysP],by simp [keysP]⟩,w.heap.size,#[],0,fun _=> [],Aak.1,Aau,rfl,⟨by simp,by simp⟩,by simp,by simp [memP,findP],by simp [memP,findP],Aak.2⟩
   refine Aaw (w':=w.alloc (.map #[] 0)) (val:= .map (some w.heap.size)) ?_ ⟨⟨_,_,_,F,_,h,rfl,g1,st1.trans g2,.map _ _ ?_⟩,.alloc w _⟩
   ·simp [execOp,ho,Instr.makeMap]
   ·unfold OwnMap;rw [show (H1++ [Ob.map [] [] []])[H1.length]?=some (.map [] [] []) by simp];exact ⟨w.heap.size,Aak.1,rfl⟩
  split at h
  ·replace h:=Aar (Aaa _ _ _ h);obtain ⟨g1,g2⟩:=AiS hg (.pool [] []) rfl ⟨⟨Aak.1,Aak.2,rfl⟩,by simp⟩;exact key _ _ g1 g2 h
  ·exact key _ _ hg (.refl ..) h
 ·exact h.elim
theorem AoM {b is:Bool} {v:V} {u:Value} {R:V→Prop} (h:wpQ S (given b v is) R) (hv:VR ι F w H v u): ∃r,R r∧VR ι F w H r (if b then .tuple #[u,.bool is] else u):=by
 unfold given at h;split at h
 ·have h:=Aav (Aaa _ _ _ h);refine ⟨_,h,?_⟩;rw [if_pos rfl];refine .tup _ _ rfl fun i x c hx hc=> ?_
  match i,hx,hc with
  |0,hx,hc=>simp at hx hc;subst hx hc;exact hv
  |1,hx,hc=>simp at hx hc;subst hx hc;exact .t _ _ (.bool _)
  |i+2,hx,hc=>simp at hx
 ·rw [if_neg (by simp)];exact ⟨v,Aav h,hv⟩
theorem AnV (hc:CxTy P cx) (hg:Good ι F w H) (hs:Sim ι F w H e a) (t:Nat) (x i:Operand) (b:Bool) (ho:o.op= .lookup t x i b) (h:wpQ S (opQ cx o e H) R):o.wp P a w (OpPost R o ι F H w a) Q:=by
 unfold opQ at h;rw [ho] at h;simp only at h;have hx:=Aaj hs x;have hi:=Aaj hs i;generalize evalO e x=xv at h hx;generalize evalO e i=iv at h hi;have key: ∃r H' ι' u,R (r,H')∧Good ι' F w H'∧Step ι F H w ι' F H' w∧VR ι' F w H' r u∧(mq t (a.eval x) (a.eval i) b).run P w= .ok u w:=by
  unfold lookupV at h;split at h
  ·rename_i kd et kd' n hmt;obtain ⟨kt,ht,hkt⟩:=AeG hc hmt;split at h
   ·rename_i z hkd hz;have hkd:kd=kd':=of_decide_eq_true hkd;subst hkd;have hiv:=hi.t_inv.int_inv;rw [hiv];have hzz: ∃zv,(zeroValue et).run P w= .ok zv w∧VR ι F w H z zv:=by
     have hget: ∃ii,cx.ti.get et=some ii:=by
      unfold depth zeroV at hz;split at hz
      ·exact ⟨_,by assumption⟩
      ·contradiction
     obtain ⟨ii,hget⟩:=hget;obtain ⟨inf,d',c1,c2,c3,c4,c5,c6,zv,hzv,hzz⟩:=hc.ty et ii hget;exact ⟨zv,by simp [zeroValue,typeInfo,c1,hzv],(hzz z hz).1 ι F w H⟩
    obtain ⟨zv,hzr,hzv⟩:=hzz;have fin: ∀(ι':Io) (H':Heap) (es:Array MapEntry) (v:V) (u:Value) (is:Bool),wpQ S (given b v is) (fun r=>R (r,H'))→Good ι' F w H'→Step ι F H w ι' F H' w→VR ι' F w H' v u→
      (∀r,(u7 (.int kd) (.int kd n) es.toList 0=some r)→(match r with|some (_,v)=>(v,true)|none=>(zv,false))=(u,is))→(∃r,u7 (.int kd) (.int kd n) es.toList 0=some r)→
      (a.eval x= .map none∧es= #[]∨ ∃r clock,a.eval x= .map (some r)∧w.heap[r]?=some (.map es clock))→
      ∃r H' ι' u,R (r,H')∧Good ι' F w H'∧Step ι F H w ι' F H' w∧VR ι' F w H' r u∧(mq t (a.eval x) (.int kd n) b).run P w= .ok u w:=by
     intro ι' H' es v u is hgv hg' hst hv hf hex hax;obtain ⟨r,hr1,hr2⟩:=AoM hgv hv;obtain ⟨q,hq⟩:=hex;have hfq:=hf q hq;refine ⟨r,H',ι',_,hr1,hg',hst,hr2,?_⟩;rcases hax with ⟨hax,rfl⟩|⟨r0,clock,hax,hb⟩
     ·rw [hax];simp only [mq,xy,run_underlying ht,j4,ve,Afp hkt,Adz hkt hq];cases q with
      |none=>simp only at hfq;cases hfq;cases b<;>simp [hzr]
      |some q=>obtain ⟨q1,q2⟩:=q;simp only at hfq;cases hfq;cases b<;>simp
     ·rw [hax];simp only [mq,xy,run_underlying ht,j4,ve,Abj hb,Afp hkt,Adz hkt hq];cases q with
      |none=>simp only at hfq;cases hfq;cases b<;>simp [hzr]
      |some q=>obtain ⟨q1,q2⟩:=q;simp only at hfq;cases hfq;cases b<;>simp
    dsimp only at h;split at h
    ·
     have hxv:=hx.t_inv;generalize a.eval x=u at hxv fin;cases hxv;exact fin ι H #[] z zv false (Aaa _ _ _ h) hg (.refl ι F H w) hzv (fun r hr=>by simp [u7] at hr;subst hr;rfl) ⟨none,rfl⟩ (.inl ⟨rfl,rfl⟩)
    ·
     rename_i ks xs;have hxv:=hx.t_inv;generalize a.eval x=u at hxv fin;cases hxv with
     |mp _ _ m es clock hF hb hk hv he h1 h2 h3=>
     obtain ⟨hkb,h⟩:=h;rcases AcZ (n:=n) ks es.toList 0 (by simpa using hk) (fun j y ee hy hee=>h1 j y ee hy (by simpa using hee)) hkb with ⟨k1,k2⟩|⟨j,ee,k1,k0,k2,_⟩
     ·rw [k1] at h;exact fin ι H es z zv false (Aaa _ _ _ h) hg (.refl ι F H w) hzv (fun r hr=>by rw [k2] at hr;cases hr;rfl) ⟨_,k2⟩ (.inr ⟨m,clock,rfl,hb⟩)
     ·rw [k1] at h;rw [jk] at k2;have hee:es[j]?=some ee:=by simpa using k0
      dsimp only at h;obtain ⟨y,hy,_,h⟩:=h;exact fin ι H es _ ee.val true (Aaa _ _ _ h) hg (.refl ι F H w) (.t _ _ (h2 j y ee hy hee)) (fun r hr=>by rw [k2] at hr;cases hr;rfl) ⟨_,k2⟩ (.inr ⟨m,clock,rfl,hb⟩)
    ·rename_i id;rw [Aae] at h;split at h
     ·rename_i ks xs ps hob;generalize a.eval x=u at hx fin;cases hx with
      |map _ _ hm=>
      unfold OwnMap at hm;rw [hob] at hm;obtain ⟨m,hm,rfl⟩:=hm;obtain ⟨h0,hto,m',es,clock,fp,q1,q2,q3,q4,q5,q7,q6,_⟩:=hg.obj id _ hob;rw [hm] at q1;obtain rfl:=ze q1;obtain ⟨hkb,h⟩:=h;rcases AcZ (n:=n) ks es.toList 0 (by simpa using q3) (fun j y ee hy hee=>q5 j y ee hy (by simpa using hee)) hkb with ⟨k1,k2⟩|⟨j,ee,k1,k0,k2,_⟩
      ·rw [k1] at h;exact fin ι H es z zv false (Aaa _ _ _ h) hg (.refl ι F H w) hzv (fun r hr=>by rw [k2] at hr;cases hr;rfl) ⟨_,k2⟩ (.inr ⟨m,clock,rfl,q2⟩)
      ·rw [k1] at h;rw [jk] at k2;have hee:es[j]?=some ee:=by simpa using k0
       dsimp only at h;obtain ⟨r,h,n1,n2,n3⟩:=Ab7 h hto.1;split at h
       ·rename_i v hf;have hv:memP ps xs j=some v:=by unfold memP;rw [hf]
        obtain ⟨hns,h⟩:=AbO (Aaa _ _ _ h);have hvr:=((q6 j v ee hv hee).open (Ac3 hns)).1;exact fin ι H es v ee.val true (Aaa _ _ _ h) hg (.refl ι F H w) hvr (fun r hr=>by rw [k2] at hr;cases hr;rfl) ⟨_,k2⟩ (.inr ⟨m,clock,rfl,q2⟩)
       ·rename_i hf;obtain ⟨y,hy,_,h⟩:=h;have hv:memP ps xs j=some (.t y):=by unfold memP;rw [hf,hy];rfl
        dsimp only at h;split at h
        ·rename_i hsh;obtain ⟨ι',g1,s1⟩:=Al5 hg hob hv hsh n1 n2 n3;rcases AiP (Aaa _ _ _ h) with ⟨hf,_⟩|⟨y',he,_,h⟩
         ·rw [show (V.t y).shut=y.shut from rfl,hsh] at hf;contradiction
         ·cases he;obtain ⟨_,h⟩:=Aap (Aaa _ _ _ h);have hgm:=g1.obj id _ (qw (by have:=(zh.1 hob).1;simp;omega));obtain ⟨_,hto',m',es',clock',fp',r1,r2,r3,r4,r5,r7,r6,_⟩:=hgm;have hid:=(zh.1 hob).1;obtain ⟨o'',hl1,hl2⟩:=s1.like id _ hob;have hιm:ι' id=ι id:=by
           rcases hl2 with h|h
           ·rw [qw (by simp;omega)] at hl1;rw [h] at hl1;simp at hl1
           ·exact h.1
          rw [hιm,hm] at r1;obtain rfl:=ze r1;rw [q2] at r2;simp only [Option.some.injEq,Obj.map.injEq] at r2;obtain ⟨rfl,rfl⟩:=r2;have hvr:=((r6 j _ ee AaB hee).open (by cases y<;>simp [T.shut] at hsh<;>rfl)).1;exact fin ι' _ es _ ee.val true (Aaa _ _ _ h) g1 s1 hvr (fun r hr=>by rw [k2] at hr;cases hr;rfl) ⟨_,k2⟩ (.inr ⟨m,clock,rfl,q2⟩)
        ·rename_i hsh;have h:=(AbO (Aaa _ _ _ h)).2;have hvr:=((q6 j _ ee hv hee).open hsh).1;exact fin ι H es _ ee.val true (Aaa _ _ _ h) hg (.refl ι F H w) hvr (fun r hr=>by rw [k2] at hr;cases hr;rfl) ⟨_,k2⟩ (.inr ⟨m,clock,rfl,q2⟩)
     ·exact h.elim
    ·exact h.elim
   ·exact h.elim
  ·exact h.elim
 obtain ⟨r,H',ι',u,h1,h2,h3,h4,h5⟩:=key;exact Aaw (w':=w) (val:=u) (by simp [execOp,ho,h5]) ⟨r,H',ι',F,u,h1,rfl,h2,h3,h4⟩
theorem Ad0 {r:Nat} {es:Array MapEntry} {clock:Nat} (ob:Obj) (hb:w.heap[r]?=some (.map es clock)):(setObj r ob).run P w= .ok () {w with heap:=w.heap.setIfInBounds r ob}:=by
 simp [setObj,nh,hb]
theorem map_set (hg:Good ι F w H) {id m:Nat} {ks ks' xs xs':List T} {ps ps':List (Nat×V)} {es es':Array MapEntry} {clock clock':Nat} (fp:Nat→List Nat) (hob:H[id]?=some (.map ks xs ps)) (hm:ι id=some m) (hb:w.heap[m]?=some (.map es clock))
  (h0:xs'.length=ks'.length) (ht:Told ps' xs'.length) (h1:es'.size=ks'.length) (h2:EntOk es' clock') (h3: ∀(i:Nat) x (e:MapEntry),ks'[i]?=some x→es'[i]?=some e→TR F w x e.key)
  (h4: ∀(i:Nat) v,memP ps' xs' i=some v→v≠ .t .any) (h5: ∀(i:Nat) v (e:MapEntry),memP ps' xs' i=some v→es'[i]?=some e→HC ι F w H v e.val (fp i)) (hfp:((jq ks'.length).flatMap fp).Sublist (ι.hid id)):
  ∃ι',Good ι' F {w with heap:=w.heap.setIfInBounds m (.map es' clock')} (H.set id (.map ks' xs' ps'))∧Step ι F H w ι' F (H.set id (.map ks' xs' ps')) {w with heap:=w.heap.setIfInBounds m (.map es' clock')}:=by
 have hlt:m<w.heap.size:=(zu.1 hb).1;have hset:(w.heap.setIfInBounds m (.map es' clock'))[m]?=some (.map es' clock'):=by simp [hlt]
 have hne: ∀b,b≠m→(w.heap.setIfInBounds m (.map es' clock'))[b]?=w.heap[b]?:=fun b hb=>by simp [vf hb]
 have hF: ∀b,F b→b≠m:=fun b hf e=>hg.sep m ⟨id,_,hob,rfl,.inl hm⟩ (e ▸ hf);have hh: ∀b∈ι.hid id,b≠m:=fun b hb e=>(hg.nd id _ hob rfl).2 m hm (e ▸ hb);refine ⟨_,AfZ (w':= {w with heap:=w.heap.setIfInBounds m (.map es' clock')}) hg ((jq ks'.length).flatMap fp) hob (fun _=>hfp) rfl rfl rfl (by simp) (fun b hb=> ?_) (.inr ⟨rfl,rfl⟩) (fun _=>rfl) (fun hl=> ?_)⟩
 ·rcases hb with hb|hb
  ·simp [Ob.ro] at hb
  ·exact hne b fun e=>hb (e ▸ hm)
 ·refine ⟨h0,ht,m,es',clock',fp,hm,hset,h1,h2,fun i x e hx he=>(h3 i x e hx he).mono (fun _ h=>h) (fun b hb=>hne b (hF b hb)),h4,fun i v e hv he=> ?_,Io.sh_eq.2⟩;have hi:i<ks'.length:=by have:=(zu.1 he).1;omega
  exact (h5 i v e hv he).mono (fun _ h=>h) (fun b hb=>hne b (hF b hb)) hl fun b hb=>hne b (hh b (hfp.subset (jv.2 ⟨i,by simpa using hi,hb⟩)))
theorem AjJ {ek:Value} {kd:IntKind} {n:Int} (h:ek= .int kd n):(Instr.keyThatStays ek (.int kd n)).run P w= .ok (.int kd n) w:=by
 rw [h];have:mr 10000 (.int kd n) (.int kd n)=true:=by
  show mr (9999+1) (.int kd n) (.int kd n)=true;simp [mr]
 simp [Instr.keyThatStays,this]
theorem Ah3 {i:Nat} {r:List (Nat×V)} (h:i∉keysP r):findP i r=none:=by
 cases hf:findP i r with
 |none=>rfl
 |some v=>exact absurd (Acf hf) h
theorem Ao3 {r ps:List (Nat×V)} {n:Nat} (ht:Told ps n) (hs:(keysP r).Sublist (keysP ps)):Told r n:=⟨ht.1.sublist hs,fun k hk=>ht.2 k (hs.subset hk)⟩
theorem Aj5 {ι0:Io} {F0:Nat→Prop} {H0:Heap} (hc:CxTy P cx) (hg:Good ι F w H) (s0:Step ι0 F0 H0 w ι F H w) (t:Nat) (x i v:Operand) (ho:o.op= .mapUpdate t x i v) {xv iv vv:V} (hx:VR ι F w H xv (a.eval x)) (hi:VR ι F w H iv (a.eval i)) (hv:VR ι F w H vv (a.eval v))
  (h:wpQ S (mapPut cx t xv iv vv H) R):o.wp P a w (OpPost R o ι0 F0 H0 w a) Q:=by
 unfold mapPut at h;split at h
 ·rename_i kd et kd' n id hmt;obtain ⟨kt,ht,hkt⟩:=AeG hc hmt;rw [Aae] at h;split at h
  ·rename_i ks xs ps hb hob;simp only [zf] at hb;have hkd:kd=kd':=of_decide_eq_true hb.1.1;subst hkd;have hiv:=hi.t_inv.int_inv;have hna:vv≠ .t .any:=fun e=>by rw [e] at hb;simp [notAny] at hb
   generalize hax:a.eval x=u at hx;cases hx with
   |map _ _ hm=>
   unfold OwnMap at hm;rw [hob] at hm;obtain ⟨m,hm,rfl⟩:=hm;obtain ⟨h0,hto,m',es,clock,fp,q1,q2,q3,q4,q5,q7,q6,q8⟩:=hg.obj id _ hob;rw [hm] at q1;obtain rfl:=ze q1;have fin: ∀(es':Array MapEntry) (clock':Nat) (fp':Nat→List Nat) (ks' xs':List T) (ps':List (Nat×V)),wpQ S ((setH H id (.map ks' xs' ps')).bind fun H=>Eva.Q.ret (nf [],H)) R→xs'.length=ks'.length→Told ps' xs'.length→es'.size=ks'.length→EntOk es' clock'→
     (∀(i:Nat) x (e:MapEntry),ks'[i]?=some x→es'[i]?=some e→TR F w x e.key)→(∀(i:Nat) v,memP ps' xs' i=some v→v≠ .t .any)→(∀(i:Nat) v (e:MapEntry),memP ps' xs' i=some v→es'[i]?=some e→HC ι F w H v e.val (fp' i))→((jq ks'.length).flatMap fp').Sublist (ι.hid id)→
     (bg t (.map (some m)) (.int kd n) (a.eval v)).run P w= .ok () {w with heap:=w.heap.setIfInBounds m (.map es' clock')}→o.wp P a w (OpPost R o ι0 F0 H0 w a) Q:=by
    intro es' clock' fp' ks' xs' ps' hR g0 gt g1 g2 g3 g4 g5 g6 hrun;obtain ⟨_,hR⟩:=Aap (Aaa _ _ _ hR);obtain ⟨ι',k1,k2⟩:=map_set hg fp' hob hm q2 g0 gt g1 g2 g3 g4 g5 g6;have hex:(execOp a.eval o).run P w= .ok .skip {w with heap:=w.heap.setIfInBounds m (.map es' clock')}:=by
     unfold execOp;rw [ho];show ((bg t (a.eval x) (a.eval i) (a.eval v))>>=fun _=>pure Next.skip).run P w=_;rw [hax,hiv];simp [hrun]
    unfold Oper.wp;rw [hex];exact ⟨_,_,ι',F,undef,hR,rfl,k1,s0.trans k2,.tup [] #[] rfl (by simp)⟩
   obtain ⟨hkb,h⟩:=h;rcases AcZ (n:=n) ks es.toList 0 (by simpa using q3) (fun j y ee hy hee=>q5 j y ee hy (by simpa using hee)) hkb with ⟨k1,k2⟩|⟨j,ee,k1,k0,k2,k3⟩
   ·rw [k1] at h;have hpush: ∀(xs':List T) (ps':List (Nat×V)),wpQ S ((setH H id (.map (ks++ [.int kd n]) xs' ps')).bind fun H=>Eva.Q.ret (nf [],H)) R→xs'.length=ks.length+1→Told ps' xs'.length→(∀(k:Nat) y,k<ks.length→memP ps' xs' k=some y→memP ps xs k=some y)→(∀y,memP ps' xs' ks.length=some y→y=vv)→
      o.wp P a w (OpPost R o ι0 F0 H0 w a) Q:=by
     intro xs' ps' hR hxl htl hold hnew;have hlt': ∀(k:Nat) y,memP ps' xs' k=some y→k≤ks.length:=fun k y hy=>by have:=Abv htl hy;omega
     refine fin (es.push {key:= .int kd n,val:=a.eval v,born:=clock}) (clock+1) (fset fp ks.length []) _ _ _ hR (by simp [hxl]) htl (by simp [q3]) ⟨fun i ee hee=> ?_,fun i j e1 e2 he1 he2 hbn=> ?_⟩ (fun i y ee hy hee=> ?_) (fun k y hy=> ?_) (fun k y ee hy hee=> ?_) ?_ ?_
     ·rw [dm] at hee;split at hee
      ·simp at hee;subst hee;simp
      ·have:=q4.1 i ee hee;omega
     ·rw [dm] at he1 he2;split at he1<;>split at he2
      ·omega
      ·simp at he1;subst he1;have:=q4.1 j e2 he2;simp at hbn;omega
      ·simp at he2;subst he2;have:=q4.1 i e1 he1;simp at hbn;omega
      ·exact q4.2 i j e1 e2 he1 he2 hbn
     ·rw [dm] at hee;split at hee
      ·rename_i hi';simp at hee;subst hee;rw [hi',q3] at hy;simp at hy;subst hy;exact .int _ _
      ·rename_i hi';have hlt:i<es.size:=(zu.1 hee).1;rw [qq (by omega)] at hy;exact q5 i y ee hy hee
     ·by_cases hk:k=ks.length
      ·subst hk;rw [hnew y hy];exact hna
      ·exact q7 k y (hold k y (by have:=hlt' k y hy;omega) hy)
     ·rw [dm] at hee;split at hee
      ·rename_i hi';simp at hee;subst hee;have:k=ks.length:=by omega
       subst this;rw [hnew y hy];simp only [fset,if_true];exact .v _ _ hv
      ·rename_i hi';have hlt:k<es.size:=(zu.1 hee).1;simp only [fset,show k≠ks.length by omega,if_false];exact q6 k y ee (hold k y (by omega) hy) hee
     ·rw [List.length_append,List.length_singleton,List.range_succ,List.flatMap_append,Ai0 fp _ [] _ (qn _),q8];simp [fset]
     ·simp only [bg,xy,run_underlying ht,j4,Abj q2,Afp hkt,Adz hkt k2,Ad0 _ q2]
    replace h:wpQ S (match vv with
     | .t x=>normL (xs++ [x]) fun xs=>(setH H id (.map (ks++ [.int kd n]) xs ps)).bind fun H=>Eva.Q.ret (nf [],H)
     |v=>normL (xs++ [.nilp]) fun xs=> .nat ks.length fun i=>(setH H id (.map (ks++ [.int kd n]) xs ((i,v)::ps))).bind fun H=>Eva.Q.ret (nf [],H)) R:=h
    have hnf: ∀k∈keysP ps,k<ks.length:=fun k hk=>by have:=hto.2 k hk;omega
    have hnn:ks.length∉keysP ps:=fun h=>by have:=hnf _ h;omega
    split at h
    ·rename_i y;refine hpush (xs++ [y]) ps h (by simp [h0]) ⟨hto.1,fun k hk=>by have:=hnf k hk;simp;omega⟩ (fun k z hk hz=> ?_) (fun z hz=> ?_)
     ·unfold memP at hz⊢;rw [qq (by omega)] at hz;exact hz
     ·unfold memP at hz;rw [Ah3 hnn,qg (by omega),h0] at hz;simp at hz;exact hz.symm
    ·replace h:wpQ S ((setH H id (.map (ks++ [.int kd n]) (xs++ [.nilp]) ((ks.length,vv)::ps))).bind fun H=>Eva.Q.ret (nf [],H)) R:=h;refine hpush (xs++ [.nilp]) ((ks.length,vv)::ps) h (by simp [h0]) ⟨?_,fun k hk=> ?_⟩ (fun k z hk hz=> ?_) (fun z hz=> ?_)
     ·simp only [keysP,qo,vw];exact ⟨hnn,hto.1⟩
     ·simp only [keysP,qo,qf] at hk;rcases hk with rfl|hk
      ·simp [h0]
      ·have:=hnf k hk;simp;omega
     ·rw [AaJ (by omega)] at hz;unfold memP at hz⊢;rw [qq (by omega)] at hz;exact hz
     ·rw [AaB] at hz;exact (ze hz).symm
   ·rw [k1] at h;rw [jk] at k2;have hjl:j<es.size:=by have:=(zh.1 k0).1;simpa using this
    have hje:es[j]?=some ee:=by simpa using k0
    have hmod: ∀i:Nat,(es.modify j fun e=> {e with key:= .int kd n,val:=a.eval v})[i]?=if j=i then (es[i]?).map (fun e=> {e with key:= .int kd n,val:=a.eval v}) else es[i]?:=fun i=>by
     rw [Array.getElem?_modify]
    have hmodify: ∀(xs':List T) (ps':List (Nat×V)),wpQ S ((setH H id (.map ks xs' ps')).bind fun H=>Eva.Q.ret (nf [],H)) R→xs'.length=ks.length→Told ps' xs'.length→(∀(k:Nat) y,k≠j→memP ps' xs' k=some y→memP ps xs k=some y)→(∀y,memP ps' xs' j=some y→y=vv)→
      o.wp P a w (OpPost R o ι0 F0 H0 w a) Q:=by
     intro xs' ps' hR hxl htl hold hnew;refine fin (es.modify j fun e=> {e with key:= .int kd n,val:=a.eval v}) clock (fset fp j []) _ _ _ hR hxl htl (by simp [q3]) ⟨fun i e1 he1=> ?_,fun i i' e1 e2 he1 he2 hbn=> ?_⟩ (fun i y e1 hy he1=> ?_) (fun k y hy=> ?_) (fun k y e1 hy he1=> ?_) ?_ ?_
     ·rw [hmod] at he1;split at he1
      ·obtain ⟨e0,h1,rfl⟩:=qa.1 he1;exact q4.1 i e0 h1
      ·exact q4.1 i e1 he1
     ·have born: ∀(i:Nat) e1,(es.modify j fun e=> {e with key:= .int kd n,val:=a.eval v})[i]?=some e1→ ∃e0,es[i]?=some e0∧e0.born=e1.born:=by
       intro i e1 he1;rw [hmod] at he1;split at he1
       ·obtain ⟨e0,h1,rfl⟩:=qa.1 he1;exact ⟨e0,h1,rfl⟩
       ·exact ⟨e1,he1,rfl⟩
      obtain ⟨b1,g1,g2⟩:=born i e1 he1;obtain ⟨b2,g3,g4⟩:=born i' e2 he2;exact q4.2 i i' b1 b2 g1 g3 (by rw [g2,g4];exact hbn)
     ·rw [hmod] at he1;split at he1
      ·rename_i hi';subst hi';obtain ⟨e0,h1,rfl⟩:=qa.1 he1;have:=q5 j y e0 hy h1;rw [hje] at h1;obtain rfl:=ze h1;rw [k3] at this;exact this
      ·exact q5 i y e1 hy he1
     ·by_cases hk:k=j
      ·subst hk;rw [hnew y hy];exact hna
      ·exact q7 k y (hold k y hk hy)
     ·rw [hmod] at he1;by_cases hk:k=j
      ·subst hk;rw [if_pos rfl] at he1;obtain ⟨e0,h1,rfl⟩:=qa.1 he1;rw [hnew y hy];simp only [fset,if_true];exact .v _ _ hv
      ·rw [if_neg (vf hk)] at he1;simp only [fset,hk,if_false];exact q6 k y e1 (hold k y hk hy) he1
     ·rw [q8];refine Ai1 (fun k=> ?_) _;unfold fset;split
      ·exact .inl rfl
      ·exact .inr rfl
     ·simp only [bg,xy,run_underlying ht,j4,Abj q2,Afp hkt,Adz hkt k2,hje,Option.map_some,ug,AjJ k3,Ad0 _ q2]
    dsimp only at h;obtain ⟨r,h,n1,n2,n3⟩:=Ab7 h hto.1;have hjx:j<xs.length:=by omega
    split at h
    ·rename_i y _;replace h:wpQ S ((setH H id (.map ks (xs.set j y) r)).bind fun H=>Eva.Q.ret (nf [],H)) R:=h;refine hmodify (xs.set j y) r h (by simp [h0]) (by rw [vm];exact Ao3 hto n2) (fun k z hk hz=> ?_) (fun z hz=> ?_)
     ·unfold memP at hz⊢;rw [n3 k hk,qy (vf hk)] at hz;exact hz
     ·unfold memP at hz;rw [Ah3 n1,qw hjx] at hz;simp at hz;exact hz.symm
    ·refine hmodify xs _ h h0 (AeQ hto hjx n1 n2) (fun k z hk hz=> ?_) (fun z hz=> ?_)
     ·rw [AaJ hk,Adv (n3 k hk)] at hz;exact hz
     ·rw [AaB] at hz;exact (ze hz).symm
  ·exact h.elim
 ·exact h.elim
theorem Aj6 (hc:CxTy P cx) (hg:Good ι F w H) (hs:Sim ι F w H e a) (t:Nat) (x i v:Operand) (ho:o.op= .mapUpdate t x i v) (h:wpQ S (opQ cx o e H) R):o.wp P a w (OpPost R o ι F H w a) Q:=by
 unfold opQ at h;rw [ho] at h;simp only at h;split at h
 ·obtain ⟨vv,h,hv⟩:=AbN (Aaa _ _ _ h) (Aaj hs v);have hx:=Aaj hs x;have hi:=Aaj hs i;generalize evalO e x=xv at h hx;generalize evalO e i=iv at h hi;replace h:=Aaa _ _ _ h;unfold frz at h;split at h
  ·obtain ⟨y,H',F',h,hg',st,hy,_⟩:=Aia hg (Aaa _ _ _ h) hv;exact Aj5 hc hg' st t x i v ho (st.vr hg hx) (st.vr hg hi) (.t _ _ hy) h
  ·exact Aj5 hc hg (.refl ι F H w) t x i v ho hx hi hv h
 ·exact h.elim
theorem Ak3 {i n:Nat} (h:i<n):(jq (n-1)).map (fun k=>if k<i then k else k+1)=(jq n).eraseIdx i:=by
 apply vq;intro k;rw [fj,qb];by_cases hk:k<n-1
 ·rw [wd hk];simp only [Option.map_some];split
  ·rw [wd (by omega)]
  ·rw [wd (by omega)]
 ·rw [vo (by simp;omega)];simp only [Option.map_none];split
  ·omega
  ·rw [vo (by simp;omega)]
theorem Ajn (f:Nat→List Nat) {l l':List Nat} (h:l.Sublist l'):(l.flatMap f).Sublist (l'.flatMap f):=by
 induction h with
 |slnil=>exact wy _
 |cons x _ ih=>rw [ut];exact ih.trans (List.sublist_append_right _ _)
 |cons_cons x _ ih=>rw [ut,ut];exact (wy _).append ih
theorem Amu (fp:Nat→List Nat) {i n:Nat} (h:i<n):((jq (n-1)).flatMap fun k=>fp (if k<i then k else k+1)).Sublist ((jq n).flatMap fp):=by
 have e:(jq (n-1)).flatMap (fun k=>fp (if k<i then k else k+1))=((jq n).eraseIdx i).flatMap fp:=by rw [←Ak3 h,List.flatMap_map]
 rw [e];exact Ajn fp (List.eraseIdx_sublist ..)
theorem AnH (hc:CxTy P cx) (hg:Good ι F w H) {t ty:Nat} {x i:V} {u v:Value} (hx:VR ι F w H x u) (hi:VR ι F w H i v) (h:wpQ S (mapDel cx t x i H) R):
  ∃w',(∀t',(mv #[t,t'] ty #[u,v]).run P w= .ok (.tuple #[]) w')∧ ∃H' ι',R (.tup [],H')∧Good ι' F w' H'∧Step ι F H w ι' F H' w':=by
 unfold mapDel at h;split at h
 ·rename_i kd et kd' n id hmt;obtain ⟨kt,ht,hkt⟩:=AeG hc hmt;rw [Aae] at h;split at h
  ·rename_i ks xs ps hb hob;have hkd:kd=kd':=of_decide_eq_true hb;subst hkd;have hiv:=hi.t_inv.int_inv;subst hiv;cases hx with
   |map _ _ hm=>
   unfold OwnMap at hm;rw [hob] at hm;obtain ⟨m,hm,rfl⟩:=hm;obtain ⟨h0,hto,m',es,clock,fp,q1,q2,q3,q4,q5,q7,q6,q8⟩:=hg.obj id _ hob;rw [hm] at q1;obtain rfl:=ze q1;obtain ⟨hkb,h⟩:=h;rcases AcZ (n:=n) ks es.toList 0 (by simpa using q3) (fun j y ee hy hee=>q5 j y ee hy (by simpa using hee)) hkb with ⟨k1,k2⟩|⟨j,ee,k1,k0,k2,k3⟩
   ·rw [k1] at h;have hself:({w with heap:=w.heap.setIfInBounds m (.map es clock)}:World)=w:=by
     have:w.heap.setIfInBounds m (.map es clock)=w.heap:=by
      apply pk;intro k;by_cases e:k=m
      ·subst e;rw [q2,Array.getElem?_setIfInBounds_self_of_lt (zu.1 q2).1]
      ·rw [uz (vf e)]
     rw [this]
    refine ⟨w,fun t'=> ?_,H,ι,h,hg,.refl ι F H w⟩;simp only [mv,ym,ua,yv,xy,run_underlying ht,j4,Abj q2,Afp hkt,Adz hkt k2,Ad0 _ q2,hself,ve]
   ·rw [k1] at h;rw [jk] at k2;dsimp only at h;obtain ⟨r,h,n1,n2,n3⟩:=Ab7 h hto.1;split at h
    ·have hjk:j<ks.length:=by have:=(zh.1 k0).1;simp at this;omega
     replace h:wpQ S ((setH H id (.map (ks.eraseIdx j) (xs.eraseIdx j) [])).bind fun H=>Eva.Q.ret (nf [],H)) R:=h;obtain ⟨_,h⟩:=Aap (Aaa _ _ _ h);have her: ∀k:Nat,(es.eraseIdxIfInBounds j)[k]?=if k<j then es[k]? else es[k+1]?:=by
      intro k;rw [←xg];have:(es.eraseIdxIfInBounds j).toList=es.toList.eraseIdx j:=by
       unfold Array.eraseIdxIfInBounds;rw [dif_pos (by omega)];exact Array.toList_eraseIdx ..
      rw [this,fj];split<;>simp
     have hsz:(es.eraseIdxIfInBounds j).size=es.size-1:=by
      unfold Array.eraseIdxIfInBounds;rw [dif_pos (by omega)];simp
     have hle: ∀ {α:Type} (l:List α) (k:Nat),(l.eraseIdx j)[k]?=if k<j then l[k]? else l[k+1]?:=fun l k=>by rw [fj]
     have hm1: ∀(k:Nat) y,memP [] (xs.eraseIdx j) k=some y→memP ps xs (if k<j then k else k+1)=some y:=by
      intro k y hy;simp only [memP,findP] at hy;rw [hle] at hy;have hne:(if k<j then k else k+1)≠j:=by split<;>omega
      have hf:findP (if k<j then k else k+1) ps=none:=by rw [←n3 _ hne];rfl
      unfold memP;rw [hf];split at hy<;>rename_i hkj<;>simp only [hkj,if_true,if_false]<;>exact hy
     have hee': ∀(k:Nat) e,(es.eraseIdxIfInBounds j)[k]?=some e→es[if k<j then k else k+1]?=some e:=by
      intro k e he;rw [her] at he;split at he<;>rename_i hkj<;>simp only [hkj,if_true,if_false]<;>exact he
     obtain ⟨ι',g1,g2⟩:=map_set hg (ks':=ks.eraseIdx j) (xs':=xs.eraseIdx j) (ps':= []) (es':=es.eraseIdxIfInBounds j) (clock':=clock) (fun k=>fp (if k<j then k else k+1)) hob hm q2
      (by rw [kf (by omega),kf hjk,h0]) ⟨by simp [keysP],by simp [keysP]⟩ (by rw [hsz,kf hjk,q3])
      ⟨fun k e he=>q4.1 _ e (hee' k e he),fun k k' e1 e2 he1 he2 hbn=>by
       have:=q4.2 _ _ e1 e2 (hee' k e1 he1) (hee' k' e2 he2) hbn;split at this<;>split at this<;>omega⟩
      (fun k y e hy he=>by
       rw [hle] at hy;refine q5 (if k<j then k else k+1) y e ?_ (hee' k e he);split at hy<;>rename_i hkj<;>simp only [hkj,if_true,if_false]<;>exact hy)
      (fun k y hy=>q7 _ y (hm1 k y hy)) (fun k y e hy he=>q6 _ y e (hm1 k y hy) (hee' k e he)) (by rw [kf hjk,q8];exact Amu fp hjk)
     refine ⟨_,fun t'=> ?_,_,ι',h,g1,g2⟩;simp only [mv,ym,ua,yv,xy,run_underlying ht,j4,Abj q2,Afp hkt,Adz hkt k2,Ad0 _ q2,ve]
    ·exact h.elim
  ·exact h.elim
 ·exact h.elim
theorem Adw {id:Nat} {ks xs:List T} {m:Nat} {R:Heap→Prop}: ∀ {n i:Nat} {ps:List (Nat×V)} {H:Heap} {ι:Io},Good ι F w H→H[id]?=some (.map ks xs ps)→ι id=some m→wpQ S (openAll id ks xs n i ps H) R→
  ∃H' ι' ps',R H'∧H'[id]?=some (.map ks xs ps')∧ι' id=some m∧Good ι' F w H'∧Step ι F H w ι' F H' w
 |0,i,ps,H,ι,hg,ho,hm,h=>⟨H,ι,ps,h,ho,hm,hg,.refl ι F H w⟩
 |n+1,i,ps,H,ι,hg,ho,hm,h=>by
  unfold openAll at h;have hto:=(hg.obj id _ ho).2.1;obtain ⟨r,h,n1,n2,n3⟩:=Ab7 h hto.1;split at h
  ·exact Adw hg ho hm h
  ·rename_i hf;obtain ⟨y,hy,_,h⟩:=h;have hv:memP ps xs i=some (.t y):=by unfold memP;rw [hf,hy];rfl
   dsimp only at h;split at h
   ·rename_i hsh;obtain ⟨ι',g1,s1⟩:=Al5 hg ho hv hsh n1 n2 n3;have hid:=(zh.1 ho).1;have hget:((H++ [opOb y]).set id (.map ks xs ((i,opV H.length y)::r)))[id]?=some (.map ks xs ((i,opV H.length y)::r)):=qw (by simp;omega);rcases AiP (Aaa _ _ _ h) with ⟨hf,_⟩|⟨y',he,_,h⟩
    ·rw [show (V.t y).shut=y.shut from rfl,hsh] at hf;contradiction
    ·cases he;obtain ⟨_,h⟩:=Aap (Aaa _ _ _ h);have hιm:ι' id=some m:=by
      obtain ⟨o'',hl1,hl2⟩:=s1.like id _ ho;rcases hl2 with h|h
      ·rw [hget] at hl1;rw [h] at hl1;simp at hl1
      ·exact h.1.trans hm
     obtain ⟨H',ι2,ps',k1,k2,k3,k4,k5⟩:=Adw g1 hget hιm h;exact ⟨H',ι2,ps',k1,k2,k3,k4,s1.trans k5⟩
   ·exact Adw hg ho hm h
theorem Apg (hc:CxTy P cx) (hg:Good ι F w H) (hs:Sim ι F w H e a) (t:Nat) (x:Operand) (ho:o.op= .range t x) (h:wpQ S (opQ cx o e H) R):o.wp P a w (OpPost R o ι F H w a) Q:=by
 unfold opQ at h;rw [ho] at h;simp only at h;have hx:=Aaj hs x;generalize evalO e x=xv at h hx;unfold rangeV at h;split at h
 ·rename_i q ks vs hmt;obtain ⟨kd,et⟩:=q;obtain ⟨kt,ht,hkt⟩:=AeG hc hmt;have hxv:=hx.t_inv;generalize hax:a.eval x=u at hxv;cases hxv with
  |mp _ _ m es clock hF hb hks hvs he h1 h2 h3=>
  replace h:=Aar (Aaa _ _ _ h);have hml:m<w.heap.size:=(zu.1 hb).1;obtain ⟨g1,g2⟩:=Aen hg (.iter ks vs []) (.mapIter (some m) clock #[] clock) rfl
   ⟨hvs,Aak.2,w.heap.size,m,es,clock,Aak.1,hF,(Aai hml).trans hb,hks,he,fun i y ee hy hee=>(h1 i y ee hy hee).mono (fun _ h=>h) (fun b hb=>Aai (hg.fin b hb)),
    fun i y ee hy hee=>(h2 i y ee hy hee).mono (fun _ h=>h) (fun b hb=>Aai (hg.fin b hb)),by simp,Aau⟩
  refine Aaw (w':=w.alloc (.mapIter (some m) clock #[] clock)) (val:= .pointer (some ⟨w.heap.size,0,none⟩)) ?_ ⟨_,_,_,F,_,h,rfl,g1,g2,.ptr _ _ _ _ ?_⟩
  ·simp [execOp,ho,hax,Instr.range,run_underlying ht,Abj hb]
  ·unfold OwnPtr;rw [show (H++ [Ob.iter ks vs []])[H.length]?=some (.iter ks vs []) by simp];exact ⟨rfl,rfl,w.heap.size,by simp [upd,updH],rfl⟩
 ·rename_i q id hmt;obtain ⟨kd,et⟩:=q;obtain ⟨kt,ht,hkt⟩:=AeG hc hmt;rw [Aae] at h;split at h
  ·rename_i ks xs ps hob;generalize hax:a.eval x=u at hx;cases hx with
   |map _ _ hm=>
   unfold OwnMap at hm;rw [hob] at hm;obtain ⟨m,hm,rfl⟩:=hm;obtain ⟨H1,ι1,ps1,h,ho1,hm1,g1,s1⟩:=Adw hg hob hm (Aaa _ _ _ h);rw [Aae,ho1] at h;dsimp only at h;replace h:=Aar (Aaa _ _ _ h);obtain ⟨_,h⟩:=Aap (Aaa _ _ _ h);obtain ⟨h0,hto,m',es,clock,fp,q1,q2,q3,q4,q5,q7,q6,q8⟩:=g1.obj id _ ho1;rw [hm1] at q1;obtain rfl:=ze q1;have hid:=(zh.1 ho1).1;have hml:m<w.heap.size:=(zu.1 q2).1;have hn1: ¬id=H1.length:=by omega
   have hι1:(if id=H1.length then some w.heap.size else ι1 id)=ι1 id:=by rw [if_neg hn1]
   obtain ⟨g2,s2⟩:=AlV (m:=id) (o':= .rng ks xs ps1 H1.length []) g1 (.mapIter (some m) clock #[] clock) ho1 rfl rfl rfl (.inr ⟨hι1,rfl⟩) (fun hl=>by
    refine ⟨⟨h0,hto,by simp⟩,m,w.heap.size,es,clock,fp,hι1.trans hm1,(Aai hml).trans q2,q3,q4,fun i y ee hy hee=>(q5 i y ee hy hee).mono (fun _ h=>h) (fun b hb=>Aai (g1.fin b hb)),q7,fun i v ee hv hee=> ?_,?_,by simp,Aau,fun k hk=> ?_⟩
    ·refine (q6 i v ee hv hee).mono (fun _ h=>h) (fun b hb=>Aai (g1.fin b hb)) hl fun b hb=>Aai (g1.ltB id _ b ho1 rfl (.inr ?_));rw [q8];have:=(zu.1 hee).1;exact jv.2 ⟨i,by simp;omega,hb⟩
    ·show (if id=id then _ else _)=_;rw [if_pos rfl,q8]
    ·show (if H1.length=H1.length then _ else _)=_;rw [if_pos rfl])
   refine Aaw (w':=w.alloc (.mapIter (some m) clock #[] clock)) (val:= .pointer (some ⟨w.heap.size,0,none⟩)) ?_ ⟨_,_,_,F,_,h,rfl,g2,s1.trans s2,.ptr _ _ _ _ ?_⟩
   ·simp [execOp,ho,hax,Instr.range,run_underlying ht,Abj q2]
   ·unfold OwnPtr;rw [qy (by omega),show (H1++ [Ob.hand id])[H1.length]?=some (.hand id) by simp];exact ⟨rfl,rfl,w.heap.size,by show (if H1.length=H1.length then _ else _)=_;rw [if_pos rfl],rfl⟩
  ·exact h.elim
 ·exact h.elim
theorem Ad2 {seen:List Nat}: ∀ {n k i:Nat},i∈unseen seen k n↔k≤i∧i<k+n∧i∉seen
 |0,k,i=>by simp [unseen];omega
 |n+1,k,i=>by
  unfold unseen;split
  ·rename_i hm;rw [Ad2];have:=mem_iff.1 hm;constructor
   ·rintro ⟨h1,h2,h3⟩;exact ⟨by omega,by omega,h3⟩
   ·rintro ⟨h1,h2,h3⟩;have:i≠k:=fun e=>h3 (e ▸ this);exact ⟨by omega,by omega,h3⟩
  ·rename_i hm;have hk:k∉seen:=fun h=>by rw [mem_iff.2 h] at hm;contradiction
   rw [qf,Ad2];constructor
   ·rintro (rfl|⟨h1,h2,h3⟩)
    ·exact ⟨by omega,by omega,hk⟩
    ·exact ⟨by omega,by omega,h3⟩
   ·rintro ⟨h1,h2,h3⟩;by_cases e:i=k
    ·exact .inl e
    ·exact .inr ⟨by omega,by omega,h3⟩
theorem Aid {α:Type} {k:Nat→Eva.Q α} {R:α→Prop}: ∀ {l:List Nat},wpQ S (anyOf k l) R→ ∀i∈l,wpQ S (k i) R
 | [],h=>h.elim
 | [i],h=>by simpa [anyOf] using h
 |i::j::r,h=>by
  intro x hx;rcases qf.1 hx with rfl|hx
  ·exact h.1
  ·exact Aid h.2 x hx
theorem Alx {b m clock n:Nat} {es:Array MapEntry} {seen:List Nat} (ty:TypeId) (q2:w.heap[m]?=some (.map es clock)) (q3:es.size=n) (q4:EntOk es clock) (q7: ∀i∈seen,i<n) (q8:w.heap[b]?=some (.mapIter (some m) clock (seen.map fun i=>(es.getD i default).born).toArray clock)):
  (unseen seen 0 n= []∧(Instr.next (.pointer (some ⟨b,0,none⟩)) false ty).run P w= .ok (.tuple #[.bool false]) w)∨
  ∃i ee w1,es[i]?=some ee∧i∈unseen seen 0 n∧i<n∧(w1=w∨w1=w.drew)∧
   (Instr.next (.pointer (some ⟨b,0,none⟩)) false ty).run P w= .ok (.tuple #[.bool true,ee.key,ee.val]) (yd w1 b (.mapIter (some m) clock ((seen++ [i]).map fun i=>(es.getD i default).born).toArray clock)):=by
   have hold: ∀y∈es.toList,y.born<clock:=fun y hy=>by
    obtain ⟨i,hi⟩:=List.getElem?_of_mem hy;exact q4.1 i y (by simpa using hi)
   have hseen: ∀(i:Nat) ee,es[i]?=some ee→((seen.map fun i=>(es.getD i default).born).toArray.contains ee.born=true↔i∈seen):=by
    intro i ee hee;simp only [List.contains_toArray,List.contains_iff_mem,vg];constructor
    ·rintro ⟨j,hj,hjb⟩;have hjl:j<es.size:=by rw [q3];exact q7 j hj
     have:es[j]?=some (es.getD j default):=by simp [hjl]
     have:=q4.2 j i _ ee this hee hjb;exact this ▸ hj
    ·intro hi;refine ⟨i,hi,?_⟩;have hil:i<es.size:=(zu.1 hee).1;have:es[i]?=some (es.getD i default):=by simp [hil]
     rw [hee] at this;exact (congrArg MapEntry.born (ze this)).symm
   rcases run_next_at (P:=P) w ty b m clock clock _ es clock q8 q2 hold (qn _) with ⟨hz,hrun⟩|⟨ee,hee,w1,hw1,hrun⟩
   ·refine .inl ⟨?_,hrun⟩;cases hun:unseen seen 0 n with
    |nil=>rfl
    |cons i r=>
     have hi:i∈unseen seen 0 n:=by rw [hun];simp
     obtain ⟨_,hi1,hi2⟩:=Ad2.1 hi;have hil:i<es.size:=by omega
     have:es[i]∈leftOf es (seen.map fun i=>(es.getD i default).born).toArray:=by
      unfold leftOf;rw [Array.mem_filter];refine ⟨by simp,?_⟩;have:=hseen i es[i] (qp hil);simp only [Bool.not_eq_true'];cases hcc:(seen.map fun i=>(es.getD i default).born).toArray.contains es[i].born with
      |false=>rfl
      |true=>exact absurd (this.1 hcc) hi2
     have h1:=Array.size_pos_of_mem this;omega
   ·have hmem:ee∈leftOf es (seen.map fun i=>(es.getD i default).born).toArray:=by simpa using hee
    unfold leftOf at hmem;rw [Array.mem_filter] at hmem;obtain ⟨hm1,hm2⟩:=hmem;obtain ⟨i,hil,hie⟩:=Array.getElem_of_mem hm1;have hie':es[i]?=some ee:=by rw [qp hil,hie]
    have hns:i∉seen:=fun hi=>by
     have:=(hseen i ee hie').2 hi;rw [this] at hm2;simp at hm2
    have hnew:(seen.map fun i=>(es.getD i default).born).toArray.push ee.born=((seen++ [i]).map fun i=>(es.getD i default).born).toArray:=by
     have:es.getD i default=ee:=by simp [hil,hie]
     rw [vj,qo,List.map_nil,this];simp
    rw [hnew] at hrun;exact .inr ⟨i,ee,w1,hie',Ad2.2 ⟨by omega,by omega,hns⟩,by omega,hw1,hrun⟩
theorem Aqm (hg:Good ι F w H) (hs:Sim ι F w H e a) (x:Operand) (ho:o.op= .next x false) (h:wpQ S (opQ cx o e H) R):o.wp P a w (OpPost R o ι F H w a) Q:=by
 unfold opQ at h;rw [ho] at h;simp only at h;have hx:=Aaj hs x;generalize evalO e x=xv at h hx;unfold nextV at h;split at h
 ·rename_i id;rw [Aae] at h;split at h
  ·rename_i ks vs seen hob;generalize hax:a.eval x=u at hx;cases hx with
   |ptr _ _ _ _ hp=>
   unfold OwnPtr at hp;rw [hob] at hp;obtain ⟨_,_,b,hb,rfl⟩:=hp;obtain ⟨h0,hhid,b',m,es,clock,q1,hF,q2,q3,q4,q5,q6,q7,q8⟩:=hg.obj id _ hob;rw [hb] at q1;obtain rfl:=ze q1;rcases Alx (P:=P) o.type q2 q3 q4 q7 q8 with ⟨hun,hrun⟩|⟨i,ee,w1,hie',hun,hil,hw1,hrun⟩
   ·rw [hun] at h;refine Aaw (w':=w) (val:= .tuple #[.bool false]) (by simp [execOp,ho,hax,hrun]) ⟨_,H,ι,F,_,h,rfl,hg,.refl ι F H w,.tup _ _ rfl fun i y c hy hc=> ?_⟩
    match i,hy,hc with
    |0,hy,hc=>simp at hy hc;subst hy hc;exact .t _ _ (.bool _)
    |i+1,hy,hc=>simp at hy
   ·cases hl:unseen seen 0 ks.length with
    |nil=>rw [hl] at hun;simp at hun
    |cons i0 r0=>
    rw [hl] at h hun;have h:=Aid h i hun;replace h:=AaU (Aaa _ _ _ h);obtain ⟨kx,hkx,hkn,vx,hvx,hvn,h⟩:=h;obtain ⟨_,h⟩:=Aap (Aaa _ _ _ h);have hd:Good ι F w1 H∧Step ι F H w ι F H w1:=by
     rcases hw1 with rfl|rfl
     ·exact ⟨hg,.refl ι F H _⟩
     ·exact Acl hg
    have hheap:w1.heap=w.heap:=by rcases hw1 with rfl|rfl<;>rfl
    obtain ⟨d1,d2⟩:=hd;have hbl:b<w1.heap.size:=by rw [hheap];exact (zu.1 q8).1
    have hFb: ∀b',F b'→b'≠b:=fun b' hf e=>hg.sep b ⟨id,_,hob,rfl,.inl hb⟩ (e ▸ hf);have hset:=fun (ob:Obj)=>(by simp [hbl]:(w1.heap.setIfInBounds b ob)[b]?=some ob)
    have hne:=fun (ob:Obj) (b':Nat) (hb':b'≠b)=>(by simp [vf hb']:(w1.heap.setIfInBounds b ob)[b']?=w1.heap[b']?)
    obtain ⟨k1,k2⟩:=Adn (w':=yd w1 b (.mapIter (some m) clock ((seen++ [i]).map fun i=>(es.getD i default).born).toArray clock)) (o':= .iter ks vs (seen++ [i])) d1 hob rfl rfl rfl (by simp [yd]) (fun b' hb'=>by
      rcases hb' with hb'|hb'
      ·simp [Ob.ro] at hb'
      ·exact hne _ b' fun e=>hb' (e ▸ hb)) (.inr ⟨rfl,ks,vs,_,rfl⟩) (fun _=>rfl) (fun hl'=>by
      refine ⟨h0,hhid,b,m,es,clock,hb,hF,?_,q3,q4,fun i y e1 hy he1=>(q5 i y e1 hy he1).mono (fun _ h=>h) (fun b' hb'=>(hne _ b' (hFb b' hb')).trans (by rw [hheap])),fun i y e1 hy he1=>(q6 i y e1 hy he1).mono (fun _ h=>h) (fun b' hb'=>(hne _ b' (hFb b' hb')).trans (by rw [hheap])),?_,hset _⟩
      ·exact (hne _ m (hFb m hF)).trans (by rw [hheap];exact q2)
      ·intro j hj;rcases jp.1 hj with hj|hj
       ·exact q7 j hj
       ·simp at hj;subst hj;omega)
    refine Aaw (val:= .tuple #[.bool true,ee.key,ee.val]) (by simp [execOp,ho,hax,hrun]) ⟨_,_,ι,F,_,h,rfl,k1,d2.trans k2,?_⟩;have hk:=q5 i kx ee hkx hie';have hv:=q6 i vx ee hvx hie';have up: ∀ {y:T} {u:Value},TR F w y u→TR F (yd w1 b (.mapIter (some m) clock ((seen++ [i]).map fun i=>(es.getD i default).born).toArray clock)) y u:=fun h=>h.mono (fun _ h=>h) (fun b' hb'=>(hne _ b' (hFb b' hb')).trans (by rw [hheap]));refine .tup _ _ rfl fun j y c hy hc=> ?_
    match j,hy,hc with
    |0,hy,hc=>simp at hy hc;subst hy hc;exact .t _ _ (.bool _)
    |1,hy,hc=>simp at hy hc;subst hy hc;exact .t _ _ (up hk)
    |2,hy,hc=>simp at hy hc;subst hy hc;exact .t _ _ (up hv)
    |j+3,hy,hc=>simp at hy
  ·rename_i m hob;rw [Aae] at h;split at h
   ·rename_i ks xs ps it seen hom;split at h
    ·rename_i hit;obtain rfl:=zp hit;generalize hax:a.eval x=u at hx;cases hx with
     |ptr _ _ _ _ hp=>
     unfold OwnPtr at hp;rw [hob] at hp;obtain ⟨_,_,n,hn,rfl⟩:=hp;obtain ⟨⟨h0,hto,hil⟩,b,n',es,clock,fp,q1,q2,q3,q4,q5,q6,q7,q8,q9,q10,q11⟩:=hg.obj m _ hom;have hnn:=q11 m hob;rw [hn] at hnn;obtain rfl:=ze hnn;obtain ⟨n1,n2⟩:=hg.nd m _ hom rfl;rw [q8] at n1;obtain ⟨n3,_⟩:=vw.1 n1;have hbn:b≠n:=fun e=>n2 b q1 (by rw [q8,e];exact jh);rcases Alx (P:=P) o.type q2 q3 q4 q9 q10 with ⟨hun,hrun⟩|⟨i,ee,w1,hie',hun,hil',hw1,hrun⟩
     ·rw [hun] at h;obtain ⟨_,h⟩:=Aap (Aaa _ _ _ h);obtain ⟨g1,s1⟩:=AfZ (w':=w) (o':= .map ks xs ps) hg ((jq ks.length).flatMap fp) hom (fun _=>by rw [q8];exact List.sublist_cons_self _ _) rfl rfl rfl rfl (fun _ _=>rfl) (.inr ⟨rfl,rfl⟩) (fun _=>rfl) (fun hl=>
       ⟨h0,hto,b,es,clock,fp,q1,q2,q3,q4,q5,q6,fun i v e hv he=>AaL hl (q7 i v e hv he),Io.sh_eq.2⟩)
      refine Aaw (w':=w) (val:= .tuple #[.bool false]) (by simp [execOp,ho,hax,hrun]) ⟨_,_,_,F,_,h,rfl,g1,s1,.tup _ _ rfl fun i y c hy hc=> ?_⟩
      match i,hy,hc with
      |0,hy,hc=>simp at hy hc;subst hy hc;exact .t _ _ (.bool _)
      |i+1,hy,hc=>simp at hy
     ·cases hl:unseen seen 0 ks.length with
      |nil=>rw [hl] at hun;simp at hun
      |cons i0 r0=>
      rw [hl] at h hun;have h:=Aid h i hun;replace h:=AaU (Aaa _ _ _ h);obtain ⟨kx,hkx,hkn,h⟩:=h;obtain ⟨_,h⟩:=Aap (Aaa _ _ _ h);have hd:Good ι F w1 H∧Step ι F H w ι F H w1:=by
       rcases hw1 with rfl|rfl
       ·exact ⟨hg,.refl ι F H _⟩
       ·exact Acl hg
      have hheap:w1.heap=w.heap:=by rcases hw1 with rfl|rfl<;>rfl
      obtain ⟨d1,d2⟩:=hd;have hbl:n<w1.heap.size:=by rw [hheap];exact (zu.1 q10).1
      have hB:Blk ι m n:= .inr (by rw [q8];exact jh);have hFb: ∀b',F b'→b'≠n:=fun b' hf e=>hg.sep n ⟨m,_,hom,rfl,hB⟩ (e ▸ hf);have hset:=fun (ob:Obj)=>(by simp [hbl]:(w1.heap.setIfInBounds n ob)[n]?=some ob)
      have hne:=fun (ob:Obj) (b':Nat) (hb':b'≠n)=>(by simp [vf hb']:(w1.heap.setIfInBounds n ob)[b']?=w1.heap[b']?)
      have hsh:=Io.sh_self ι m;obtain ⟨k1,k2⟩:=AiJ (w':=yd w1 n (.mapIter (some b) clock ((seen++ [i]).map fun i=>(es.getD i default).born).toArray clock)) (o':= .rng ks xs ps it (seen++ [i])) d1 (ι.hid m) hom (fun _=>wy _) rfl rfl rfl (by simp [yd]) (fun b' hb'=>by
        rcases hb' with hb'|hb'
        ·simp [Ob.ro] at hb'
        ·exact hne _ b' fun e=>hb' (e ▸ hB)) (.inr ⟨rfl,rfl⟩) (fun _=>rfl) (fun hl'=>by
        rw [hsh] at hl'⊢;refine ⟨⟨h0,hto,by simpa using hil⟩,b,n,es,clock,fp,q1,?_,q3,q4,fun i y e1 hy he1=>(q5 i y e1 hy he1).mono (fun _ h=>h) (fun b' hb'=>(hne _ b' (hFb b' hb')).trans (by rw [hheap])),q6,fun j v e1 hv he1=> ?_,q8,?_,hset _,fun k hk=>hn⟩
        ·exact (hne _ b hbn).trans (by rw [hheap];exact q2)
        ·refine (q7 j v e1 hv he1).mono (fun _ h=>h) (fun b' hb'=>(hne _ b' (hFb b' hb')).trans (by rw [hheap])) (fun i o hi=> ?_) fun b' hb'=>(hne _ b' fun e=>n3 ?_).trans (by rw [hheap])
         ·obtain ⟨o1,r1,r2⟩:=d2.like i o hi;obtain ⟨o2,r3,r4⟩:=hl' i o1 r1;exact ⟨o2,r3,r2.trans r4⟩
         ·have:=(zu.1 he1).1;rw [←e];exact jv.2 ⟨j,by simp;omega,hb'⟩
        ·intro j hj;rcases jp.1 hj with hj|hj
         ·exact q9 j hj
         ·simp at hj;subst hj;omega)
      rw [hsh] at k1 k2;refine Aaw (val:= .tuple #[.bool true,ee.key,ee.val]) (by simp [execOp,ho,hax,hrun]) ⟨_,_,ι,F,_,h,rfl,k1,d2.trans k2,?_⟩;have hk:=q5 i kx ee hkx hie';have up: ∀ {y:T} {u:Value},TR F w y u→TR F (yd w1 n (.mapIter (some b) clock ((seen++ [i]).map fun i=>(es.getD i default).born).toArray clock)) y u:=fun h=>h.mono (fun _ h=>h) (fun b' hb'=>(hne _ b' (hFb b' hb')).trans (by rw [hheap]));refine .tup _ _ rfl fun j y c hy hc=> ?_
      match j,hy,hc with
      |0,hy,hc=>simp at hy hc;subst hy hc;exact .t _ _ (.bool _)
      |1,hy,hc=>simp at hy hc;subst hy hc;exact .t _ _ (up hk)
      |2,hy,hc=>simp at hy hc;subst hy hc;exact .t _ _ (.any _)
      |j+3,hy,hc=>simp at hy
    ·exact h.elim
   ·exact h.elim
  ·exact h.elim
 ·exact h.elim
theorem AeE {f:Nat→Nat}: ∀ {l:List Nat} {i:Nat},lastN l=some i→i∈l∧(l.map f).toArray.back?=some (f i)
 | [],_,h=>by simp [lastN] at h
 | [x],i,h=>by simp [lastN] at h;subst h;simp
 |x::y::r,i,h=>by
  obtain ⟨h1,h2⟩:=AeE (f:=f) (l:=y::r) h;refine ⟨qu _ h1,?_⟩;rw [List.back?_toArray] at h2⊢;rw [qo,qo,List.getLast?_cons_cons];rw [qo] at h2;exact h2
theorem AjI {b m clock i:Nat} {es:Array MapEntry} {seen:List Nat} {ee:MapEntry} (q2:w.heap[m]?=some (.map es clock)) (q4:EntOk es clock)
  (q8:w.heap[b]?=some (.mapIter (some m) clock (seen.map fun i=>(es.getD i default).born).toArray clock)) (hl:lastN seen=some i) (he:es[i]?=some ee):(Instr.entry (.pointer (some ⟨b,0,none⟩))).run P w= .ok (.tuple #[ee.key,ee.val]) w:=by
 obtain ⟨h1,h2⟩:=AeE (f:=fun i=>(es.getD i default).born) hl;have hd:es.getD i default=ee:=by
  have:=(zu.1 he)
  obtain ⟨k1,k2⟩:=this;simp [k1,k2]
 rw [hd] at h2;have hf:es.find? (fun e=>e.born==ee.born)=some ee:=by
  have hs:(es.find? (fun e=>e.born==ee.born)).isSome=true:=by
   rw [Array.find?_isSome];exact ⟨ee,Array.mem_of_getElem? he,by simp⟩
  obtain ⟨x,hx⟩:=v7.1 hs;have hb:x.born=ee.born:=by have:=Array.find?_some hx;simpa using this
  obtain ⟨j,hj,hje⟩:=Array.getElem_of_mem (Array.mem_of_find?_eq_some hx);have hj':es[j]?=some x:=by rw [qp hj,hje]
  have:=q4.2 j i _ _ hj' he hb;subst this;rw [hj'] at he;rw [hx,ze he]
 simp only [Instr.entry,getObj,xy,nh,q8,q2,mu,h2];simp [hf]
theorem Apf (hg:Good ι F w H) (hs:Sim ι F w H e a) (x:Operand) (ho:o.op= .entry x) (h:wpQ S (opQ cx o e H) R):o.wp P a w (OpPost R o ι F H w a) Q:=by
 unfold opQ at h;rw [ho] at h;simp only at h;have hx:=Aaj hs x;generalize evalO e x=xv at h hx;replace h:=Aaa _ _ _ h;unfold entryV at h;split at h
 ·rename_i id;rw [Aae] at h;split at h
  ·rename_i ks vs seen hob;split at h
   ·rename_i i hl;generalize hax:a.eval x=u at hx;cases hx with
    |ptr _ _ _ _ hp=>
    unfold OwnPtr at hp;rw [hob] at hp;obtain ⟨_,_,b,hb,rfl⟩:=hp;obtain ⟨h0,hhid,b',m,es,clock,q1,hF,q2,q3,q4,q5,q6,q7,q8⟩:=hg.obj id _ hob;rw [hb] at q1;obtain rfl:=ze q1;obtain ⟨kx,hkx,hkn,vx,hvx,hvn,h⟩:=h;have hil:=q7 i (AeE (f:=fun x=>x) hl).1;have hie:es[i]?=some es[i]:=qp (by omega);refine Aaw (val:= .tuple #[es[i].key,es[i].val]) (by simp [execOp,ho,hax,AjI q2 q4 q8 hl hie]) ⟨_,H,ι,F,_,h,rfl,hg,.refl ι F H w,?_⟩;refine .tup _ _ rfl fun j y c hy hc=> ?_
    match j,hy,hc with
    |0,hy,hc=>simp at hy hc;subst hy hc;exact .t _ _ (q5 i kx _ hkx hie)
    |1,hy,hc=>simp at hy hc;subst hy hc;exact .t _ _ (q6 i vx _ hvx hie)
    |j+2,hy,hc=>simp at hy
   ·exact h.elim
  ·rename_i m hob;rw [Aae] at h;split at h
   ·rename_i ks xs ps it seen hom;split at h
    ·rename_i i hit hl;obtain rfl:=zp hit;generalize hax:a.eval x=u at hx;cases hx with
     |ptr _ _ _ _ hp=>
     unfold OwnPtr at hp;rw [hob] at hp;obtain ⟨_,_,n,hn,rfl⟩:=hp;obtain ⟨⟨h0,hto,hil⟩,b,n',es,clock,fp,q1,q2,q3,q4,q5,q6,q7,q8,q9,q10,q11⟩:=hg.obj m _ hom;have hnn:=q11 m hob;rw [hn] at hnn;obtain rfl:=ze hnn;obtain ⟨kx,hkx,hkn,h⟩:=h;have hil:=q9 i (AeE (f:=fun x=>x) hl).1;have hie:es[i]?=some es[i]:=qp (by omega);obtain ⟨r,h,_⟩:=Ab7 h hto.1;have fin: ∀v,memP ps xs i=some v→noShut v.cells=true→R (.tup [.t kx,v],H)→o.wp P a w (OpPost R o ι F H w a) Q:=fun v hv hns h=>by
      have hvr:=((q7 i v _ hv hie).open (Ac3 hns)).1;refine Aaw (val:= .tuple #[es[i].key,es[i].val]) (by simp [execOp,ho,hax,AjI q2 q4 q10 hl hie]) ⟨_,H,ι,F,_,h,rfl,hg,.refl ι F H w,?_⟩;refine .tup _ _ rfl fun j y c hy hc=> ?_
      match j,hy,hc with
      |0,hy,hc=>simp at hy hc;subst hy hc;exact .t _ _ (q5 i kx _ hkx hie)
      |1,hy,hc=>simp at hy hc;subst hy hc;exact hvr
      |j+2,hy,hc=>simp at hy
     split at h
     ·rename_i v hf;obtain ⟨hns,h⟩:=AbO (Aaa _ _ _ h);exact fin v (by unfold memP;rw [hf]) hns h
     ·rename_i hf;obtain ⟨y,hy,_,h⟩:=h;obtain ⟨hns,h⟩:=AbO (Aaa _ _ _ h);exact fin (.t y) (by unfold memP;rw [hf,hy];rfl) hns h
    ·exact h.elim
   ·exact h.elim
  ·exact h.elim
 ·exact h.elim
end
end Go.Eva
namespace Go.Eva
open Go.RowKit
theorem AeH {α β:Type} (f:α→β) (l:Array α):l.map f=(l.toList.map f).toArray:=by rw [←Array.toList_map]
def opTy (cx:Cx) (o:Oper):Bool:=match o.op with
 | .load t _=>(cx.ti.get t).isSome
 | .store t _ _=>(cx.ti.get t).isSome
 | .convert t _ _=>(cx.ti.get t).isSome
 |_=>true
def Callable (P : Program) (cx : Cx) : Prop := ∀ f fi, cx.fn.get f = some (some fi) → ∃ fn, P.funcs[f]? = some fn ∧ fn.name ≠ "runtime.NumGoroutine" ∧ fn.body ≠ none
section
variable {P:Program} {cx:Cx} {S:Task→(Res→Prop)→Prop} {o:Oper} {e:Env} {H:Heap} {a:Act} {w:World} {ι:Io} {F:Nat→Prop} {R:V×Heap→Prop} {Q:Exit→Act→World→Prop}
theorem AbK (hcal:Callable P cx) {f:Nat} {fi:FI} (hf:cx.fn.get f=some (some fi)) (args:Array Value):(callFunc f args).run P w= .ok (.enter f args) w:=by
 obtain ⟨fn,h1,h2,h3⟩:=hcal f fi hf;simp [callFunc,h1,h2,h3]
theorem Abx (hs:Sim ι F w H e a) {xs:List Operand} {ts:List Nat} {R:List V→Prop} (h:wpQ S (args cx e xs ts) R): ∃vs,R vs∧VRs ι F w H vs (xs.map a.eval):=by
 obtain ⟨vs,h1,h2,h3⟩:=Agd hs h;refine ⟨vs,h1,by simpa using h2,?_⟩;intro i v u hv hu;simp at hu;obtain ⟨x,hx,rfl⟩:=hu;exact h3 i v x hv hx
theorem Age {f:Nat} {vals:Array Value} (hrun:(execOp a.eval o).run P w= .ok (.enter f vals) w) {K:World→Prop} (h:Calls P f vals w (fun en w'=>CPost R ι F H w en w'∧K w')):o.wp P a w (OpPost R o ι F H w a) Q:=by
 unfold Oper.wp;rw [hrun];refine y3 h ?_;rintro en w' ⟨⟨v,r,H',ι',F',rfl,h1,h2,h3,h4⟩,_⟩;exact ⟨r,H',ι',F',v,h1,rfl,h2,h3,h4⟩
theorem Aek (b:Builtin) (c:Call) (ho:o.op= .call c) (hb:c.callee= .builtin b) {us:List Value} (hus:c.args.toList.map a.eval=us): ∃consts,∀w,(execOp a.eval o).run P w=(builtin b c.argTypes o.type consts us.toArray).run P w:=by
 have hargs:c.args.map a.eval=us.toArray:=by rw [←hus];exact AeH _ _
 refine ⟨c.args.map fun| .const _=>true|_=>false,fun w=> ?_⟩;simp only [execOp,ho,resolve,hb,hargs,xy,ve,j4,invoke];rfl
def quietB:Builtin→Bool
 | .len=>true
 | .cap=>true
 | .min=>true
 | .max=>true
 |_=>false
theorem Al2 (hc:CxTy P cx) (hg:Good ι F w H) (hs:Sim ι F w H e a) (c:Call) (b:Builtin) (ho:o.op= .call c) (hb:c.callee= .builtin b) (hq:quietB b=true) (h:wpQ S (opQ cx o e H) R):Still Any P R o ι F H w a:=by
 unfold opQ at h;rw [ho] at h;simp only [hb] at h;obtain ⟨vs,h1,h2⟩:=Abx hs (Aaa _ _ _ h);clear h;obtain ⟨hl,hv⟩:=h2;obtain ⟨consts,hex⟩:=Aek (P:=P) (a:=a) b c ho hb rfl;generalize c.args.toList.map a.eval=us at*;generalize hts:c.argTypes=ts at*;obtain ⟨tl⟩:=ts;simp only at h1;have fin: ∀ {val:Value},(∀w,(execOp a.eval o).run P w= .ok (.value val) w)→BPost R ι F H w val w→Still Any P R o ι F H w a:=by
  rintro val hr ⟨r,H',ι',F',k1,k2,k3,k4⟩;exact ⟨r,H',ι',F',val,k1,k2,k3,k4,fun w _=>hr w⟩
 have one: ∀(v:V),vs= [v]→ ∃u,us= [u]∧VR ι F w H v u:=by
  rintro v rfl
  match us,hl with
  | [u],_=>exact ⟨u,rfl,hv 0 v u rfl rfl⟩
 have hq':=h1;unfold builtinV at hq';split at hq'
 ·split at hq'
  ·obtain ⟨u,rfl,hu⟩:=one _ rfl;obtain ⟨val,k1,k2⟩:=b_len (P:=P) (ty:=o.type) hc hg hu h1;exact fin (fun w=>by rw [hex];simp only [builtin,xy,k1,j4,ve]) k2
  ·exact hq'.elim
 ·split at hq'
  ·obtain ⟨u,rfl,hu⟩:=one _ rfl;obtain ⟨val,k1,k2⟩:=b_cap (P:=P) (ty:=o.type) hc hg hu h1;exact fin (fun w=>by rw [hex];simp only [builtin,xy,k1,j4,ve]) k2
  ·exact hq'.elim
 ·simp [quietB] at hq
 ·simp [quietB] at hq
 ·simp [quietB] at hq
 ·simp [quietB] at hq
 ·obtain ⟨val,k1,k2⟩:=b_min (P:=P) (ts:=⟨tl⟩) (ty:=o.type) hg hl hv h1;exact fin (fun w=>by rw [hex];simp only [builtin,xy,k1,j4,ve]) k2
 ·obtain ⟨val,k1,k2⟩:=b_max (P:=P) (ts:=⟨tl⟩) (ty:=o.type) hg hl hv h1;exact fin (fun w=>by rw [hex];simp only [builtin,xy,k1,j4,ve]) k2
 ·exact hq'.elim
theorem Aoq {sz:Nat} {xs:List T} {u:Value} (hz:0<sz) (h:TR F w (.sl sz xs) u): ∃ad la ca,u= .slice ad la ca∧(la=0∨ ∃bl o,ad=some ⟨bl,o,none⟩∧F bl∧ ∃c ty fr,w.heap[bl]?=some (.cells c ty fr)∧c.size≠0):=by
 cases h with
 |slN _ a cap=>exact ⟨_,_,_,rfl,.inl rfl⟩
 |slC _ _ b o cap c hn hcap hF hc hl hr=>
  refine ⟨_,_,_,rfl,.inr ⟨b,o,rfl,hF,?_⟩⟩;have:=(hc 0 0 (List.length_pos_iff.2 hn) hz).1;unfold dv at this;split at this
  ·rename_i cc ty fr hh;refine ⟨_,_,_,hh,fun h0=> ?_⟩;simp at this;have:=(zu.1 this).1;omega
  ·contradiction
theorem AqE (hg:Good ι F w H) {b:V} {y:Value} (hb:isOwnSl H b=true) (h:VR ι F w H b y): ∃ad la ca,y= .slice ad la ca∧(la=0∨ ∃bl o,ad=some ⟨bl,o,none⟩∧ ¬F bl∧ ∃c ty,w.heap[bl]?=some (.cells c ty (0,0))∧c.size≠0):=by
 have key: ∀ {id off:Nat} {n lim:Option Nat} {sz:Nat} {xs:List T} {sp:Option Nat},H[id]?=some (.arr sz xs sp false)→OwnSl ι w H id off n lim y→
   ∃ad la ca,y= .slice ad la ca∧(la=0∨ ∃bl o,ad=some ⟨bl,o,none⟩∧ ¬F bl∧ ∃c ty,w.heap[bl]?=some (.cells c ty (0,0))∧c.size≠0):=by
  intro id off n lim sz xs sp hid ho;have hob:=hg.obj id _ hid;unfold OwnSl at ho;rw [hid] at ho;simp only at ho;obtain ⟨ad,cap,rfl,h1,h2,h3⟩:=ho;refine ⟨_,_,_,rfl,?_⟩;by_cases h0:n.getD xs.length=0
  ·exact .inl h0
  refine .inr ?_;obtain ⟨hz,_,hob⟩:=hob;rcases hob with ⟨_,rfl,_⟩|⟨b,cs,e,hb,hh,hsz,_⟩
  ·exfalso;simp at h2 h0;omega
  ·rw [hb] at h3;simp only at h3;rcases h3.1 with h3|rfl
   ·omega
   ·refine ⟨b,_,rfl,hg.sep b ⟨id,_,hid,rfl,.inl hb⟩,cs,e,hh,fun h=> ?_⟩;have:0<xs.length:=by omega
    have:=Nat.mul_pos this hz;omega
 unfold isOwnSl at hb;split at hb
 ·split at hb
  ·rename_i hn;rw [Aae] at hn;cases h with|all _ _ _ h=>exact key hn h
  ·contradiction
 ·split at hb
  ·rename_i hn;rw [Aae] at hn;cases h with|sl _ _ _ _ _ h=>exact key hn h
  ·contradiction
 ·contradiction
theorem Aq6 (hc:CxTy P cx) (hg:Good ι F w H) {f t0:Nat} (hx:exAt cx.ex f=some (.overlaps t0)) {vs:List V} {us:List Value} (h:wpQ S (extV cx (.overlaps t0) vs H) R) (hv:VRs ι F w H vs us):
  ∃val,R (.t (.bool false),H)∧(callFunc f us.toArray).run P w= .ok (.value val) w∧VR ι F w H (.t (.bool false)) val:=by
 have hex:=hc.ex f _ hx;unfold extV at h;split at h
 ·rename_i e;cases e
 ·rename_i t a b e;cases e;obtain ⟨fn,k1,k2,k3,k4,k5,k6,el,hel⟩:=hex;rw [hel] at h;simp only at h;split at h
  ·rename_i hcond;simp only [zf] at hcond
   match us,hv with
   | [u,y],⟨_,hv⟩=>
    have hu:=hv 0 a u rfl rfl;have hy:=hv 1 b y rfl rfl;refine ⟨.bool false,h,?_,.t _ _ (.bool _)⟩;obtain ⟨e1,i,inf,e2,e3,e4,e5,e6,e7,e8⟩:=AbA hc hel;rw [run_callFunc_extern k1 k2 k3 k4 k5]
    suffices hov:(Extern.SlicesOverlaps.overlaps fn.params fn.resultTypes [u,y].toArray).run P w= .ok (.bool false) w by rw [hov];rfl
    have hpos:0<sizeOf cx el:=by omega
    have htree: ∃ad la ca,u= .slice ad la ca∧(la=0∨ ∃bl o,ad=some ⟨bl,o,none⟩∧F bl∧ ∃c ty fr,w.heap[bl]?=some (.cells c ty fr)∧c.size≠0):=by
     have h1:=hcond.1;unfold isTreeSl at h1;split at h1
     ·obtain rfl:=zp h1;cases hu with|fit _ _ _ h=>exact Aoq hpos h
     ·obtain rfl:=zp h1;exact Aoq hpos hu.t_inv
     ·contradiction
    obtain ⟨aa,la,ca,rfl,ha⟩:=htree;obtain ⟨ab,lb,cb,rfl,hb⟩:=AqE hg hcond.2 hy;have hsz:=Aa8 hc e2 w;change nh P (α:=Value) (do
     let some t := fn.params[0]? | stuck "slices.overlaps: no parameter types"
     let .slice elem ← underlying t | stuck "slices.overlaps: slice type expected"
     let size←Go.sizeOf elem
     match (aa:Option Addr),(ab:Option Addr) with
     |some a,some b=>
      if la=0∨lb=0∨size=0 then pure (m8 false)
      else if a.block !=b.block&&(←frozen a)&&(←frozen b) then unsupported .addressObserved
      else do
       if a.block !=b.block then do
        noView a;noView b
        if ← mayBeOne a b then return m8 ((← choose (.extern "sameAddr.stringBytes" 2)) == 1)
       pure (m8 (a.block==b.block&&a.off<b.off+lb*size&&b.off<a.off+la*size))
     |_,_=>pure (m8 false)) w=_
    by_cases h0:la=0∨lb=0
    ·cases aa<;>cases ab<;>rcases h0 with h0|h0<;>simp [k6,run_underlying e1,hsz,h0]
    ·obtain ⟨b1,o1,rfl,hF1,c1,ty1,fr1,hh1,hz1⟩:=ha.resolve_left (fun h=>h0 (.inl h));obtain ⟨b2,o2,rfl,hF2,c2,ty2,hh2,hz2⟩:=hb.resolve_left (fun h=>h0 (.inr h));have hne:b1≠b2:=fun e=>hF2 (e ▸ hF1);have hnb:(b1 !=b2)=true:=by simpa using hne
     have hnb':(b1==b2)=false:=by simpa using hne
     have s1:w.shape? b1=some (ty1,c1.size):=by simp [World.shape?,hh1]
     have s2:w.shape? b2=some (ty2,c2.size):=by simp [World.shape?,hh2]
     have f2: ∀o,w.frozen? ⟨b2,o,none⟩=false:=by intro o;simp [World.frozen?,hh2]
     have hs0: ¬sizeOf cx el=0:=by omega
     obtain ⟨q1,q2⟩:=not_or.1 h0;obtain ⟨m1,hm1⟩:=pw hz1;obtain ⟨m2,hm2⟩:=pw hz2;rw [hm1] at s1;rw [hm2] at s2;simp [k6,run_underlying e1,hsz,q1,q2,hs0,hnb,hnb',frozen,noView,viewAt,mayBeOne,stringish,shape,nh,s1,s2,f2]
  ·exact h.elim
 ·rename_i e;cases e
 ·rename_i e;cases e
 ·exact h.elim
theorem AmO {w':World} (hg:Good ι F w H) (hb:Below w.heap.size w w'):
  Good ι (fun b=>F b∨(w.heap.size≤b∧b<w'.heap.size)) w' H∧Step ι F H w ι (fun b=>F b∨(w.heap.size≤b∧b<w'.heap.size)) H w':=by
 have hl: ∀i oi,H[i]?=some oi→ ∃o'',H[i]?=some o''∧Like ι ι w w' i oi o'':=
  fun i oi hi=>⟨oi,hi,Like.of rfl fun hd b hbb=>hb.block b (hg.lt i _ b hi hd hbb)⟩
 have hlt: ∀b,Own ι H b→b<w.heap.size:=by
  rintro b ⟨id,ob,h1,h2,h3⟩;exact hg.ltB id ob b h1 (Aa4 h2) h3
 refine ⟨⟨?_,fun id ob h=>(hg.obj id ob h).mono (fun _ h=> .inl h) (fun b hbb=>hb.block b (hg.fin b hbb)) hl (fun _=>⟨rfl,rfl⟩) (fun hd b hbb=>hb.block b (hg.ltB id ob b h hd hbb)),hg.inj,?_,fun id ob b h hd hr hb=> .inl (hg.rof id ob b h hd hr hb),hg.nd⟩,
  ⟨hb.os,hb.tape,hb.output,hb.size,fun b hbb _=>hb.block b hbb,fun _ _ h=>h,fun _ h=> .inl h,?_,hl,fun _ _ h=>h⟩⟩
 ·rintro b (h|h)
  ·exact Nat.lt_of_lt_of_le (hg.fin b h) hb.size
  ·exact h.2
 ·rintro b ho (h|h)
  ·exact hg.sep b ho h
  ·exact absurd (hlt _ ho) (by omega)
 ·rintro b hbb (h|h)
  ·exact .inl h
  ·omega
theorem Aef: ∀ {xs:List T},noShutT xs=true→ ∀(i:Nat) x,xs[i]?=some x→x.shut=false
 | [],_,i,x,h=>by simp at h
 |y::r,hn,i,x,h=>by
  unfold noShutT at hn;split at hn
  ·contradiction
  ·rename_i hy;cases i with
   |zero=>simp at h;subst h;exact hy
   |succ i=>exact Aef hn i x (by simpa using h)
theorem Alp: ∀ {ks:List T},keysB .i64 ks=true→ks=(keyInts ks).map (.int .i64)
 | [],_=>rfl
 |x::r,h=>by
  unfold keysB at h;split at h
  ·rename_i e;cases e
  ·rename_i e;cases e;simp only [zf,decide_eq_true_eq] at h;obtain ⟨rfl,h⟩:=h;simp only [keyInts,qo];rw [←Alp h]
  ·contradiction
theorem ApZ (hc:CxTy P cx) (hg:Good ι F w H) {f:Nat} {gs:List Nat} (hx:exAt cx.ex f=some (.keys gs)) {vs:List V} {us:List Value} (h:wpQ S (extV cx (.keys gs) vs H) R) (hv:VRs ι F w H vs us):
  (∀args w,(callFunc f args).run P w= .ok (.enter f args) w)∧Calls P f us.toArray w (fun en w'=>CPost R ι F H w en w'∧True):=by
 obtain ⟨he,hex⟩:=hc.ex f _ hx;refine ⟨he,?_⟩;unfold extV at h;split at h
 ·rename_i g' f' b e;cases e;split at h
  ·rename_i m ro hf hb;have hf:=mem_iff.1 hf;split at h
   ·rename_i ks xs ps hm;obtain ⟨hk,h⟩:=h;rw [Aae] at hb hm
    match us,hv with
    | [u],⟨_,hv⟩=>
     have hu:=hv 0 _ u rfl rfl;cases hu with
     |clo _ _ cvs hl hcs=>
     obtain ⟨cvs⟩:=cvs
     match cvs,hl with
     | [c],_=>
     have hc1:=hcs 0 _ c rfl rfl;cases hc1 with
     |ptr _ _ _ _ hp=>
     unfold OwnPtr at hp;rw [hb] at hp;obtain ⟨bb,hbb,rfl⟩:=hp;obtain ⟨h1,h2,h0,b1,cs,ty,fp,h3,h4,h5,h6,h7,h8⟩:=hg.obj _ _ hb;rw [hbb] at h3;cases h3;have hcs0:cs[0]?=some (cs[0]'(by omega)):=qp _;have hcell:=((h7 0 (.map m) _ rfl hcs0).open rfl).1;generalize cs[0]'(by omega)=c0 at hcs0 hcell;cases hcell with
     |map _ _ hmap=>
     unfold OwnMap at hmap;rw [hm] at hmap;obtain ⟨bm,hbm,rfl⟩:=hmap;obtain ⟨g1,g2,b2,es,clock,fp2,g3,g4,g5,g6,g7,g8,g9,g10⟩:=hg.obj _ _ hm;rw [hbm] at g3;cases g3;simp only [goodKeys,zf] at hk;obtain ⟨⟨hkb,hgood⟩,hsz⟩:=hk;have hks:=Alp hkb;have hlen:ks.length=(keyInts ks).length:=by have:=congrArg zj hks;rwa [wj] at this
     have hcell1:w.cell? ⟨bb,0,none⟩=some (.map (some bm)):=by
      simp [dv,h4,hcs0]
     refine (hex _ hf w bb bm es clock (keyInts ks) hcell1 g4 g6 (by omega) (fun i z e hz he=> ?_) hgood (by have:=jf hsz;omega)).mono ?_
     ·have hkk:ks[i]?=some (.int .i64 z):=by rw [hks,qb,hz];rfl
      have:=g7 i _ e hkk he;generalize e.key=kv at this;cases this;rfl
     ·rintro en w' ⟨v,rfl,htr,hbl⟩;obtain ⟨q1,q2⟩:=AmO hg hbl;exact ⟨⟨v,_,H,ι,_,rfl,h,q1,q2,.t _ _ (htr.mono (fun _ h=> .inr h) (fun _ _=>rfl))⟩,trivial⟩
   ·exact h.elim
  ·exact h.elim
 ·rename_i e;cases e
 ·rename_i e;cases e
 ·rename_i e;cases e
 ·exact h.elim
theorem Aqv (hc:CxTy P cx) (hg:Good ι F w H) {f:Nat} (hx:exAt cx.ex f=some .twin) {vs:List V} {us:List Value} (h:wpQ S (extV cx .twin vs H) R) (hv:VRs ι F w H vs us):
  (∀args w,(callFunc f args).run P w= .ok (.enter f args) w)∧Calls P f us.toArray w (fun en w'=>CPost R ι F H w en w'∧True):=by
 obtain ⟨he,hn,hex⟩:=hc.ex f _ hx;refine ⟨he,?_⟩;unfold extV at h;split at h
 ·rename_i e;cases e
 ·rename_i e;cases e
 ·match us,hv with
  | [u],⟨_,hv⟩=>
   have hu:=(hv 0 _ u rfl rfl).t_inv;cases hu;refine (hn w).mono ?_;rintro en w' ⟨rfl,rfl⟩;exact ⟨⟨_,_,H,ι,F,rfl,h,hg,.refl ι F H _,.t _ _ .nilm⟩,trivial⟩
 ·rename_i id _
  match us,hv with
  | [u],⟨_,hv⟩=>
   have hu:=hv 0 _ u rfl rfl;cases hu with
   |map _ _ hm=>
   split at h
   ·rename_i ks xs ho;rw [Aae] at ho;obtain ⟨hns,h⟩:=Abc h;replace h:=Aar (Aaa _ _ _ h);unfold OwnMap at hm;rw [ho] at hm;obtain ⟨m,hm,rfl⟩:=hm;obtain ⟨h0,hto,m',es,clock,fp,q1,q2,q3,q4,q5,q7,q6,q8⟩:=hg.obj id _ ho;rw [hm] at q1;obtain rfl:=ze q1;refine (hex w m es clock q2).mono ?_;rintro en w' ⟨rfl,rfl⟩;obtain ⟨g1,g2⟩:=Aen hg (.map ks xs []) (.map es clock) rfl (by
     refine ⟨h0,hto,w.heap.size,es,clock,fun _=> [],Aak.1,Aau,q3,q4,fun i x e hx he=>(q5 i x e hx he).mono (fun _ h=>h) (fun b hb=>Aai (hg.fin b hb)),q7,fun i v e hv he=> ?_,by simp [Aak.2]⟩;have hsh:v.shut=false:=by
      simp only [memP,findP] at hv;obtain ⟨x,hx,rfl⟩:=qa.1 hv;exact Aef hns i x hx
     exact .v _ _ (((q6 i v e hv he).open hsh).1.mono (fun _ h=>h) (fun b hb=>Aai (hg.fin b hb)) (Adc hg.lt)))
    exact ⟨⟨_,_,_,_,F,rfl,h,g1,g2,.map _ _ (by
     unfold OwnMap;rw [show (H++ [Ob.map ks xs []])[H.length]?=some (.map ks xs []) by simp];exact ⟨_,Aak.1,rfl⟩)⟩,trivial⟩
   ·exact h.elim
 ·exact h.elim
theorem Ao8 (hg:Good ι F w H) {b:Bool} {v:V} {u:Value} (h:wpQ S (pooled b v H) R) (hv:VR ι F w H v u): ∃r H' ι',R (r,H')∧Good ι' F w H'∧Step ι F H w ι' F H' w∧VR ι' F w H' r u:=by
 have stay:R (v,H)→ ∃r H' ι',R (r,H')∧Good ι' F w H'∧Step ι F H w ι' F H' w∧VR ι' F w H' r u:=fun h=>⟨v,H,ι,h,hg,.refl ..,hv⟩
 unfold pooled at h;split at h
 ·rename_i n;split at h
  ·rename_i sz x p bs xs hn hp;rw [Aae] at hn;have hp':H[p]?=some (.pool bs xs):=by simpa using (AgM hp).2
   split at h
   ·rename_i hcond;simp only [zf] at hcond;obtain ⟨hns,hlen⟩:=hcond;have hlen:=jf hlen;cases hv with
    |ptr _ _ _ _ hpp=>
    unfold OwnPtr at hpp;rw [hn] at hpp;obtain ⟨c,hc,rfl⟩:=hpp;obtain ⟨h1,h2,_,c',cs,e,fp,h3,h4,h5,h6,h7,h8⟩:=hg.obj n _ hn;rw [hc] at h3;obtain rfl:=ze h3;obtain ⟨⟨p1,p0,p2⟩,p3⟩:=hg.obj p _ hp';have hne:n≠p:=by
     rintro rfl;rw [hn] at hp';simp at hp'
    have h:wpQ S ((setH H n .dead).bind fun H=>(setH H p (.pool (bs++ [c]) (xs++ [x]))).bind fun H=>Eva.Q.ret (V.t (.pin (.pointer (some ⟨c,0,none⟩))),H)) R:=h c (fun hcb=>hne (hg.inj n p _ _ c hn hp' rfl rfl (.inl hc) (.inr (by rw [p0];exact hcb))));obtain ⟨q1,h⟩:=Aap (Aaa _ _ _ h);obtain ⟨q2,h⟩:=Aap (Aaa _ _ _ h);have hcells:(V.t x).cells=x.cells.map V.t:=by cases x<;>rfl
    have hsz:x.cells.length=sz:=by rw [←h2];unfold V.size;rw [hcells];simp
    have each: ∀(j:Nat) t (d:Value),x.cells[j]?=some t→cs[j]?=some d→TR F w t d∧fp j= []:=by
     intro j t d ht hd;obtain ⟨k1,k2⟩:=(h7 j (.t t) d (by rw [hcells];simp [ht]) hd).open (Aef hns j t ht);exact ⟨k1.t_inv,k2⟩
    have hhid:ι.hid n= []:=by
     rw [h8,List.flatMap_eq_nil_iff];intro j hj;have hj:=List.mem_range.1 hj;have a1:j<x.cells.length:=by omega
     have a2:j<cs.size:=by omega
     exact (each j _ _ (zt a1) (qp a2)).2
    obtain ⟨g1,g2⟩:=Ahx (o':= .pool (bs++ [c]) (xs++ [x])) (hid':=bs++ [c]) hg hne hp' hn rfl rfl rfl (by rw [p0,hc,hhid];simp) (.inr ⟨rfl,_,_,rfl⟩) (fun _=>by
     refine ⟨⟨p1,by simp [Io.sh],by simp [p2]⟩,fun i y d hy hd=> ?_⟩;rw [List.getElem?_append] at hy hd;by_cases hi:i<xs.length
     ·rw [if_pos hi] at hy;rw [if_pos (by omega)] at hd;exact p3 i y d hy hd
     ·rw [if_neg hi] at hy;rw [if_neg (by omega)] at hd;have hi0:i=xs.length:=by
       have:=(zh.1 hy).1;simp at this;omega
      subst hi0;simp at hy;rw [p2] at hd;simp at hd;subst hy hd;exact ⟨⟨fun e=>h1 (by rw [e]),hlen⟩,cs,e,h4,by omega,h6,fun j t d ht hd=>(each j t d ht hd).1⟩)
    exact ⟨_,_,_,h,g1,g2,.t _ _ (.pin _ rfl)⟩
   ·exact stay h
  ·exact stay h
 ·exact stay h
theorem Agl {b:Bool} {en:Ending} {w':World} (h:CPost (fun x=>wpQ S (pooled b x.1 x.2) R) ι F H w en w'):CPost R ι F H w en w':=by
 obtain ⟨v,r,H',ι',F',rfl,h1,h2,h3,h4⟩:=h;obtain ⟨r',H2,ι2,k1,k2,k3,k4⟩:=Ao8 h2 h1 h4;exact ⟨v,r',H2,ι2,F',rfl,k1,k2,h3.trans k3,k4⟩
theorem Aql (hc:CxTy P cx) (hcal:Callable P cx) (hS: ∀f az H R,S (.call f az H) R→CallS P f az H R) (hg:Good ι F w H) (hs:Sim ι F w H e a) (c:Call) (ho:o.op= .call c) (h:wpQ S (opQ cx o e H) R):o.wp P a w (OpPost R o ι F H w a) Q:=by
 have h0:=h;unfold opQ at h;rw [ho] at h;simp only at h;split at h
 ·
  rename_i b hb;by_cases hqb:quietB b=true
  ·exact (Al2 hc hg hs c b ho hb hqb h0).wp trivial
  obtain ⟨vs,h1,h2⟩:=Abx hs (Aaa _ _ _ h);clear h;have fin: ∀ {val:Value} {w':World},(execOp a.eval o).run P w= .ok (.value val) w'→BPost R ι F H w val w'→o.wp P a w (OpPost R o ι F H w a) Q:=by
   rintro val w' hr ⟨r,H',ι',F',k1,k2,k3,k4⟩;exact Aaw hr ⟨r,H',ι',F',val,k1,rfl,k2,k3,k4⟩
  obtain ⟨hl,hv⟩:=h2;obtain ⟨consts,hex⟩:=Aek (P:=P) (a:=a) b c ho hb rfl;generalize c.args.toList.map a.eval=us at*;generalize hts:c.argTypes=ts at*;obtain ⟨tl⟩:=ts;simp only at h1;have one: ∀(v:V),vs= [v]→ ∃u,us= [u]∧VR ι F w H v u:=by
   rintro v rfl
   match us,hl with
   | [u],_=>exact ⟨u,rfl,hv 0 v u rfl rfl⟩
  have two: ∀(v x:V),vs= [v,x]→ ∃u y,us= [u,y]∧VR ι F w H v u∧VR ι F w H x y:=by
   rintro v x rfl
   match us,hl with
   | [u,y],_=>exact ⟨u,y,rfl,hv 0 v u rfl rfl,hv 1 x y rfl rfl⟩
  have hq:=h1;unfold builtinV at hq;split at hq
  ·simp [quietB] at hqb
  ·simp [quietB] at hqb
  ·split at hq
   ·obtain ⟨u,y,rfl,hu,hy⟩:=two _ _ rfl;obtain ⟨val,w',k1,k2,_⟩:=AkK (ty:=o.type) hc hg hu hy h1;exact fin (by rw [hex];simp only [builtin,xy,k1,j4,ve]) k2
   ·exact hq.elim
  ·split at hq
   ·obtain ⟨u,rfl,hu⟩:=one _ rfl;obtain ⟨val,w',k1,k2⟩:=ApH (ty:=o.type) hc hg hu h1;exact fin (by rw [hex];simp only [builtin,xy,k1,j4,ve]) k2
   ·exact hq.elim
  ·split at hq
   ·obtain ⟨u,y,rfl,hu,hy⟩:=two _ _ rfl;obtain ⟨val,w',k1,k2⟩:=Aq3 (ty:=o.type) hc hg hu hy h1;exact fin (by rw [hex];simp only [builtin,xy,k1,j4,ve]) k2
   ·exact hq.elim
  ·split at hq
   ·obtain ⟨u,y,rfl,hu,hy⟩:=two _ _ rfl;obtain ⟨w',k1,H',ι',k2,k3,k4⟩:=AnH (ty:=o.type) hc hg hu hy hq;exact fin (by rw [hex];simp only [builtin,xy,k1,j4,ve]) ⟨_,H',ι',F,k2,k3,k4,.tup [] #[] rfl (by simp)⟩
   ·exact hq.elim
  ·simp [quietB] at hqb
  ·simp [quietB] at hqb
  ·exact hq.elim
 ·
  rename_i f hf;split at h
  ·rename_i x hx;obtain ⟨vs,h1,h2⟩:=Abx hs (Aaa _ _ _ h);have hargs:c.args.map a.eval=((c.args.toList.map a.eval).toArray):=AeH _ _;cases x with
   |twin=>
    obtain ⟨k1,k2⟩:=Aqv (P:=P) hc hg hx h1 h2;refine Age ?_ k2;simp only [execOp,ho,resolve,hf,show a.eval (.func f)= .func (.func f) #[] #[] from rfl];simp [kq,invoke,k1,hargs]
   |keys g=>
    obtain ⟨k1,k2⟩:=ApZ (P:=P) hc hg hx h1 h2;refine Age ?_ k2;simp only [execOp,ho,resolve,hf,show a.eval (.func f)= .func (.func f) #[] #[] from rfl];simp [kq,invoke,k1,hargs]
   |overlaps t0=>
   obtain ⟨val,h3,h4⟩:=Aq6 (P:=P) hc hg hx h1 h2;refine Aaw (w':=w) (val:=val) ?_ ⟨_,_,ι,F,val,h3,rfl,hg,.refl ι F H w,h4.2⟩;simp only [execOp,ho,resolve,hf,show a.eval (.func f)= .func (.func f) #[] #[] from rfl];simp [kq,invoke,h4.1,hargs]
  obtain ⟨vs,h1,h2⟩:=Abx hs (Aaa _ _ _ h);clear h;have hfi: ∃fi,cx.fn.get f=some (some fi):=by
   have h1:=Aaa _ _ _ h1;unfold callF at h1;split at h1
   ·rename_i fi hfi;exact ⟨fi,hfi⟩
   ·exact h1.elim
  obtain ⟨fi,hfi⟩:=hfi;have hk:Calls P f _ w (fun en w'=>CPost R ι F H w en w'∧True):=y3 (Aig (P:=P) hS hg (Aaa _ _ _ h1) h2) fun en w' k=>⟨Agl k.1,trivial⟩
  have hargs:c.args.map a.eval=((c.args.toList.map a.eval).toArray):=AeH _ _;refine Age ?_ hk;simp only [execOp,ho,resolve,hf,show a.eval (.func f)= .func (.func f) #[] #[] from rfl];simp [kq,invoke,AbK hcal hfi,hargs]
 ·rename_i x _ hx;have hev:=Aaj hs x;have hargs:c.args.map a.eval=((c.args.toList.map a.eval).toArray):=AeH _ _;split at h
  ·rename_i f cs he;rw [he] at hev
   ·obtain ⟨hfb,h⟩:=h;obtain ⟨fi,hfi⟩: ∃fi,cx.fn.get f=some (some fi):=by
     unfold isFnB at hfb;split at hfb
     ·exact ⟨_,by assumption⟩
     ·contradiction
    obtain ⟨vs,h1,h2⟩:=Abx hs (Aaa _ _ _ h);have hv:=hev.t_inv;generalize hxe:a.eval x=u at hv hev;cases hv with
    |clo _ _ cvs hl hcs=>
    have hk:=Aeh (P:=P) (cvs:=cvs.toList) hS hg h1 h2 (by simpa using hl) (fun i t u ht hu=>hcs i t u ht (by simpa using hu));refine Age ?_ hk;simp only [execOp,ho,resolve,hx,hxe];simp [kq,invoke,AbK hcal hfi]
  ·rename_i f cs he;rw [he] at hev;obtain ⟨vs,h1,h2⟩:=Abx hs (Aaa _ _ _ h);have hfi: ∃fi,cx.fn.get f=some (some fi):=by
    unfold callF at h1;split at h1
    ·rename_i fi hfi;exact ⟨fi,hfi⟩
    ·exact h1.elim
   obtain ⟨fi,hfi⟩:=hfi;generalize hxe:a.eval x=u at hev;cases hev with
   |clo _ _ cvs hl hcs=>
   have hall:VRs ι F w H (vs++cs) (c.args.toList.map a.eval++cvs.toList):=by
    refine ⟨by simp [h2.1,hl],?_⟩;intro i v u hv hu;have hlen:vs.length=(c.args.toList.map a.eval).length:=h2.1;rcases wo i vs.length with hi|hi
    ·rw [qq hi] at hv;rw [qq (by omega)] at hu;exact h2.2 i v u hv hu
    ·rw [qg hi] at hv;rw [qg (by omega)] at hu;exact hcs _ v u hv (by rw [hlen];simpa using hu)
   have hk:=Aig (P:=P) hS hg h1 hall;refine Age ?_ hk;simp only [execOp,ho,resolve,hx,hxe];simp [kq,invoke,AbK hcal hfi]
  ·exact h.elim
 ·exact h.elim
theorem AqB (hc:CxTy P cx) (hcal:Callable P cx) (hS: ∀f az H R,S (.call f az H) R→CallS P f az H R) (hg:Good ι F w H) (hs:Sim ι F w H e a) (hty:opTy cx o=true) (h:wpQ S (opQ cx o e H) R):o.wp P a w (OpPost R o ι F H w a) Q:=by
 have h0:=h;unfold opTy at hty;unfold opQ at h;simp only at h;split at h
 ·rename_i x ho;rw [show o.op=_ from ho] at hty;exact (AiC hg hs x (.inl ho) h).wp trivial
 ·rename_i x ho;exact (AiC hg hs x (.inr ho) h).wp trivial
 ·rename_i c x y ho;exact (AnW hg hs c x y ho h0).wp trivial
 ·rename_i t ho;exact dg (fun _ _ h=>h.1) (Alz hc hg t ho h0)
 ·rename_i t x ho;exact dg (fun _ _ h=>h.1) (Ap8 hg hs t x ho h0)
 ·rename_i t ps ho;exact (Al0 hc hg hs t ps ho h0).wp trivial
 ·rename_i t n ps ho;exact dg (fun _ _ h=>h.1) (AeJ hc hg hs t n ps ho h0)
 ·rename_i t x ho;rw [ho] at hty;exact (AnU hc hg hs t x ho (v7.1 hty) h0).wp (OldSame.refl w)
 ·rename_i t x y ho;rw [ho] at hty;exact Api hc hg hs t x y ho (v7.1 hty) h0
 ·rename_i x ho;exact (AgJ hg hs x ho h0).wp trivial
 ·rename_i op t x y yt ho;exact (Ap7 hc hg hs op t x y yt ho h0).wp trivial
 ·rename_i op t x ho;exact (op_un hg hs op t x ho h0).wp trivial
 ·rename_i s t x ho;rw [ho] at hty;exact (AhG hc hg hs s t x ho (v7.1 hty) h0).wp trivial
 ·rename_i t ho;exact dg (fun _ _ h=>h.1) (AhI hg t ho h0)
 ·rename_i t x i b ho;exact AnV hc hg hs t x i b ho h0
 ·rename_i t x i v ho;exact Aj6 hc hg hs t x i v ho h0
 ·rename_i t x ho;exact Apg hc hg hs t x ho h0
 ·rename_i x ho;exact Aqm hg hs x ho h0
 ·rename_i x ho;exact Apf hg hs x ho h0
 ·rename_i f fi cs ho;exact (AgI hg hs f fi cs ho h0).wp trivial
 ·rename_i t l c ho;exact dg (fun _ _ h=>h.1) (Af5 hc hg hs t l c ho h0)
 ·rename_i t x lo hi mx ho;exact (Al3 hc hg hs t x lo hi mx ho h0).wp trivial
 ·rename_i t x f ho;exact (Af3 hc hg hs t x f ho h0).wp trivial
 ·rename_i t x f ho;exact (Al1 hc hg hs t x f ho h0).wp trivial
 ·rename_i t x i ho;exact (Af4 hc hg hs t x i ho h0).wp trivial
 ·rename_i x i ho;exact (AhH hg hs x i ho h0).wp trivial
 ·rename_i c ho;exact Aql hc hcal hS hg hs c ho h0
 ·exact h.elim
end
end Go.Eva
namespace Go.Eva
open Go.RowKit
section
variable {P:Program} {cx:Cx} {S:Task→(Res→Prop)→Prop} {w:World} {F:Nat→Prop}
theorem Aob {ι:Io} {H:Heap} {v:V} {u:Value} {R:V×Heap→Prop} (hg:Good ι F w H) (h:wpQ S (ownV v H) R) (hv:VR ι F w H v u):
  ∃v' H' ι',R (v',H')∧Good ι' F w H'∧Step ι F H w ι' F H' w∧VR ι' F w H' v' u:=by
 unfold ownV at h;split at h
 ·rename_i s;split at h
  ·rename_i hs;have hs:0<s:=by simpa using hs
   replace h:=Aar (Aaa _ _ _ h);obtain ⟨k1,k2⟩:=Adp hg s hs;refine ⟨_,_,_,h,k1,k2,.all _ _ _ ?_⟩;cases hv with
   |fit _ _ a h=>
    unfold OwnSl;rw [qg (qn _)];simp only [fv,ua];refine ⟨a,0,rfl,qn _,qn _,?_⟩;simp [upd,updH]
  ·exact ⟨_,_,ι,h,hg,.refl ι F H w,hv⟩
 ·exact ⟨_,_,ι,h,hg,.refl ι F H w,hv⟩
theorem Aih {ι:Io} {H:Heap} {v:V} {vs:List V} {u:Value} {us:List Value} (h:VR ι F w H v u) (k:VRs ι F w H vs us):VRs ι F w H (v::vs) (u::us):=by
 refine ⟨by simp [k.1],fun i x y hx hy=> ?_⟩;cases i with
 |zero=>simp at hx hy;subst hx;subst hy;exact h
 |succ i=>exact k.2 i x y (by simpa using hx) (by simpa using hy)
theorem AbM {ι ι':Io} {F':Nat→Prop} {w':World} {H H':Heap} (hg:Good ι F w H) (h:Step ι F H w ι' F' H' w') {vs:List V} {us:List Value} (hv:VRs ι F w H vs us):VRs ι' F' w' H' vs us:=
 ⟨hv.1,fun i x y hx hy=>h.vr hg (hv.2 i x y hx hy)⟩
theorem Aoa {own:List Nat}: ∀ {ts:List Nat} {vs:List V} {us:List Value} {ι:Io} {H:Heap} {R:List V×Heap→Prop},Good ι F w H→wpQ S (ownL own ts vs H) R→VRs ι F w H vs us→
  ∃vs' H' ι',R (vs',H')∧Good ι' F w H'∧Step ι F H w ι' F H' w∧VRs ι' F w H' vs' us:=by
 intro ts;induction ts with
 |nil=>
  intro vs us ι H R hg h hv;have h:R (vs,H):=by cases vs<;>exact h
  exact ⟨_,_,ι,h,hg,.refl ι F H w,hv⟩
 |cons t ts ih=>
  intro vs us ι H R hg h hv
  match vs,us,hv with
  | [],us,hv=>exact ⟨_,_,ι,h,hg,.refl ι F H w,hv⟩
  |v::vs,[],hv=>exact absurd hv.1 (by simp)
  |v::vs,u::us,hv=>
   have h0:=hv.2 0 v u rfl rfl;have ht:VRs ι F w H vs us:=⟨by simpa using hv.1,fun i x y hx hy=>hv.2 (i+1) x y (by simpa using hx) (by simpa using hy)⟩
   unfold ownL at h;split at h
   ·obtain ⟨v',H1,ι1,h1,g1,s1,r1⟩:=Aob hg (Aaa _ _ _ h) h0;obtain ⟨vs',H2,ι2,h2,g2,s2,r2⟩:=ih g1 (Aaa _ _ _ h1) (AbM hg s1 ht);exact ⟨_,_,ι2,h2,g2,s1.trans s2,Aih (s2.vr g1 r1) r2⟩
   ·obtain ⟨vs',H2,ι2,h2,g2,s2,r2⟩:=ih hg (Aaa _ _ _ h) ht;exact ⟨_,_,ι2,h2,g2,s2,Aih (s2.vr hg h0) r2⟩
theorem Alv {ι:Io} {H:Heap} (hg:Good ι F w H) {id s:Nat} {xs:List T} {sp:Option Nat} (ho:H[id]?=some (.arr s xs sp false)) (n:Nat):
  Good (upd ι H.length (ι id)) F w (H.set id .dead++ [.arr s (xs.take n) none false])∧Step ι F H w (upd ι H.length (ι id)) F (H.set id .dead++ [.arr s (xs.take n) none false]) w:=by
 refine AgQ hg ho rfl rfl rfl rfl rfl rfl rfl (fun _ _=>rfl) (fun _ _=> ?_);have new:upd ι H.length (ι id) H.length=ι id:=by exact Aak.1
 obtain ⟨h0,_,h⟩:=hg.obj id _ ho;refine ⟨h0,Aak.2,?_⟩;rw [new];rcases h with ⟨h1,rfl,h3⟩|⟨b,cs,e,h1,h2,h3,h4,h5,h6,h7⟩
 ·exact .inl ⟨h1,by simp,fun k hk=>by simp at hk⟩
 ·have hle:(xs.take n).length≤xs.length:=by simp;omega
  refine .inr ⟨b,cs,e,h1,h2,yp (qj s hle) h3,fun k hk=>by simp at hk,h5,h6,?_⟩;obtain ⟨c,c1,c2,c3⟩:=h7;have get: ∀(i:Nat) x,(xs.take n)[i]?=some x→xs[i]?=some x:=by
   intro i x hx;rw [List.getElem?_take] at hx;split at hx
   ·exact hx
   ·contradiction
  exact ⟨c,fun i j hi hj=>c1 i j (by omega) hj,fun i x hx=>c2 i x (get i x hx),fun i j x t hx=>c3 i j x t (get i x hx)⟩
theorem Aps {ι:Io} {H:Heap} {v:V} {u:Value} {R:V×Heap→Prop} (hg:Good ι F w H) (h:wpQ S (tidyV v H) R) (hv:VR ι F w H v u):
  ∃v' H' ι',R (v',H')∧Good ι' F w H'∧Step ι F H w ι' F H' w∧VR ι' F w H' v' u:=by
 have key: ∀ {id s len:Nat} {xs:List T} {sp:Option Nat} {n:Option Nat},H[id]?=some (.arr s xs sp false)→OwnSl ι w H id 0 n none u→n.getD xs.length=len→
   OwnSl (upd ι H.length (ι id)) w (H.set id .dead++ [.arr s (xs.take len) none false]) H.length 0 none none u:=by
  intro id s len xs sp n hid ho hn;unfold OwnSl at ho⊢;rw [hid] at ho;simp only [SlAt,hn] at ho;rw [qg (by simp)];simp only [vm,fv,ua,SlAt,Option.getD_none];obtain ⟨a,cap,rfl,h1,h2,h3⟩:=ho;have hl:(xs.take len).length=len:=by simp;omega
  refine ⟨a,cap,by rw [hl],by rw [hl];exact h1,by rw [hl];omega,?_⟩;have new:upd ι H.length (ι id) H.length=ι id:=by exact Aak.1
  rw [new];exact h3
 unfold tidyV at h;split at h
 ·rename_i id;split at h
  ·rename_i s xs sp hid;rw [Aae] at hid;obtain ⟨_,h⟩:=Aap (Aaa _ _ _ h);replace h:=Aar (Aaa _ _ _ h);cases hv with
   |all _ _ _ ho=>
    obtain ⟨k1,k2⟩:=Alv hg hid xs.length;have k3:=key hid ho (len:=xs.length) rfl;rw [List.take_length] at k1 k2 k3;simp only [vm] at h;exact ⟨_,_,_,h,k1,k2,.all _ _ _ k3⟩
  ·exact h.elim
 ·rename_i id off len;split at h
  ·rename_i s xs sp hid hoff;obtain rfl:=zp hoff;rw [Aae] at hid;replace h:wpQ S ((setH H id .dead).bind fun H=>(alloc (.arr s (xs.take len) none false) H).bind fun x=> .ret (.all x.1 none,x.2)) R:=h;obtain ⟨_,h⟩:=Aap (Aaa _ _ _ h);replace h:=Aar (Aaa _ _ _ h);cases hv with
   |sl _ _ _ _ _ ho=>
    obtain ⟨k1,k2⟩:=Alv hg hid len;have k3:=key hid ho (len:=len) rfl;simp only [vm] at h;exact ⟨_,_,_,h,k1,k2,.all _ _ _ k3⟩
  ·exact h.elim
 ·exact Aob hg h hv
theorem Apr: ∀ {vs:List V} {us:List Value} {ι:Io} {H:Heap} {R:List V×Heap→Prop},Good ι F w H→wpQ S (tidyL vs H) R→VRs ι F w H vs us→
  ∃vs' H' ι',R (vs',H')∧Good ι' F w H'∧Step ι F H w ι' F H' w∧VRs ι' F w H' vs' us:=by
 intro vs;induction vs with
 |nil=>intro us ι H R hg h hv;exact ⟨_,_,ι,h,hg,.refl ι F H w,hv⟩
 |cons v vs ih=>
  intro us ι H R hg h hv
  match us,hv with
  | [],hv=>exact absurd hv.1 (by simp)
  |u::us,hv=>
   have h0:=hv.2 0 v u rfl rfl;have ht:VRs ι F w H vs us:=⟨by simpa using hv.1,fun i x y hx hy=>hv.2 (i+1) x y (by simpa using hx) (by simpa using hy)⟩
   unfold tidyL at h;obtain ⟨v',H1,ι1,h1,g1,s1,r1⟩:=Aps hg (Aaa _ _ _ h) h0;obtain ⟨vs',H2,ι2,h2,g2,s2,r2⟩:=ih g1 (Aaa _ _ _ h1) (AbM hg s1 ht);exact ⟨_,_,ι2,h2,g2,s1.trans s2,Aih (s2.vr g1 r1) r2⟩
theorem AlK {b:Bool} {vs:List V} {us:List Value} {ι:Io} {H:Heap} {R:List V×Heap→Prop} (hg:Good ι F w H) (h:wpQ S (tidyR b vs H) R) (hv:VRs ι F w H vs us):
  ∃vs' H' ι',R (vs',H')∧Good ι' F w H'∧Step ι F H w ι' F H' w∧VRs ι' F w H' vs' us:=by
 unfold tidyR at h;split at h
 ·exact Apr hg h hv
 ·exact ⟨_,_,ι,h,hg,.refl ι F H w,hv⟩
theorem Aqa {ι:Io} {us:List Value} {vs:List V}: ∀(n k:Nat) (H1 H:Heap),H1.length=k→Good ι F w (H1++H)→VRs ι F w (H1++H) vs us→
  Good ι F w (H1++killK n H)∧Step ι F (H1++H) w ι F (H1++killK n H) w∧VRs ι F w (H1++killK n H) vs us:=by
 intro n;induction n with
 |zero=>intro k H1 H _ hg hv;exact ⟨hg,.refl ι F _ w,hv⟩
 |succ n ih=>
  intro k H1 H hk hg hv;cases H with
  |nil=>exact ⟨hg,.refl ι F _ w,hv⟩
  |cons o r=>
   have same: ∀o',H1++o'::killK n r=(H1++ [o'])++killK n r:=by intro o';simp
   have same': ∀o',H1++o'::r=(H1++ [o'])++r:=by intro o';simp
   by_cases hd:killO o=o
   ·simp only [killK,hd];rw [same,same'] at*;exact ih (k+1) _ _ (by simp [hk]) hg hv
   ·have hdd:killO o= .dead:=by cases o<;>simp_all [killO]
    simp only [killK,hdd];have hget:(H1++o::r)[k]?=some o:=by rw [qg (by omega)];simp [hk]
    have hset:(H1++o::r).set k .dead=H1++ .dead::r:=by rw [ka _ _ (by omega)];simp [hk]
    obtain ⟨g1,s1⟩:=AbH hg hget;rw [hset] at g1 s1;have v1:=AbM hg s1 hv;rw [same'] at g1 v1;obtain ⟨g2,s2,v2⟩:=ih (k+1) _ _ (by simp [hk]) g1 v1;rw [←same,←same'] at s2;rw [←same] at g2 v2;exact ⟨g2,s1.trans s2,v2⟩
theorem AnP {ι:Io} {us:List Value} {vs:List V}: ∀(H:Heap) (k:Nat) (H1:Heap),H1.length=k→Good ι F w (H1++H)→VRs ι F w (H1++H) vs us→
  Good ι F w (H1++noPool H)∧Step ι F (H1++H) w ι F (H1++noPool H) w∧VRs ι F w (H1++noPool H) vs us:=by
 intro H;induction H with
 |nil=>intro k H1 _ hg hv;exact ⟨hg,.refl ι F _ w,hv⟩
 |cons o r ih=>
  intro k H1 hk hg hv;have same: ∀o',H1++o'::noPool r=(H1++ [o'])++noPool r:=by intro o';simp
  have same': ∀o',H1++o'::r=(H1++ [o'])++r:=by intro o';simp
  by_cases hp: ∃bs xs,o= .pool bs xs
  ·obtain ⟨bs,xs,rfl⟩:=hp;have hget:(H1++Ob.pool bs xs::r)[k]?=some (.pool bs xs):=by rw [qg (by omega)];simp [hk]
   have hset:(H1++Ob.pool bs xs::r).set k .dead=H1++ .dead::r:=by rw [ka _ _ (by omega)];simp [hk]
   obtain ⟨g1,s1⟩:=AbH hg hget;rw [hset] at g1 s1;have v1:=AbM hg s1 hv;rw [same'] at g1 v1;obtain ⟨g2,s2,v2⟩:=ih (k+1) _ (by simp [hk]) g1 v1;rw [←same,←same'] at s2;rw [←same] at g2 v2;exact ⟨g2,s1.trans s2,v2⟩
  ·have e:noPool (o::r)=o::noPool r:=by cases o<;>first|rfl|exact absurd ⟨_,_,rfl⟩ hp
   rw [e];rw [same,same'] at*;exact ih (k+1) _ (by simp [hk]) hg hv
theorem AoU {b:Bool} {n:Nat} {ι:Io} {us:List Value} {vs:List V} {H:Heap} (hg:Good ι F w H) (hv:VRs ι F w H vs us):
  Good ι F w (killR b n H)∧Step ι F H w ι F (killR b n H) w∧VRs ι F w (killR b n H) vs us:=by
 unfold killR;split
 ·simpa using Aqa n 0 [] H rfl hg hv
 ·exact ⟨hg,.refl ι F H w,hv⟩
end
end Go.Eva
namespace Go.Eva
open Go.RowKit
def sort (cx:Cx) (o:Oper):Nat:=match o.op with
 | .move _=>0| .assign _=>0| .pick _ _ _=>0| .build _ _=>0| .nilCheck _=>0| .binOp _ _ _ _ _=>0| .unOp _ _ _=>0| .convert _ _ _=>0
 | .makeFunc (.func _) _ _=>0| .slice _ _ _ _ _=>0| .fieldAddr _ _ _=>0| .field _ _ _=>0| .indexAddr _ _ _=>0| .extract _ _=>0
 | .load _ _=>1
 | .alloc _=>2| .box _ _=>2| .buildSlice _ _ _=>2| .makeSlice _ _ _=>2| .makeMap _ none=>2
 | .call c=>match c.callee with
  | .builtin b=>match quietB b with
   |true=>0
   |false=>match b,c.args.toList with
    | .append,.const (.slice none 0 0)::_=>2
    |_,_=>3
  | .value (.func f)=>match exAt cx.ex f with
   |some _=>3
   |none=>match cx.fn.get f with
    |some (some fi)=>match fi.mode with| .inout=>3| .both=>3|_=>2
    |_=>3
  |_=>3
 |_=>3
section
variable {P:Program} {cx:Cx} {S:Task→(Res→Prop)→Prop} {o:Oper} {e:Env} {H:Heap} {a:Act} {w:World} {ι:Io} {F:Nat→Prop} {R:V×Heap→Prop} {Q:Exit→Act→World→Prop}
theorem Still.mono {C C':World→Prop} (h:Still C P R o ι F H w a) (hC: ∀w,C' w→C w):Still C' P R o ι F H w a:=by
 obtain ⟨v,H',ι',F',val,h1,h2,h3,h4,h5⟩:=h;exact ⟨v,H',ι',F',val,h1,h2,h3,h4,fun w hw=>h5 w (hC w hw)⟩
theorem Al4 (hc:CxTy P cx) (hg:Good ι F w H) (hs:Sim ι F w H e a) (hty:opTy cx o=true) (hk:sort cx o=0) (h:wpQ S (opQ cx o e H) R):Still Any P R o ι F H w a:=by
 have h0:=h;unfold opTy at hty;unfold sort at hk;unfold opQ at h;simp only at h;split at h
 ·rename_i x ho;exact AiC hg hs x (.inl ho) h
 ·rename_i x ho;exact AiC hg hs x (.inr ho) h
 ·rename_i c x y ho;exact AnW hg hs c x y ho h0
 ·rename_i t ho;rw [ho] at hk;simp at hk
 ·rename_i t x ho;rw [ho] at hk;simp at hk
 ·rename_i t ps ho;exact Al0 hc hg hs t ps ho h0
 ·rename_i t n ps ho;rw [ho] at hk;simp at hk
 ·rename_i t x ho;rw [ho] at hk;simp at hk
 ·rename_i t x y ho;rw [ho] at hk;simp at hk
 ·rename_i x ho;exact AgJ hg hs x ho h0
 ·rename_i op t x y yt ho;exact Ap7 hc hg hs op t x y yt ho h0
 ·rename_i op t x ho;exact op_un hg hs op t x ho h0
 ·rename_i s t x ho;rw [ho] at hty;exact AhG hc hg hs s t x ho (v7.1 hty) h0
 ·rename_i t ho;rw [ho] at hk;simp at hk
 ·rename_i t x i b ho;rw [ho] at hk;simp at hk
 ·rename_i t x i v ho;rw [ho] at hk;simp at hk
 ·rename_i t x ho;rw [ho] at hk;simp at hk
 ·rename_i x ho;rw [ho] at hk;simp at hk
 ·rename_i x ho;rw [ho] at hk;simp at hk
 ·rename_i f fi cs ho;exact AgI hg hs f fi cs ho h0
 ·rename_i t l c ho;rw [ho] at hk;simp at hk
 ·rename_i t x lo hi mx ho;exact Al3 hc hg hs t x lo hi mx ho h0
 ·rename_i t x f ho;exact Af3 hc hg hs t x f ho h0
 ·rename_i t x f ho;exact Al1 hc hg hs t x f ho h0
 ·rename_i t x i ho;exact Af4 hc hg hs t x i ho h0
 ·rename_i x i ho;exact AhH hg hs x i ho h0
 ·rename_i c ho;rw [ho] at hk;simp only at hk;split at hk
  ·rename_i b hb;split at hk
   ·rename_i hq;exact Al2 hc hg hs c b ho hb hq h0
   ·split at hk<;>simp at hk
  ·split at hk
   ·simp at hk
   ·split at hk
    ·split at hk<;>simp at hk
    ·simp at hk
  ·simp at hk
 ·exact h.elim
theorem AfW (hc:CxTy P cx) (hg:Good ι F w H) (hs:Sim ι F w H e a) (hty:opTy cx o=true) (hk:sort cx o≤1) (h:wpQ S (opQ cx o e H) R):Still (OldSame w) P R o ι F H w a:=by
 rcases wo (sort cx o) 1 with h0|h1
 ·exact (Al4 hc hg hs hty (by omega) h).mono fun _ _=>trivial
 ·have hk:sort cx o=1:=by omega
  have: ∃t x,o.op= .load t x:=by
   unfold sort at hk;split at hk<;>simp_all
   repeat' split at hk
   all_goals simp_all
  obtain ⟨t,x,ho⟩:=this;unfold opTy at hty;rw [ho] at hty;exact AnU hc hg hs t x ho (v7.1 hty) h
theorem Still.wpK {C:World→Prop} (h:Still C P R o ι F H w a) (hC:C w):o.wp P a w (fun a' w'=>OpPost R o ι F H w a a' w'∧OldSame w w') Q:=by
 obtain ⟨v,H',ι',F',val,h1,h2,h3,h4,h5⟩:=h;exact Aaw (h5 w hC) ⟨⟨v,H',ι',F',val,h1,rfl,h2,h3,h4⟩,.refl w⟩
theorem Ahu {ts:List Nat} {vs:List V} (h:wpQ S (builtinV cx .append ts vs H) R): ∃t t' s x,ts= [t,t']∧vs= [s,x]:=by
 unfold builtinV at h;split at h<;>rename_i hb<;>try contradiction
 ·split at h
  ·exact ⟨_,_,_,_,rfl,rfl⟩
  ·exact h.elim
theorem Aph (hc:CxTy P cx) (hcal:Callable P cx) (hS: ∀f az H R,S (.call f az H) R→CallS P f az H R) (hg:Good ι F w H) (hs:Sim ι F w H e a) (hty:opTy cx o=true) (hk:sort cx o≤2) (h:wpQ S (opQ cx o e H) R):
  o.wp P a w (fun a' w'=>OpPost R o ι F H w a a' w'∧OldSame w w') Q:=by
 rcases wo (sort cx o) 2 with h0|h1
 ·exact (AfW hc hg hs hty (by omega) h).wpK (.refl w)
 have hk:sort cx o=2:=by omega
 clear h1;unfold sort at hk;split at hk<;>try contradiction
 ·rename_i t ho;exact Alz hc hg t ho h
 ·rename_i t x ho;exact Ap8 hg hs t x ho h
 ·rename_i t n ps ho;exact AeJ hc hg hs t n ps ho h
 ·rename_i t l c ho;exact Af5 hc hg hs t l c ho h
 ·rename_i t ho;exact AhI hg t ho h
 ·rename_i c ho;split at hk
  ·rename_i b hb;split at hk
   ·contradiction
   ·split at hk
    ·rename_i tail hargs0 _;unfold opQ at h;rw [ho] at h;simp only [hb] at h;obtain ⟨consts,hex⟩:=Aek (P:=P) (a:=a) .append c ho hb rfl;rw [hargs0] at h hex;generalize hts:c.argTypes=ts at*;obtain ⟨tl⟩:=ts;simp only at h;cases tl with
     |nil=>
      obtain ⟨vs,h1,h2⟩:=Abx hs (Aaa _ _ _ h);obtain ⟨_,_,_,_,e,_⟩:=Ahu h1;simp at e
     |cons t tl=>
      have h:=Aaa _ _ _ h;simp only [args] at h;have h1:=Aaa _ _ _ h;have hn:evalO e (.const (.slice none 0 0))= .nil:=rfl;rw [hn] at h1;unfold typed at h1;simp only at h1;split at h1
      ·split at h1
       ·replace h1:=AaU (Aaa _ _ _ h1);obtain ⟨vs,h2,h3⟩:=Abx hs (Aaa _ _ _ h1);simp only [wpQ] at h2;obtain ⟨h3,h4⟩:=h3;simp only [qo] at hex;generalize tail.map a.eval=us at*;obtain ⟨t1,t2,s1,x1,e1,e2⟩:=Ahu h2;simp only [ko] at e1 e2;obtain ⟨rfl,rfl⟩:=e1;obtain ⟨rfl,rfl⟩:=e2
        match us,h3 with
        | [u],_=>
         obtain ⟨val,w',k1,⟨r,H',ι',F',q1,q2,q3,q4⟩,k3⟩:=AkK (P:=P) (ty:=o.type) (u:= .slice none 0 0) (v:=u) hc hg (.fit _ _ _ (.slN _ _ _)) (h4 0 _ _ rfl rfl) h2;refine Aaw (w':=w') (val:=val) ?_ ⟨⟨r,H',ι',F',val,q1,rfl,q2,q3,q4⟩,k3 ⟨_,_,rfl⟩⟩;rw [hex];have:a.eval (.const (.slice none 0 0))= .slice none 0 0:=rfl;simp only [builtin,xy,this,k1,j4,ve]
       ·exact h1.elim
      ·exact h1.elim
    ·contradiction
  ·rename_i f hf;split at hk
   ·contradiction
   rename_i hx;split at hk
   ·rename_i fi hfi;split at hk
    ·contradiction
    ·contradiction
    ·rename_i hm1 hm2;unfold opQ at h;rw [ho] at h;simp only [hf,hx] at h;obtain ⟨vs,h1,h2⟩:=Abx hs (Aaa _ _ _ h);have hkk:Calls P f _ w (fun en w'=>CPost R ι F H w en w'∧((∀fi,cx.fn.get f=some (some fi)→fi.mode≠ .inout∧fi.mode≠ .both)→OldSame w w')):=y3 (Aig (P:=P) hS hg (Aaa _ _ _ h1) h2) fun en w' k=>⟨Agl k.1,k.2⟩
     have hargs:c.args.map a.eval=((c.args.toList.map a.eval).toArray):=AeH _ _;have hrun:(execOp a.eval o).run P w= .ok (.enter f (c.args.toList.map a.eval).toArray) w:=by
      simp only [execOp,ho,resolve,hf,show a.eval (.func f)= .func (.func f) #[] #[] from rfl];simp [kq,invoke,AbK hcal hfi,hargs]
     unfold Oper.wp;rw [hrun];refine y3 hkk ?_;rintro en w' ⟨⟨v,r,H',ι',F',rfl,k1,k2,k3,k4⟩,hold⟩;exact ⟨⟨r,H',ι',F',v,k1,rfl,k2,k3,k4⟩,hold (fun fi' hfi'=>by
      rw [hfi] at hfi';simp at hfi';subst hfi';exact ⟨hm1,hm2⟩)⟩
   ·contradiction
  ·contradiction
end
end Go.Eva
namespace Go.Eva
open Go.RowKit
theorem AoY (dst:Option Nat) (v:V) (e:Env) (t:Nat):look (put dst v e) t=if dst=some t then v else look e t:=by
 cases dst with
 |none=>simp [put]
 |some d=>
  simp only [put,look];by_cases h:d=t
  ·subst h;simp
  ·have:qd d t=false:=by
    cases hb:qd d t with
    |false=>rfl
    |true=>exact absurd (zp hb) h
   rw [this];simp [h]
structure In (n:Nat) (ι:Io) (F:Nat→Prop) (w:World) (H:Heap) (e:Env) (a:Act):Prop where
 good:Good ι F w H
 sim:Sim ι F w H e a
 size:a.tmps.size=n
 defers:a.defers= []
def fitO (cx:Cx) (n:Nat) (o:Oper):Bool:=opTy cx o&&(match o.dst with
 |some d=>Nat.blt d n
 |none=>true)
section
variable {P:Program} {cx:Cx} {S:Task→(Res→Prop)→Prop} {n:Nat} {ι:Io} {F:Nat→Prop} {w:World} {H:Heap} {e:Env} {a:Act}
theorem In.put {ι':Io} {F':Nat→Prop} {w':World} {H':Heap} {o:Oper} {v:V} {val:Value} (h:In n ι F w H e a) (hf:fitO cx n o=true) (hg:Good ι' F' w' H') (hst:Step ι F H w ι' F' H' w') (hv:VR ι' F' w' H' v val):
  In n ι' F' w' H' (Eva.put o.dst v e) (a.put o.dst val):=by
 refine ⟨hg,fun t=> ?_,?_,?_⟩
 ·rw [AoY];unfold fitO at hf;cases hd:o.dst with
  |none=>simp only [bu];simpa using hst.vr h.good (h.sim t)
  |some d=>
   rw [hd] at hf;simp only [zf] at hf;have hlt:d<n:=by simpa using hf.2
   by_cases e:d=t
   ·subst e;simp [bu,h.size,hlt,hv]
   ·have:(some d=some t)=False:=by simp [e]
    simp only [bu,this,if_false];have h1:=hst.vr h.good (h.sim t);simp only [vd] at h1⊢;rw [uz e];exact h1
 ·cases o.dst<;>simp [bu,h.size]
 ·cases o.dst<;>simp [bu,h.defers]
theorem In.known {g:Nat} {b:Bool} (h:In n ι F w H e a) (hb:look e g= .t (.bool b)):In n ι F w H ((g,.t (.bool b))::e) a:=by
 refine ⟨h.good,fun t=> ?_,h.size,h.defers⟩;simp only [look];split
 ·rename_i hbq;obtain rfl:=zp hbq;rw [←hb];exact h.sim g
 ·exact h.sim t
theorem Apt:VR ι F w H (.tup []) undef:= .tup [] #[] rfl (by simp)
def NextOk (n:Nat) (ι:Io) (F:Nat→Prop) (w:World) (H:Heap) (R:Env×Heap→Prop) (a':Act) (w':World):Prop:=
 ∃e' H' ι' F',R (e',H')∧In n ι' F' w' H' e' a'∧Step ι F H w ι' F' H' w'
theorem And {ops:Array Oper} {j g:Nat} (h:dstOf ops.toList j=some g):(ops[j]?).bind (·.dst)=some g:=by
 unfold dstOf at h;rw [Aae] at h;simp only [xg] at h;cases ho:ops[j]? with
 |none=>simp [ho] at h
 |some o=>simp [ho] at h;simp [h]
theorem AlI {g:Nat} {v:V} (h:In n ι F w H e a) (hv:look e g=v):VR ι F w H v (a.tmps.getD g undef):=hv ▸ h.sim g
theorem Akc {ops:Array Oper} {j g:Nat} {b:Bool} (hd:dstOf ops.toList j=some g) (h:In n ι F w H e a) (hb:look e g= .t (.bool b)):yielded ops a.tmps j=some b:=by
 have h1:=(AlI h hb).t_inv.bool_inv;have hlt:g<a.tmps.size:=by
  rcases wo g a.tmps.size with h|h
  ·exact h
  ·simp [Array.getD,Nat.not_lt.2 h,undef] at h1
 unfold yielded;rw [And hd];simp only [Option.bind_some];have:a.tmps[g]?=some (.bool b):=by
  rw [qp hlt];simpa [Array.getD,hlt] using h1
 rw [this]
theorem AkI {ops:Array Oper} {j g:Nat} (hd:dstOf ops.toList j=some g) (h:In n ι F w H e a) (hb:look e g= .tup []):yielded ops a.tmps j=none:=by
 have h1:=AlI h hb;generalize hu:a.tmps.getD g undef=u at h1;cases h1 with
 |tup _ cs hl hc=>
 unfold yielded;rw [And hd];simp only [Option.bind_some];cases hq:a.tmps[g]? with
 |none=>rfl
 |some v=>
  have:v= .tuple cs:=by
   rw [←hu];simp [vd,hq]
  subst this;rfl
variable {ops:Array Oper} {i:Nat} {o:Oper} {R:Env×Heap→Prop} {Q:Exit→Act→World→Prop}
theorem Afu (hi:In n ι F w H e a) (hf:fitO cx n o=true) (h:wpQ S (stepQ cx ops.toList o e H) R):
  (pn o (yielded ops a.tmps)=true∧ ∃e1,In n ι F w H e1 a∧wpQ S (opQ cx o e1 H) (fun x=>R (Eva.put o.dst x.1 e1,x.2)))∨
  (pn o (yielded ops a.tmps)=false∧NextOk n ι F w H R (a.put o.dst undef) w):=by
 have skip: ∀e1,In n ι F w H e1 a→R (Eva.put o.dst (.tup []) e1,H)→NextOk n ι F w H R (a.put o.dst undef) w:=fun e1 hi1 hr=>
  ⟨_,_,ι,F,hr,hi1.put hf hi1.good (.refl ι F H w) Apt,.refl ι F H w⟩
 unfold stepQ at h;unfold pn;split at h
 ·rename_i hg;rw [hg];exact .inl ⟨rfl,e,hi,Aaa _ _ _ h⟩
 ·rename_i j ww hg;rw [hg];simp only;split at h
  ·rename_i g hd;split at h
   ·rename_i b hb;rw [Akc hd hi hb];simp only [wpQ] at h;split at h
    ·rename_i hbw;have:b=ww:=by simpa using hbw
     subst this;exact .inl ⟨by simp,_,hi.known hb,Aaa _ _ _ h⟩
    ·rename_i hbw;refine .inr ⟨?_,skip _ (hi.known hb) h⟩;have:b≠ww:=by simpa using hbw
     simp [this]
   ·rename_i hb;rw [AkI hd hi hb];exact .inr ⟨rfl,skip _ hi h⟩
   ·exact h.elim
  ·exact h.elim
theorem AnO {a':Act} {w':World} {e1:Env} (hi:In n ι F w H e1 a) (hf:fitO cx n o=true) (h:OpPost (fun x=>R (Eva.put o.dst x.1 e1,x.2)) o ι F H w a a' w'):NextOk n ι F w H R a' w':=by
 obtain ⟨v,H',ι',F',val,h1,rfl,h2,h3,h4⟩:=h;exact ⟨_,_,ι',F',h1,hi.put hf h2 h3 h4,h3⟩
theorem Aoy (hc:CxTy P cx) (hcal:Callable P cx) (hS: ∀f az H R,S (.call f az H) R→CallS P f az H R) (ho:ops[i]?=some o) (hi:In n ι F w H e a) (hf:fitO cx n o=true) (h:wpQ S (stepQ cx ops.toList o e H) R):
  wpOp P ops Q i (NextOk n ι F w H R) a w:=by
 unfold wpOp;rw [ho];simp only;have hty:opTy cx o=true:=by unfold fitO at hf;simp only [zf] at hf;exact hf.1
 rcases Afu hi hf h with ⟨h1,e1,h2,h3⟩|⟨h1,h2⟩
 ·rw [if_pos h1];exact .inl (dg (fun a' w' hp=>AnO h2 hf hp) (AqB hc hcal hS h2.good h2.sim hty h3))
 ·rw [h1];simpa using h2
theorem AmF (hc:CxTy P cx) (hcal:Callable P cx) (hS: ∀f az H R,S (.call f az H) R→CallS P f az H R) (ho:ops[i]?=some o) (hi:In n ι F w H e a) (hf:fitO cx n o=true) (hk:sort cx o≤2) (h:wpQ S (stepQ cx ops.toList o e H) R):
  wpOp P ops Q i (fun a' w'=>NextOk n ι F w H R a' w'∧OldSame w w') a w:=by
 unfold wpOp;rw [ho];simp only;have hty:opTy cx o=true:=by unfold fitO at hf;simp only [zf] at hf;exact hf.1
 rcases Afu hi hf h with ⟨h1,e1,h2,h3⟩|⟨h1,h2⟩
 ·rw [if_pos h1];exact .inl (dg (fun a' w' hp=>⟨AnO h2 hf hp.1,hp.2⟩) (Aph hc hcal hS h2.good h2.sim hty hk h3))
 ·rw [h1];simpa using ⟨h2,.refl w⟩
theorem Afv {C:World→Prop} (hi:In n ι F w H e a) (hf:fitO cx n o=true) (hst: ∀ {e1:Env} {R:V×Heap→Prop},In n ι F w H e1 a→wpQ S (opQ cx o e1 H) R→Still C P R o ι F H w a) (h:wpQ S (stepQ cx ops.toList o e H) R):
  ∃v,YieldsIf P ops C o v a∧NextOk n ι F w H R (a.put o.dst v) w:=by
 rcases Afu hi hf h with ⟨h1,e1,h2,h3⟩|⟨h1,h2⟩
 ·obtain ⟨v,H',ι',F',val,k1,k2,k3,k4,k5⟩:=hst h2 h3;exact ⟨val,.inl ⟨h1,k5⟩,_,_,ι',F',k1,h2.put hf k2 k3 k4,k3⟩
 ·exact ⟨undef,.inr ⟨h1,rfl⟩,h2⟩
theorem AjH (hc:CxTy P cx) (hcal:Callable P cx) (hS: ∀f az H R,S (.call f az H) R→CallS P f az H R) (hfit: ∀o∈ops.toList,fitO cx n o=true): ∀(l:List Oper) (k:Nat),(∀j,l[j]?=ops[k+j]?)→ ∀ {ι:Io} {F:Nat→Prop} {w:World} {H:Heap} {e:Env} {a:Act} {R:Env×Heap→Prop},
  In n ι F w H e a→wpQ S (runOps cx ops.toList l e H) R→(∀a' w',NextOk n ι F w H R a' w'→Q .normal a' w')→wpOps P ops Q (upto k l.length) a w
 | [],k,_,ι,F,w,H,e,a,R,hi,h,hQ=>by
  exact hQ a w ⟨e,H,ι,F,h,hi,.refl ι F H w⟩
 |o::l,k,hl,ι,F,w,H,e,a,R,hi,h,hQ=>by
  have ho:ops[k]?=some o:=by have:=hl 0;simpa using this.symm
  have hmem:o∈ops.toList:=by
   obtain ⟨hlt,rfl⟩:=zu.1 ho;simp
  simp only [List.length_cons,upto];rw [wpOps_cons];refine wpOp_mono ?_ (Aoy (Q:=Q) hc hcal hS ho hi (hfit o hmem) (Aaa _ _ _ h));rintro a' w' ⟨e',H',ι',F',h1,h2,h3⟩;refine AjH hc hcal hS hfit l (k+1) (fun j=>by have:=hl (j+1);simp at this;rw [this];congr 1;omega) h2 h1 ?_;rintro a'' w'' ⟨e'',H'',ι'',F'',q1,q2,q3⟩;exact hQ a'' w'' ⟨e'',H'',ι'',F'',q1,q2,h3.trans q3⟩
theorem AmJ (n:Nat):upto 0 n=jq n:=by
 apply vq;intro i;by_cases h:i<n
 ·rw [Agc n 0 i h,wd h,jk]
 ·rw [vo (by rw [AiM];omega),vo (by simp;omega)]
theorem AgP (hc:CxTy P cx) (hcal:Callable P cx) (hS: ∀f az H R,S (.call f az H) R→CallS P f az H R) (hfit: ∀o∈ops.toList,fitO cx n o=true) {id:Nat} (hi:In n ι F w H e a) (h:wpQ S (runOps cx ops.toList ops.toList e H) R)
  (hQ: ∀a' w',NextOk n ι F w H R a' w'→Q .normal a' w'):(Code.region id ops false).wp P Q a w:=by
 refine wp_region ?_;rw [←AmJ];have:=AjH (Q:=Q) hc hcal hS hfit ops.toList 0 (by simp) hi h hQ;simpa using this
end
end Go.Eva
namespace Go.Eva
open Go.RowKit
section
variable {P:Program} {cx:Cx} {ops:Array Oper} {Q:Exit→Act→World→Prop}
def dstI (ops:Array Oper) (i:Nat):Option Nat:=(ops[i]?).bind (·.dst)
def putAll (ops:Array Oper) (a:Act):List (Nat×Value)→Act
 | []=>a
 |(i,v)::r=>putAll ops (a.put (dstI ops i) v) r
def unl (listed:Array Bool):List (Nat×Value)→Array Bool
 | []=>listed
 |(i,_)::r=>(unl listed r).setIfInBounds i false
theorem Aa9 (listed:Array Bool) (j:Nat): ∀us:List (Nat×Value),(unl listed us)[j]?=if j∈us.map xl then (listed[j]?).map (fun _=>false) else listed[j]?
 | []=>by simp [unl]
 |(i,v)::r=>by
  simp only [unl,qo,qf];rw [yr];by_cases e:i=j
  ·subst e;simp only [if_true,true_or];have:=Aa9 listed i r;have hs:(unl listed r).size=listed.size:=unl_size r;by_cases h:i<listed.size
   ·simp [hs,h]
   ·simp [hs,h]
  ·have e':(j=i)=False:=eq_false fun h=>e h.symm;rw [if_neg e,Aa9 listed j r];simp only [e',false_or]
where
 unl_size: ∀us:List (Nat×Value),(unl listed us).size=listed.size
  | []=>rfl
  |(i,v)::r=>by simp [unl,unl_size r]
theorem AjX {listed:Array Bool} {us:List (Nat×Value)} {k:Nat} (hk:k∈jo .any ops (unl listed us)) (hn:k∉us.map xl):k∈jo .any ops listed:=by
 rw [mem_ready] at*;obtain ⟨h0,o,ho,hall⟩:=hk;refine ⟨?_,o,ho,fun e he hb=> ?_⟩
 ·have e:(unl listed us)[k]?=listed[k]?:=by rw [Aa9,if_neg hn]
  simpa [e] using h0
 ·have:=hall e he hb;simp only [vd,Aa9] at this⊢;split at this
  ·cases h:listed[e.on]?<;>simp [h] at this
  ·exact this
theorem Apu {listed:Array Bool} {us:List (Nat×Value)} {k:Nat} {o:Oper} (ho:ops[k]?=some o) (hk:k∈jo .any ops (unl listed us)): ∀e∈o.after,ud .any e=true→e.on∉us.map xl:=by
 rw [mem_ready] at hk;obtain ⟨_,o',ho',hall⟩:=hk;rw [ho] at ho';obtain rfl:=ze ho';intro e he hb hm;have:=hall e he hb;simp only [vd,Aa9,if_pos hm] at this;cases h:listed[e.on]?<;>simp [h] at this
theorem AkB {listed:Array Bool} {us:List (Nat×Value)} {k:Nat} (hn:k∉us.map xl):(unl listed us).setIfInBounds k true=unl (listed.setIfInBounds k true) us:=by
 refine pk fun j=> ?_;rw [yr,Aa9,Aa9,yr,Aa9.unl_size];by_cases e:k=j
 ·subst e;by_cases h:k<listed.size<;>simp [hn,h]
 ·simp [e]
theorem Aqy {listed:Array Bool} {l1 l2:List (Nat×Value)} {k:Nat} {v:Value} (hl:listed.getD k false=true) (h1:k∉l1.map xl) (h2:k∉l2.map xl):(unl listed (l1++(k,v)::l2)).setIfInBounds k true=unl listed (l1++l2):=by
 have hk:listed[k]?=some true:=by
  simp only [vd] at hl;cases h:listed[k]? with
  |none=>simp [h] at hl
  |some b=>simp [h] at hl;rw [hl]
 refine pk fun j=> ?_;rw [yr,Aa9,Aa9,Aa9.unl_size];simp only [vj,qo,jp,qf];by_cases e:k=j
 ·subst e;obtain ⟨q1,q2⟩:=zu.1 hk;simp [h1,h2,q1,q2]
 ·have e':(j=k)=False:=eq_false fun h=>e h.symm;simp only [e,if_false,e',false_or]
structure Pd (P:Program) (cx:Cx) (ops:Array Oper) (w:World) (a:Act) (listed:Array Bool) (us:List (Nat×Value)):Prop where
 nd:(us.map xl).Nodup
 yl: ∀p∈us,∃o,ops[p.1]?=some o∧YieldsIf P ops (OldSame w) o p.2 a
 ap: ∀p∈us,∀q∈us,p.1≠q.1→ ∀o o',ops[p.1]?=some o→ops[q.1]?=some o'→o.apart ops o'=true
 ld: ∀p∈us,listed.getD p.1 false=true
 so: ∀p∈us,∀o,ops[p.1]?=some o→sort cx o≤1
 ed: ∀p∈us,∀o,ops[p.1]?=some o→ ∀e∈o.after,ud .any e=true→listed.getD e.on false=true∧e.on∉us.map xl
theorem AaP {i:Nat} {o:Oper} (h:ops[i]?=some o):dstI ops i=o.dst:=by simp [dstI,h]
theorem AiE {l:List (Nat×Value)}: ∀(a:Act) (k:Nat) (v:Value),(∀p∈l,∀d,dstI ops p.1=some d→dstI ops k≠some d)→putAll ops (a.put (dstI ops k) v) l=(putAll ops a l).put (dstI ops k) v:=by
 induction l with
 |nil=>intros;rfl
 |cons p r ih=>
  intro a k v h;simp only [putAll];rw [←Act.put_comm a p.2 v (h p (jh ..))];exact ih _ k v fun q hq=>h q (qu _ hq)
theorem AlC {l1 l2:List (Nat×Value)} (a:Act) (k:Nat) (v:Value) (h: ∀p∈l1,∀d,dstI ops p.1=some d→dstI ops k≠some d):putAll ops a (l1++(k,v)::l2)=putAll ops (a.put (dstI ops k) v) (l1++l2):=by
 induction l1 generalizing a with
 |nil=>rfl
 |cons p r ih=>
  simp only [List.cons_append,putAll];rw [ih _ fun q hq=>h q (qu _ hq),Act.put_comm a p.2 v (h p (jh ..))]
theorem Pd.dst {w:World} {a:Act} {listed:Array Bool} {us:List (Nat×Value)} (h:Pd P cx ops w a listed us) {p q:Nat×Value} (hp:p∈us) (hq:q∈us) (hne:p.1≠q.1): ∀d,dstI ops p.1=some d→dstI ops q.1≠some d:=by
 obtain ⟨o,ho,_⟩:=h.yl p hp;obtain ⟨o',ho',_⟩:=h.yl q hq;intro d hd;rw [AaP ho] at hd;rw [AaP ho'];exact (uq (h.ap p hp q hq hne o o' ho ho')).2.1 d hd
theorem Aic {C:World→Prop} {o oj:Oper} {v u:Value} {a:Act} (hs: ∀cs b,o.op≠ .select cs b) (hap:o.apart ops oj=true):YieldsIf P ops C o v (a.put oj.dst u)↔YieldsIf P ops C o v a:=by
 have h3:=(uq hap).2.2;have e1:=execOp_put o hs a oj.dst u h3;have e2:=wanted_put o a oj.dst u h3;exact ⟨fun h=>h.of_same e1.symm e2.symm,fun h=>h.of_same e1 e2⟩
theorem yields_put' {C:World→Prop} {o oj:Oper} {v u:Value} {a:Act} (hs: ∀cs b,oj.op≠ .select cs b) (hap:o.apart ops oj=true):YieldsIf P ops C oj v (a.put o.dst u)↔YieldsIf P ops C oj v a:=by
 have h3:=(uq hap).1;have e1:=execOp_put oj hs a o.dst u h3;have e2:=wanted_put oj a o.dst u h3;exact ⟨fun h=>h.of_same e1.symm e2.symm,fun h=>h.of_same e1 e2⟩
theorem Aka {C:World→Prop} {j:Nat} {oj:Oper} {K:Act→World→Prop} {w:World} (hj:ops[j]?=some oj) (hsel: ∀(j:Nat) (o:Oper) cs b,ops[j]?=some o→o.op≠ .select cs b) (hQ: ∀c a w,¬Q (.panic c) a w):
  ∀(us:List (Nat×Value)) (a:Act),(us.map xl).Nodup→(∀p∈us,∃o,ops[p.1]?=some o∧o.apart ops oj=true∧YieldsIf P ops C o p.2 a)→(∀p∈us,∀q∈us,p.1≠q.1→ ∀o o',ops[p.1]?=some o→ops[q.1]?=some o'→o.apart ops o'=true)→
   wpOp P ops Q j K (putAll ops a us) w→wpOp P ops Q j (fun a' w'=>(∀p∈us,∃o,ops[p.1]?=some o∧YieldsIf P ops C o p.2 a')∧K (putAll ops a' us) w') a w
 | [],a,_,_,_,h=>wpOp_mono (fun a' w' k=>⟨by simp,k⟩) h
 |(i,v)::r,a,hnd,hy,hap,h=>by
  simp only [qo,vw] at hnd;obtain ⟨o,ho,ha,hyi⟩:=hy (i,v) (jh ..);simp only at ho ha hyi;have hne: ∀p∈r,p.1≠i:=fun p hp e=>hnd.1 (e ▸ yz hp);have hapr: ∀p∈r,∀o',ops[p.1]?=some o'→o.apart ops o'=true:=fun p hp o' ho'=>hap (i,v) (jh ..) p (qu _ hp) (vf (hne p hp)) o o' ho ho';simp only [putAll,AaP ho] at h;have h1:=Aka (C:=C) hj hsel hQ r (a.put o.dst v) hnd.2 (fun p hp=>by
   obtain ⟨o',ho',ha',hy'⟩:=hy p (qu _ hp);exact ⟨o',ho',ha',(yields_put' (fun cs b=>hsel _ o' cs b ho') (hapr p hp o' ho')).2 hy'⟩) (fun p hp q hq=>hap p (qu _ hp) q (qu _ hq)) h
  have h2:=wpOp_putIf hj ha (fun cs b=>hsel i o cs b ho) (fun cs b=>hsel j oj cs b hj) (fun c a w hq=>absurd hq (hQ c _ w)) hyi h1;refine wpOp_mono (fun a' w' k=>⟨fun p hp=> ?_,?_⟩) h2
  ·rcases qf.1 hp with rfl|hp
   ·exact ⟨o,ho,k.1⟩
   ·obtain ⟨o',ho',hy'⟩:=k.2.1 p hp;exact ⟨o',ho',(yields_put' (fun cs b=>hsel _ o' cs b ho') (hapr p hp o' ho')).1 hy'⟩
  ·simp only [putAll,AaP ho];exact k.2.2
theorem AjC {o:Oper} (hs: ∀cs b,o.op≠ .select cs b): ∀(us:List (Nat×Value)) (a:Act),(∀p∈us,∃o',ops[p.1]?=some o'∧o'.apart ops o=true)→execOp (putAll ops a us).eval o=execOp a.eval o∧pn o (yielded ops (putAll ops a us).tmps)=pn o (yielded ops a.tmps)
 | [],a,_=>⟨rfl,rfl⟩
 |(i,v)::r,a,h=>by
  obtain ⟨o',ho',ha⟩:=h (i,v) (jh ..);obtain ⟨h1,h2⟩:=AjC hs r (a.put (dstI ops i) v) fun p hp=>h p (qu _ hp);simp only [putAll];rw [h1,h2,AaP ho'];exact ⟨execOp_put o hs a o'.dst v (uq ha).1,wanted_put o a o'.dst v (uq ha).1⟩
theorem Acy {C:World→Prop} {o:Oper} {v:Value} {us:List (Nat×Value)} {a:Act} (hs: ∀cs b,o.op≠ .select cs b) (h: ∀p∈us,∃o',ops[p.1]?=some o'∧o'.apart ops o=true):YieldsIf P ops C o v (putAll ops a us)↔YieldsIf P ops C o v a:=by
 obtain ⟨h1,h2⟩:=AjC hs us a h;exact ⟨fun k=>k.of_same h1.symm h2.symm,fun k=>k.of_same h1 h2⟩
theorem Ahs {x y:Oper} (h:x.apart ops y=true):y.apart ops x=true:=by
 obtain ⟨h1,h2,h3⟩:=uq h;have key: ∀ {d:Nat} {l:List Nat},d∉l→(!l.contains d)=true:=fun h=>by simp [h]
 unfold Oper.apart;simp only [zf];refine ⟨?_,?_⟩
 ·split
  ·rename_i d hd;simp only [zf];refine ⟨key (h3 d hd),?_⟩;simp only [bne_iff_ne,ne_eq];exact fun e=>h2 d e hd
  ·rfl
 ·split
  ·rename_i d hd;exact key (h1 d hd)
  ·rfl
def depB (o:Oper) (p:Nat):Bool:=o.after.any fun e=>ud .any e&&qd e.on p
def leftP (o:Oper) (ps:List Nat):List Nat:=ps.filter fun p=> !depB o p
def apartP (ops:Array Oper) (o:Oper) (ps:List Nat):Bool:=ps.all fun p=>match ops[p]? with
 |some q=>q.apart ops o
 |none=>false
def holdB (cx:Cx) (ops:Array Oper) (o:Oper):Bool:=Nat.ble (sort cx o) 1&&o.guard.isNone&&(match o.dst with
 |some d=> !(o.looksAt ops).contains d
 |none=>false)
def holdP (cx:Cx) (ops:Array Oper) (ps:List Nat):Bool:=ps.all fun p=>match ops[p]? with
 |some q=>holdB cx ops q
 |none=>false
theorem ApK {o:Oper} {p:Nat} (h: ∀e∈o.after,ud .any e=true→e.on≠p):depB o p=false:=by
 unfold depB;rw [Array.any_eq_false'];intro e he;simp only [zf,not_and];intro hb hq;exact h e he hb (zp hq)
theorem AkT {o:Oper} {p:Nat} (h:depB o p=false): ∀e∈o.after,ud .any e=true→e.on≠p:=by
 unfold depB at h;rw [Array.any_eq_false'] at h;intro e he hb hq;refine h e he ?_;simp [hb,hq,Nat.beq_refl]
theorem AbZ {o:Oper} {ps:List Nat} (h:apartP ops o ps=true) {p:Nat} (hp:p∈ps) {o':Oper} (ho:ops[p]?=some o'):o'.apart ops o=true:=by
 have:=jm.1 h p hp;rw [ho] at this;exact this
theorem Pd.next {w w':World} {a a':Act} {listed:Array Bool} {us us':List (Nat×Value)} {k:Nat} (h:Pd P cx ops w a listed us) (hf:us'.map xl=us.map xl) (hy: ∀p∈us',∃o,ops[p.1]?=some o∧YieldsIf P ops (OldSame w') o p.2 a'):Pd P cx ops w' a' (listed.setIfInBounds k true) us':=by
 have hm: ∀p∈us',∃q∈us,q.1=p.1:=fun p hp=>by
  have:p.1∈us.map xl:=hf ▸ yz hp;obtain ⟨q,hq,e⟩:=vg.1 this;exact ⟨q,hq,e⟩
 refine ⟨hf ▸ h.nd,hy,fun p hp q hq hne o o' ho ho'=> ?_,fun p hp=> ?_,fun p hp o ho=> ?_,fun p hp o ho e he hb=> ?_⟩
 ·obtain ⟨p1,m1,e1⟩:=hm p hp;obtain ⟨q1,m2,e2⟩:=hm q hq;exact h.ap p1 m1 q1 m2 (by rw [e1,e2];exact hne) o o' (by rw [e1];exact ho) (by rw [e2];exact ho')
 ·obtain ⟨p1,m1,e1⟩:=hm p hp;exact getD_set_true (e1 ▸ h.ld p1 m1)
 ·obtain ⟨p1,m1,e1⟩:=hm p hp;exact h.so p1 m1 o (by rw [e1];exact ho)
 ·obtain ⟨p1,m1,e1⟩:=hm p hp;obtain ⟨k1,k2⟩:=h.ed p1 m1 o (by rw [e1];exact ho) e he hb;exact ⟨getD_set_true k1,by rw [hf];exact k2⟩
theorem Pd.drop {w:World} {a:Act} {listed:Array Bool} {l1 l2:List (Nat×Value)} {k:Nat} {v:Value} {o:Oper} (hsel: ∀(j:Nat) (o:Oper) cs b,ops[j]?=some o→o.op≠ .select cs b) (h:Pd P cx ops w a listed (l1++(k,v)::l2)) (ho:ops[k]?=some o):Pd P cx ops w (a.put o.dst v) listed (l1++l2):=by
 have hsub: ∀p∈l1++l2,p∈l1++(k,v)::l2:=fun p hp=>by
  rcases jp.1 hp with hp|hp
  ·exact gz _ hp
  ·exact fg _ (qu _ hp)
 have hnd:=h.nd;simp only [vj,qo] at hnd;have hk:=(List.perm_middle.nodup_iff).1 hnd;obtain ⟨hk1,hk2⟩:=vw.1 hk;rw [←vj] at hk1 hk2;have hne: ∀p∈l1++l2,p.1≠k:=fun p hp e=>hk1 (e ▸ yz hp);refine ⟨hk2,fun p hp=> ?_,fun p hp q hq=>h.ap p (hsub p hp) q (hsub q hq),fun p hp=>h.ld p (hsub p hp),fun p hp=>h.so p (hsub p hp),fun p hp o' ho' e he hb=> ?_⟩
 ·obtain ⟨o',ho',hy⟩:=h.yl p (hsub p hp);exact ⟨o',ho',(Aic (fun cs b=>hsel _ o' cs b ho') (h.ap p (hsub p hp) (k,v) (by simp) (hne p hp) o' o ho' ho)).2 hy⟩
 ·obtain ⟨k1,k2⟩:=h.ed p (hsub p hp) o' ho' e he hb;refine ⟨k1,fun hm=>k2 ?_⟩;simp only [vj,qo,jp,qf] at hm⊢;exact hm.elim .inl fun h=> .inr (.inr h)
variable {S:Task→(Res→Prop)→Prop} {n:Nat}
theorem AjS (hc:CxTy P cx) (hcal:Callable P cx) (hS: ∀f az H R,S (.call f az H) R→CallS P f az H R) (hfit: ∀o∈ops.toList,fitO cx n o=true) (hsel: ∀(j:Nat) (o:Oper) cs b,ops[j]?=some o→o.op≠ .select cs b) (hQ: ∀c a w,¬Q (.panic c) a w)
  {k:Nat} {o:Oper} {listed:Array Bool} {us:List (Nat×Value)} {ps:List Nat} {ι:Io} {F:Nat→Prop} {w:World} {H:Heap} {e:Env} {a:Act} {R:Env×Heap→Prop} (ho:ops[k]?=some o) (hi:In n ι F w H e (putAll ops a us)) (hp:Pd P cx ops w a listed us)
  (hk:k∈jo .any ops (unl listed us)) (hs: ∀p∈us,p.1∈ps) (hap:apartP ops o (leftP o ps)=true) (h:wpQ S (stepQ cx ops.toList o e H) R):
  (∀p∈us,p.1∈leftP o ps)∧wpOp P ops Q k (fun a' w'=>(sort cx o≤2→OldSame w w')∧(∀p∈us,∃o',ops[p.1]?=some o'∧YieldsIf P ops (OldSame w) o' p.2 a')∧NextOk n ι F w H R (putAll ops a' us) w') a w:=by
 have hleft: ∀p∈us,p.1∈leftP o ps:=fun p hpu=>by
  unfold leftP;rw [wu];refine ⟨hs p hpu,?_⟩;rw [ApK fun e he hb hon=>Apu ho hk e he hb (hon ▸ yz hpu)];rfl
 refine ⟨hleft,?_⟩;have hf:fitO cx n o=true:=by
  obtain ⟨hlt,rfl⟩:=zu.1 ho;exact hfit _ (by simp)
 have h1:wpOp P ops Q k (fun a' w'=>(sort cx o≤2→OldSame w w')∧NextOk n ι F w H R a' w') (putAll ops a us) w:=by
  by_cases hso:sort cx o≤2
  ·exact wpOp_mono (fun a' w' k=>⟨fun _=>k.2,k.1⟩) (AmF hc hcal hS ho hi hf hso h)
  ·exact wpOp_mono (fun a' w' k=>⟨fun h=>absurd h hso,k⟩) (Aoy hc hcal hS ho hi hf h)
 have h2:=Aka (C:=OldSame w) ho hsel hQ us a hp.nd (fun p hpu=>by
  obtain ⟨o',ho',hy⟩:=hp.yl p hpu;exact ⟨o',ho',AbZ hap (hleft p hpu) ho',hy⟩) hp.ap h1
 exact wpOp_mono (fun a' w' k=>⟨k.2.1,k.1,k.2.2⟩) h2
theorem In.again {ι ι':Io} {F F':Nat→Prop} {w:World} {H H':Heap} {e:Env} {a:Act} (h:In n ι F w H e a) (hg:Good ι' F' w H') (st:Step ι F H w ι' F' H' w):In n ι' F' w H' e a:=⟨hg,fun t=>st.vr h.good (h.sim t),h.size,h.defers⟩
theorem AmV (hc:CxTy P cx) (hfit: ∀o∈ops.toList,fitO cx n o=true) (hsel: ∀(j:Nat) (o:Oper) cs b,ops[j]?=some o→o.op≠ .select cs b) {a:Act} {w:World} {e:Env} {R:Env×Heap→Prop}: ∀(qs:List Nat) {us:List (Nat×Value)} {ι:Io} {F:Nat→Prop} {H:Heap},
  In n ι F w H e (putAll ops a us)→(us.map xl).Nodup→(∀p∈us,∀q∈us,p.1≠q.1→ ∀o o',ops[p.1]?=some o→ops[q.1]?=some o'→o.apart ops o'=true)→(∀p∈us,∃o,ops[p.1]?=some o)→holdP cx ops qs=true→wpQ S (chkQ cx ops.toList qs e H) R→
  ∃us' ι' F' H',R (e,H')∧us'.map xl=us.map xl∧In n ι' F' w H' e (putAll ops a us')∧Step ι F H w ι' F' H' w∧(∀p∈us',p∈us∨ ∃o,ops[p.1]?=some o∧YieldsIf P ops (OldSame w) o p.2 a)∧(∀p∈us',p.1∈qs→ ∃o,ops[p.1]?=some o∧YieldsIf P ops (OldSame w) o p.2 a)
 | [],us,ι,F,H,hi,_,_,_,_,h=>⟨us,ι,F,H,h,rfl,hi,.refl ι F H w,fun p hp=> .inl hp,by simp⟩
 |q::qs,us,ι,F,H,hi,hnd,hap,hex,hh,h=>by
  simp only [holdP,ct,zf] at hh;obtain ⟨hh1,hh2⟩:=hh;unfold chkQ at h;rw [Aae] at h;simp only [xg] at h;split at h
  ·rename_i o ho;rw [ho] at hh1;simp only [holdB,zf] at hh1;obtain ⟨⟨hs1,hgd⟩,hself⟩:=hh1;split at h
   ·rename_i d hd;rw [hd] at hself;have hself:d∉o.looksAt ops:=by simpa using hself
    have hf:fitO cx n o=true:=by
     obtain ⟨hlt,rfl⟩:=zu.1 ho;exact hfit _ (by simp)
    have hty:opTy cx o=true:=by unfold fitO at hf;simp only [zf] at hf;exact hf.1
    have hdn:d<n:=by unfold fitO at hf;rw [hd] at hf;simp only [zf] at hf;simpa using hf.2
    obtain ⟨v,H1,ι1,F1,val,k1,k2,k3,k4,k5⟩:=AfW hc hi.good hi.sim hty (jf hs1) (Aaa _ _ _ h);obtain ⟨heq,k1⟩:=k1;have heq:=V.eqB_ok heq;subst heq;have hi1:=hi.again k2 k3;have hw:pn o (yielded ops (putAll ops a us).tmps)=true:=by
     unfold pn;cases hg:o.guard with
     |none=>rfl
     |some x=>rw [hg] at hgd;simp at hgd
    by_cases hq:q∈us.map xl
    ·obtain ⟨p,hp,hpq⟩:=vg.1 hq;obtain ⟨l1,l2,rfl⟩:=List.append_of_mem hp;obtain ⟨q',u⟩:=p;simp only at hpq;subst hpq;have hne: ∀p∈l1++l2,p.1≠q':=by
      simp only [vj,qo] at hnd;have:=(vw.1 ((List.perm_middle.nodup_iff).1 hnd)).1;rw [←vj] at this;exact fun p hp e=>this (e ▸ yz hp)
     have hsub: ∀p∈l1++l2,p∈l1++(q',u)::l2:=fun p hp=>by
      rcases jp.1 hp with hp|hp
      ·exact gz _ hp
      ·exact fg _ (qu _ hp)
     have hapo: ∀p∈l1++l2,∃o',ops[p.1]?=some o'∧o'.apart ops o=true:=fun p hp=>by
      obtain ⟨o',ho'⟩:=hex p (hsub p hp);exact ⟨o',ho',hap p (hsub p hp) (q',u) (by simp) (hne p hp) o' o ho' ho⟩
     have hdst: ∀p∈l1++l2,∀d',dstI ops p.1=some d'→dstI ops q'≠some d':=fun p hp d' hd'=>by
      obtain ⟨o',ho',ha⟩:=hapo p hp;rw [AaP ho'] at hd';rw [AaP ho];exact (uq ha).2.1 d' hd'
     have form: ∀x,putAll ops a (l1++(q',x)::l2)=(putAll ops a (l1++l2)).put (some d) x:=fun x=>by
      rw [AlC a q' x fun p hp=>hdst p (gz _ hp),AiE a q' x hdst,AaP ho,hd]
     have hy:YieldsIf P ops (OldSame w) o val a:=by
      have h1:YieldsIf P ops (OldSame w) o val (putAll ops a (l1++(q',u)::l2)):= .inl ⟨hw,k5⟩;rw [form u] at h1;have h2:YieldsIf P ops (OldSame w) o val (putAll ops a (l1++l2)):=
       h1.of_same (execOp_put o (fun cs b=>hsel _ o cs b ho) _ (some d) u (fun d' hd'=>by cases hd';exact hself)).symm (wanted_put o _ (some d) u (fun d' hd'=>by cases hd';exact hself)).symm
      exact (Acy (fun cs b=>hsel _ o cs b ho) hapo).1 h2
     have hi2:In n ι1 F1 w H1 e (putAll ops a (l1++(q',val)::l2)):=by
      rw [form val];rw [form u] at hi1;refine ⟨hi1.good,fun t=> ?_,by have:=hi1.size;simpa [bu] using this,by have:=hi1.defers;simpa [bu] using this⟩;have h1:=hi1.sim t;by_cases e1:d=t
      ·subst e1;have hsz:d<(putAll ops a (l1++l2)).tmps.size:=by
        have h9:(putAll ops a (l1++l2)).tmps.size=n:=by have:=hi1.size;simpa [bu] using this
        rw [h9];exact hdn
       simpa [bu,hsz] using k4
      ·simp only [bu,vd] at h1⊢;rw [uz e1] at h1⊢;exact h1
     have hmap:(l1++(q',val)::l2).map xl=(l1++(q',u)::l2).map xl:=by simp
     have hmem: ∀p∈l1++(q',val)::l2,p=(q',val)∨p∈l1++l2:=fun p hp=>by
      simp only [jp,qf] at hp⊢;rcases hp with hp|hp|hp
      ·exact .inr (.inl hp)
      ·exact .inl hp
      ·exact .inr (.inr hp)
     obtain ⟨us',ι2,F2,H2,r1,r2,r3,r4,r5,r6⟩:=AmV hc hfit hsel qs hi2 (hmap ▸ hnd) (fun p hp r hr hne o1 o2 h1 h2=>by
      have lift: ∀p∈l1++(q',val)::l2,∃p'∈l1++(q',u)::l2,p'.1=p.1:=fun p hp=>by
       rcases hmem p hp with rfl|hp
       ·exact ⟨(q',u),by simp,rfl⟩
       ·exact ⟨p,hsub p hp,rfl⟩
      obtain ⟨p',m1,e1⟩:=lift p hp;obtain ⟨r',m2,e2⟩:=lift r hr;exact hap p' m1 r' m2 (by rw [e1,e2];exact hne) o1 o2 (by rw [e1];exact h1) (by rw [e2];exact h2)) (fun p hp=>by
      rcases hmem p hp with rfl|hp
      ·exact ⟨o,ho⟩
      ·exact hex p (hsub p hp)) hh2 k1
     refine ⟨us',ι2,F2,H2,r1,r2.trans hmap,r3,k3.trans r4,fun p hp=> ?_,fun p hp hpq=> ?_⟩
     ·rcases r5 p hp with h|h
      ·rcases hmem p h with rfl|h
       ·exact .inr ⟨o,ho,hy⟩
       ·exact .inl (hsub p h)
      ·exact .inr h
     ·rcases qf.1 hpq with hpq|hpq
      ·rcases r5 p hp with h|h
       ·rcases hmem p h with rfl|h
        ·exact ⟨o,ho,hy⟩
        ·exact absurd hpq (hne p h)
       ·exact h
      ·exact r6 p hp hpq
    ·obtain ⟨us',ι2,F2,H2,r1,r2,r3,r4,r5,r6⟩:=AmV hc hfit hsel qs hi1 hnd hap hex hh2 k1;refine ⟨us',ι2,F2,H2,r1,r2,r3,k3.trans r4,r5,fun p hp hpq=> ?_⟩;rcases qf.1 hpq with hpq|hpq
     ·exact absurd (r2 ▸ yz hp:p.1∈us.map xl) (hpq ▸ hq)
     ·exact r6 p hp hpq
   ·exact h.elim
  ·exact h.elim
end
end Go.Eva
namespace Go.Eva
open Go.RowKit
section
variable {P:Program} {cx:Cx} {ops:Array Oper} {Q:Exit→Act→World→Prop}
def wpAnyR (P:Program) (cx:Cx) (ops:Array Oper) (Q:Exit→Act→World→Prop):Nat→Array Bool→Act→World→Prop
 |0,listed,a,w=>jo .any ops listed= []∧Q .normal a w
 |f+1,listed,a,w=>(jo .any ops listed= []→Q .normal a w)∧
  ∀i∈jo .any ops listed,wpOp P ops Q i (fun a' w'=>((∀o,ops[i]?=some o→sort cx o≤2)→OldSame w w')∧wpAnyR P cx ops Q f (listed.setIfInBounds i true) a' w') a w
theorem Aie: ∀(f:Nat) (listed:Array Bool) (a:Act) (w:World),wpAnyR P cx ops Q f listed a w→wpAny P .any ops Q f listed a w
 |0,_,_,_,h=>h
 |f+1,_,_,_,h=>⟨h.1,fun i hi=>wpOp_mono (fun a' w' k=>Aie f _ a' w' k.2) (h.2 i hi)⟩
def lateOk (ops:Array Oper) (late:List Nat) (i:Nat):Bool:=late.all fun k=>qd k i||(match ops[k]? with
 |some o=>o.after.any fun e=>ud .any e&&mem late e.on
 |none=>false)
def lateOf (ops:Array Oper):List Nat→List Nat→List Nat
 | [],acc=>acc
 |j::r,acc=>match ops[j]? with
  |some o=>match o.after.any fun e=>ud .any e&&mem acc e.on with
   |true=>lateOf ops r (acc++ [j])
   |false=>lateOf ops r acc
  |none=>lateOf ops r acc
theorem Aqb {late:List Nat} {i:Nat} (h:lateOk ops late i=true): ∀k∈late,k≠i→ ∃o,ops[k]?=some o∧ ∃e∈o.after,ud .any e=true∧e.on∈late:=by
 intro k hk hne;have:=jm.1 h k hk;simp only [ya] at this;rcases this with this|this
 ·exact absurd (zp this) hne
 ·split at this
  ·rename_i o ho;obtain ⟨ed,hed,hb⟩:=Array.any_eq_true'.1 this;simp only [zf] at hb;exact ⟨o,ho,ed,hed,hb.1,mem_iff.1 hb.2⟩
  ·contradiction
theorem Ahr {i:Nat} {oi:Oper} {v:Value} {C:World→Prop} {late:List Nat} (hi:ops[i]?=some oi) (hsel: ∀(j:Nat) (o:Oper) cs b,ops[j]?=some o→o.op≠ .select cs b) (hQ: ∀c a w,¬Q (.panic c) a w)
  (hlate: ∀k∈late,k≠i→ ∃o,ops[k]?=some o∧ ∃e∈o.after,ud .any e=true∧e.on∈late):
  ∀(f:Nat) (listed:Array Bool) (a:Act) (w:World),(∀k∈late,listed.getD k true=false)→
   (∀j oj,ops[j]?=some oj→j≠i→listed.getD j true=false→j∉late→oi.apart ops oj=true∧ ∀w1 w2,C w1→(sort cx oj≤2→OldSame w1 w2)→C w2)→
   i∈jo .any ops listed→YieldsIf P ops C oi v a→C w→
   wpAnyR P cx ops Q f (listed.setIfInBounds i true) (a.put oi.dst v) w→wpAnyR P cx ops Q (f+1) listed a w:=by
 intro f;induction f with
 |zero=>
  intro listed a w _ _ hr hy hC h;refine ⟨fun h0=>by rw [h0] at hr;simp at hr,fun j hj=> ?_⟩;by_cases e:j=i
  ·subst e;exact hy.wpOp hi hC ⟨fun _=> .refl w,h⟩
  ·have:=ready_mono hj e;rw [h.1] at this;simp at this
 |succ f ih=>
  intro listed a w hl hfree hr hy hC h;refine ⟨fun h0=>by rw [h0] at hr;simp at hr,fun j hj=> ?_⟩;by_cases e:j=i
  ·subst e;exact hy.wpOp hi hC ⟨fun _=> .refl w,h⟩
  ·have h1:=h.2 j (ready_mono hj e);obtain ⟨hun,oj,hoj,hall⟩:=mem_ready.1 hj;have hnl:j∉late:=by
    intro hjl;obtain ⟨o,ho,ed,hed,hb,hon⟩:=hlate j hjl e;rw [hoj] at ho;obtain rfl:=ze ho;have h2:=hall ed hed hb;have h3:=hl ed.on hon;rcases wo ed.on listed.size with hlt|hge
    ·simp [hlt] at h2 h3;rw [h3] at h2;contradiction
    ·simp [yu hge] at h2
   obtain ⟨hap,hkeep⟩:=hfree j oj hoj e hun hnl;have h2:=wpOp_putIf hoj hap (fun cs b=>hsel i oi cs b hi) (fun cs b=>hsel j oj cs b hoj) (fun c a w hq=>absurd hq (hQ c _ w)) hy h1;refine wpOp_mono (fun a' w' k=>⟨k.2.1,?_⟩) h2;have hC':C w':=hkeep w w' hC (fun hs=>k.2.1 (fun o ho=>by rw [hoj] at ho;obtain rfl:=ze ho;exact hs));refine ih (listed.setIfInBounds j true) a' w' ?_ ?_ (ready_mono hr (vf e)) k.1 hC' ?_
   ·intro k' hk';rw [getD_set_ne true (show j≠k' from fun h=>hnl (by rw [h];exact hk'))];exact hl k' hk'
   ·intro k' ok hk hki hunk hno;refine hfree k' ok hk hki ?_ hno;by_cases hjk:j=k'
    ·subst hjk;exact hun
    ·rw [getD_set_ne true hjk] at hunk;exact hunk
   ·rw [Array.setIfInBounds_comm _ _ e];exact k.2.2
def freeL (cx:Cx) (ops:Array Oper) (listed:Array Bool) (late:List Nat) (i:Nat) (oi:Oper) (ld:Bool):Bool:=lateOk ops late i&&late.all (fun k=> !listed.getD k true)&&(jq ops.size).all fun j=>
 qd j i||listed.getD j true||mem late j||(match ops[j]? with
  |some o=>oi.apart ops o&&(!ld||Nat.ble (sort cx o) 2)
  |none=>true)
theorem Alg {listed:Array Bool} {late:List Nat} {i:Nat} {oi:Oper} {ld:Bool} (h:freeL cx ops listed late i oi ld=true):
  (∀k∈late,k≠i→ ∃o,ops[k]?=some o∧ ∃e∈o.after,ud .any e=true∧e.on∈late)∧(∀k∈late,listed.getD k true=false)∧
  ∀(j:Nat) oj,ops[j]?=some oj→j≠i→listed.getD j true=false→j∉late→oi.apart ops oj=true∧(ld=true→sort cx oj≤2):=by
 unfold freeL at h;simp only [zf] at h;refine ⟨Aqb h.1.1,fun k hk=> ?_,?_⟩
 ·have:=jm.1 h.1.2 k hk;simpa using this
 intro j oj hj hne hl hno;have hlt:=(zu.1 hj).1;have:=jm.1 h.2 j (List.mem_range.2 hlt);simp only [hl,hj,ya,Bool.or_false] at this;rcases this with (this|this)|this
 ·exact absurd (zp this) hne
 ·exact absurd (mem_iff.1 this) hno
 ·simp only [zf,ya] at this;refine ⟨this.1,fun hld=> ?_⟩;rcases this.2 with h|h
  ·rw [hld] at h;simp at h
  ·exact jf h
def isOne (l:List Nat) (i:Nat):Bool:=match l with
 | [x]=>qd x i
 |_=>false
def isTwo (l:List Nat) (i j:Nat):Bool:=match l with
 | [x,y]=>qd x i&&qd y j
 |_=>false
def oneB (cx:Cx) (ops:Array Oper) (listed:Array Bool) (ex ps:List Nat) (i:Nat) (o:Oper):Bool:=isOne ((jo .any ops listed).filter fun k=> !mem ex k) i&&apartP ops o (leftP o ps)
def quietP (cx:Cx) (o:Oper) (ps:List Nat):Bool:=Nat.ble (sort cx o) 2||(leftP o ps).isEmpty
def earlyB (cx:Cx) (ops:Array Oper) (listed:Array Bool) (ps:List Nat) (i:Nat) (o:Oper):Bool:=(jo .any ops listed).contains i&&(ps.all (fun p=> !depB o p)&&apartP ops o ps&&(match sort cx o with
 |0=>freeL cx ops listed (lateOf ops (jq ops.size) [i]) i o false
 |1=>freeL cx ops listed (lateOf ops (jq ops.size) [i]) i o true
 |_=>false))
def okTo (cx:Cx) (ops:Array Oper) (fin:Nat→Array Bool→Bool):Ord→Nat→Array Bool→List Nat→List Nat→Bool
 | .done,f,listed,ex,ps=>ex.isEmpty&&ps.isEmpty&&fin f listed
 | .one _ _,0,_,_,_=>false
 | .one i r,f+1,listed,ex,ps=>(match ops[i]? with
  |some o=>((ex.isEmpty&&earlyB cx ops listed ps i o)||(oneB cx ops listed ex ps i o&&quietP cx o ps))&&okTo cx ops fin r f (listed.setIfInBounds i true) [] (leftP o ps)
  |none=>false)
 | .two _ _ _ _,0,_,_,_=>false
 | .two i r j s,f+1,listed,ex,ps=>ex.isEmpty&&ps.isEmpty&&(isTwo (jo .any ops listed) i j&&okTo cx ops fin r f (listed.setIfInBounds i true) [] []&&okTo cx ops fin s f (listed.setIfInBounds j true) [] [])
 | .alt _ _ _,0,_,_,_=>false
 | .alt i r s,f+1,listed,ex,ps=>(jo .any ops listed).contains i&&((match ops[i]? with
  |some o=>apartP ops o (leftP o ps)&&quietP cx o ps&&okTo cx ops fin r f (listed.setIfInBounds i true) [] (leftP o ps)
  |none=>false)&&okTo cx ops fin s (f+1) listed (i::ex) ps)
 | .hold _ _,0,_,_,_=>false
 | .hold i r,f+1,listed,ex,ps=>ex.isEmpty&&((jo .any ops listed).contains i&&(match ops[i]? with
  |some o=>holdB cx ops o&&ps.all (fun p=> !depB o p)&&apartP ops o ps&&okTo cx ops fin r f (listed.setIfInBounds i true) [] (i::ps)
  |none=>false))
 | .keep _ _ _,0,_,_,_=>false
 | .keep i qs r,f+1,listed,ex,ps=>(match ops[i]? with
  |some o=>oneB cx ops listed ex ps i o&&eqN qs (leftP o ps)&&holdP cx ops qs&&okTo cx ops fin r f (listed.setIfInBounds i true) [] qs
  |none=>false)
def okEnd (ops:Array Oper) (_:Nat) (listed:Array Bool):Bool:=(jo .any ops listed).isEmpty
def okOrd (cx:Cx) (ops:Array Oper) (d:Ord) (f:Nat) (listed:Array Bool) (ex:List Nat):Bool:=okTo cx ops (okEnd ops) d f listed ex []
variable {S:Task→(Res→Prop)→Prop} {n:Nat}
theorem Ai6 {l:List Nat} {i:Nat} (h:isOne l i=true):l= [i]:=by
 unfold isOne at h;split at h
 ·rename_i x;rw [zp h]
 ·contradiction
theorem AnS {listed:Array Bool} {ex ps:List Nat} {i:Nat} {o:Oper} (h:oneB cx ops listed ex ps i o=true):(∀k∈jo .any ops listed,k∉ex→k=i)∧apartP ops o (leftP o ps)=true:=by
 unfold oneB at h;simp only [zf] at h;refine ⟨fun k hk hne=> ?_,h.2⟩;have:k∈(jo .any ops listed).filter fun k=> !mem ex k:=by
  rw [wu];refine ⟨hk,?_⟩;cases hm:mem ex k with
  |false=>rfl
  |true=>exact absurd (mem_iff.1 hm) hne
 rw [Ai6 h.1] at this;simpa using this
theorem drain {f:Nat} {listed:Array Bool} {I:List (Nat×Value)→Act→World→Prop}
  (hI: ∀us a w,I us a w→Pd P cx ops w a listed us) (hdrop: ∀l1 l2 k v o a w,ops[k]?=some o→I (l1++(k,v)::l2) a w→I (l1++l2) (a.put o.dst v) w)
  (hend: ∀a w,I [] a w→jo .any ops listed= []→Q .normal a w) (hf:f=0→ ∀a w,I [] a w→jo .any ops listed= [])
  (hpick: ∀us a w,I us a w→ ∀g,f=g+1→ ∀k∈jo .any ops (unl listed us),k∉us.map xl→wpOp P ops Q k (fun a' w'=>((∀o,ops[k]?=some o→sort cx o≤2)→OldSame w w')∧wpAnyR P cx ops Q (g+us.length) ((unl listed us).setIfInBounds k true) a' w') a w)
  (hf0:f=0→ ∀us a w,I us a w→ ∀k∈jo .any ops (unl listed us),k∈us.map xl):
  ∀(m:Nat) (us:List (Nat×Value)) (a:Act) (w:World),us.length=m→I us a w→wpAnyR P cx ops Q (f+us.length) (unl listed us) a w:=by
 intro m;induction m with
 |zero=>
  intro us a w hm hu;obtain rfl:=List.eq_nil_of_length_eq_zero hm;cases f with
  |zero=>exact ⟨hf rfl a w hu,hend a w hu (hf rfl a w hu)⟩
  |succ g=>exact ⟨fun h=>hend a w hu h,fun k hk=>hpick [] a w hu g rfl k hk (by simp)⟩
 |succ m ih=>
  intro us a w hm hu;have hp:=hI us a w hu;have hlen:f+us.length=(f+m)+1:=by omega
  rw [hlen];have hready:jo .any ops (unl listed us)≠ []:=by
   match us,hm with
   |p::r,_=>
    obtain ⟨o,ho,_⟩:=hp.yl p (jh ..);have:p.1∈jo .any ops (unl listed (p::r)):=by
     rw [mem_ready];refine ⟨?_,o,ho,fun e he hb=> ?_⟩
     ·have h1:=hp.ld p (jh ..);simp only [vd,Aa9] at h1⊢;cases hq:listed[p.1]?<;>simp [hq] at h1⊢
     ·obtain ⟨k1,k2⟩:=hp.ed p (jh ..) o ho e he hb;simp only [vd,Aa9,if_neg k2] at k1⊢;exact k1
    intro e;rw [e] at this;simp at this
  refine ⟨fun h=>absurd h hready,fun k hk=> ?_⟩;by_cases hku:k∈us.map xl
  ·obtain ⟨p,hpm,hpk⟩:=vg.1 hku;obtain ⟨l1,l2,rfl⟩:=List.append_of_mem hpm;obtain ⟨k',v⟩:=p;simp only at hpk;subst hpk;obtain ⟨o,ho,hy⟩:=hp.yl (k',v) (by simp);simp only at ho hy;have hnd:=hp.nd;simp only [vj,qo] at hnd;have hn:=(vw.1 ((List.perm_middle.nodup_iff).1 hnd)).1;simp only [jp,not_or] at hn;refine hy.wpOp ho (.refl w) ⟨fun _=> .refl w,?_⟩;rw [Aqy (hp.ld (k',v) (by simp)) hn.1 hn.2];have hl:(l1++l2).length=m:=by simp at hm⊢;omega
   have:=ih (l1++l2) (a.put o.dst v) w hl (hdrop l1 l2 k' v o a w ho hu);rw [hl] at this;exact this
  ·cases f with
   |zero=>exact absurd (hf0 rfl us a w hu k hk) hku
   |succ g=>
    have:=hpick us a w hu g rfl k hk hku;rw [show g+1+m=g+us.length by omega];exact this
theorem Ap9 (hc:CxTy P cx) (hcal:Callable P cx) (hS: ∀f az H R,S (.call f az H) R→CallS P f az H R) (hfit: ∀o∈ops.toList,fitO cx n o=true) (hsel:dt ops=true) (hQ: ∀c a w,¬Q (.panic c) a w) {fin:Nat→Array Bool→Bool}: ∀(d:Ord) (f:Nat) (listed:Array Bool) (ex ps:List Nat)
  {ι:Io} {F:Nat→Prop} {w:World} {H:Heap} {e:Env} {us:List (Nat×Value)} {a:Act} {R:Env×Heap→Prop},
  okTo cx ops fin d f listed ex ps=true→In n ι F w H e (putAll ops a us)→Pd P cx ops w a listed us→(∀p∈us,p.1∈ps)→wpQ S (ordQ cx ops.toList d e H) R→(∀f listed,fin f listed=true→ ∀a' w',NextOk n ι F w H R a' w'→wpAnyR P cx ops Q f listed a' w')→
   (ex= []→wpAnyR P cx ops Q (f+us.length) (unl listed us) a w)∧
   ∀g,f=g+1→ ∀k∈jo .any ops (unl listed us),k∉us.map xl→k∉ex→wpOp P ops Q k (fun a' w'=>((∀o,ops[k]?=some o→sort cx o≤2)→OldSame w w')∧wpAnyR P cx ops Q (g+us.length) ((unl listed us).setIfInBounds k true) a' w') a w:=by
 have hselS:=Region.noSelect_spec hsel;have fit: ∀ {i:Nat} {o:Oper},ops[i]?=some o→fitO cx n o=true:=by
  intro i o ho;obtain ⟨hlt,rfl⟩:=zu.1 ho;exact hfit _ (by simp)
 have drops: ∀ {listed:Array Bool} {ps:List Nat} {ι:Io} {F:Nat→Prop} {H:Heap} {e:Env} {w0:World} (l1 l2:List (Nat×Value)) (k:Nat) (v:Value) (o:Oper) (a:Act) (w:World),ops[k]?=some o→
   (w=w0∧In n ι F w H e (putAll ops a (l1++(k,v)::l2))∧Pd P cx ops w a listed (l1++(k,v)::l2)∧ ∀p∈l1++(k,v)::l2,p.1∈ps)→(w=w0∧In n ι F w H e (putAll ops (a.put o.dst v) (l1++l2))∧Pd P cx ops w (a.put o.dst v) listed (l1++l2)∧ ∀p∈l1++l2,p.1∈ps):=by
  intro listed ps ι F H e w0 l1 l2 k v o a w ho ⟨h0,h1,h2,h3⟩;have hnd:=h2.nd;simp only [vj,qo] at hnd;have hn:=(vw.1 ((List.perm_middle.nodup_iff).1 hnd)).1;simp only [jp,not_or] at hn;refine ⟨h0,?_,h2.drop hselS ho,fun p hp=>h3 p ?_⟩
  ·rw [AlC a k v fun p hp=>h2.dst (gz _ hp) (q:=(k,v)) (by simp) fun e=>hn.1 (show k∈_ from (show p.1=k from e) ▸ yz hp),AaP ho] at h1;exact h1
  ·rcases jp.1 hp with hp|hp
   ·exact gz _ hp
   ·exact fg _ (qu _ hp)
 have all: ∀ {f:Nat} {listed:Array Bool} {ps:List Nat} {ι:Io} {F:Nat→Prop} {w:World} {H:Heap} {e:Env} {us:List (Nat×Value)} {a:Act},In n ι F w H e (putAll ops a us)→Pd P cx ops w a listed us→(∀p∈us,p.1∈ps)→
   (∀ {us:List (Nat×Value)} {a:Act},In n ι F w H e (putAll ops a us)→Pd P cx ops w a listed us→(∀p∈us,p.1∈ps)→ ∀k∈jo .any ops (unl listed us),k∉us.map xl→
    wpOp P ops Q k (fun a' w'=>((∀o,ops[k]?=some o→sort cx o≤2)→OldSame w w')∧wpAnyR P cx ops Q (f+us.length) ((unl listed us).setIfInBounds k true) a' w') a w)→
   (∃k,k∈jo .any ops listed)→wpAnyR P cx ops Q (f+1+us.length) (unl listed us) a w:=by
  intro f listed ps ι F w H e us a hi hp hs hk hex;exact drain (cx:=cx) (I:=fun us a w'=>w'=w∧In n ι F w' H e (putAll ops a us)∧Pd P cx ops w' a listed us∧ ∀p∈us,p.1∈ps) (fun us a w h=>h.2.2.1) drops (fun a w h h0=>by obtain ⟨k,hk⟩:=hex;rw [h0] at hk;simp at hk) (fun h=>by omega)
   (fun us a w' h g hg k hk' hn=>by
    obtain ⟨rfl,h1,h2,h3⟩:=h;obtain rfl:f=g:=by omega
    exact hk h1 h2 h3 k hk' hn) (fun h=>by omega) _ us a w rfl ⟨rfl,hi,hp,hs⟩
 have both: ∀ {f:Nat} {listed:Array Bool} {ps ex:List Nat} {w:World} {us:List (Nat×Value)} {a:Act},(ex= []→wpAnyR P cx ops Q (f+us.length) (unl listed us) a w)→
   (∀g,f=g+1→ ∀k∈jo .any ops (unl listed us),k∉us.map xl→k∉ex→ex= []→wpOp P ops Q k (fun a' w'=>((∀o,ops[k]?=some o→sort cx o≤2)→OldSame w w')∧wpAnyR P cx ops Q (g+us.length) ((unl listed us).setIfInBounds k true) a' w') a w):=by
  intro f listed ps ex w us a h g hg k hk _ _ he;have:=h he;subst hg;rw [show g+1+us.length=(g+us.length)+1 by omega] at this;exact this.2 k hk
 have go: ∀(i:Nat) (o:Oper) (r:Ord) (f:Nat) (listed:Array Bool) (ps:List Nat) {ι:Io} {F:Nat→Prop} {w:World} {H:Heap} {e:Env} {us:List (Nat×Value)} {a:Act} {R:Env×Heap→Prop},In n ι F w H e (putAll ops a us)→Pd P cx ops w a listed us→(∀p∈us,p.1∈ps)→i∈jo .any ops (unl listed us)→i∉us.map xl→
   (∀f listed,fin f listed=true→ ∀a' w',NextOk n ι F w H R a' w'→wpAnyR P cx ops Q f listed a' w')→ops[i]?=some o→apartP ops o (leftP o ps)=true→quietP cx o ps=true→okTo cx ops fin r f (listed.setIfInBounds i true) [] (leftP o ps)=true→
   (∀(f:Nat) (listed:Array Bool) (ex ps:List Nat) {ι:Io} {F:Nat→Prop} {w:World} {H:Heap} {e:Env} {us:List (Nat×Value)} {a:Act} {R:Env×Heap→Prop},
    okTo cx ops fin r f listed ex ps=true→In n ι F w H e (putAll ops a us)→Pd P cx ops w a listed us→(∀p∈us,p.1∈ps)→wpQ S (ordQ cx ops.toList r e H) R→(∀f listed,fin f listed=true→ ∀a' w',NextOk n ι F w H R a' w'→wpAnyR P cx ops Q f listed a' w')→
    (ex= []→wpAnyR P cx ops Q (f+us.length) (unl listed us) a w)∧ ∀g,f=g+1→ ∀k∈jo .any ops (unl listed us),k∉us.map xl→k∉ex→wpOp P ops Q k (fun a' w'=>((∀o,ops[k]?=some o→sort cx o≤2)→OldSame w w')∧wpAnyR P cx ops Q (g+us.length) ((unl listed us).setIfInBounds k true) a' w') a w)→
   wpQ S ((stepQ cx ops.toList o e H).bind fun (e,H)=>ordQ cx ops.toList r e H) R→
   wpOp P ops Q i (fun a' w'=>((∀o,ops[i]?=some o→sort cx o≤2)→OldSame w w')∧wpAnyR P cx ops Q (f+us.length) ((unl listed us).setIfInBounds i true) a' w') a w:=by
  intro i o r f listed ps ι F w H e us a R hi hp hs hk hn hq ho hap hqt hokr ih h;obtain ⟨hl,h1⟩:=AjS hc hcal hS hfit hselS hQ ho hi hp hk hs hap (Aaa _ _ _ h);refine wpOp_mono (fun a' w' ⟨k1,k2,e',H',ι',F',k3,k4,k5⟩=>⟨fun hh=>k1 (hh o ho),?_⟩) h1;rw [AkB hn];have hp':Pd P cx ops w' a' (listed.setIfInBounds i true) us:=by
   refine hp.next rfl fun p hpu=> ?_
   unfold quietP at hqt;simp only [ya] at hqt;rcases hqt with hqt|hqt
   ·obtain ⟨o',ho',hy⟩:=k2 p hpu;have hos:=k1 (jf hqt);exact ⟨o',ho',hy.imp (fun ⟨x,y⟩=>⟨x,fun w2 h2=>y w2 (hos.trans h2)⟩) id⟩
   ·have:=hl p hpu;rw [List.isEmpty_iff.1 hqt] at this;simp at this
  refine (ih f _ [] _ hokr k4 hp' hl k3 ?_).1 rfl;rintro f' listed' hfin a'' w'' ⟨e'',H'',ι'',F'',q1,q2,q3⟩;exact hq f' listed' hfin a'' w'' ⟨e'',H'',ι'',F'',q1,q2,k5.trans q3⟩
 intro d;induction d with
 |done=>
  intro f listed ex ps ι F w H e us a R hok hi hp hs h hq;simp only [okTo,zf] at hok;have hex:ex= []:=by simpa using hok.1.1
  have hps:ps= []:=by simpa using hok.1.2
  have hus:us= []:=by
   cases us with
   |nil=>rfl
   |cons p r=>have:=hs p (jh ..);rw [hps] at this;simp at this
  subst hus;have h1:ex= []→wpAnyR P cx ops Q (f+0) listed a w:=fun _=>hq f listed hok.2 a w ⟨e,H,ι,F,h,hi,.refl ι F H w⟩;exact ⟨h1,fun g hg k hk k1 k2=>both (ps:= []) (us:= []) h1 g hg k hk k1 k2 hex⟩
 |one i r ih=>
  intro f listed ex ps ι F w H e us a R hok hi hp hs h hq;cases f with
  |zero=>simp [okTo] at hok
  |succ f=>
   simp only [okTo] at hok;unfold ordQ at h;rw [Aae] at h;simp only [xg] at h;split at hok
   ·rename_i o ho;rw [ho] at h;simp only at h;simp only [zf,ya] at hok;obtain ⟨hok1,hok2⟩:=hok;rcases hok1 with ⟨hex,hearly⟩|⟨hone,hqt⟩
    ·have hex:ex= []:=by simpa using hex
     subst hex;unfold earlyB at hearly;simp only [zf,bq,decide_eq_true_eq] at hearly;obtain ⟨hrd,⟨hnd,hap⟩,hfree⟩:=hearly;have hleft:leftP o ps=ps:=by
      unfold leftP;rw [List.filter_eq_self];exact fun p hp=>jm.1 hnd p hp
     rw [hleft] at hok2;have hnoe: ∀p∈us,∀e∈o.after,ud .any e=true→e.on≠p.1:=fun p hpu=>AkT (by simpa using jm.1 hnd p.1 (hs p hpu));have hun:=(mem_ready.1 hrd).1;have hni:i∉us.map xl:=by
      intro hm;obtain ⟨p,hpu,rfl⟩:=vg.1 hm;have:=hp.ld p hpu;cases hq:listed[p.1]? with
      |none=>simp [hq] at this
      |some b=>simp [hq] at this hun;rw [this] at hun;contradiction
     have hrdU:i∈jo .any ops (unl listed us):=by
      obtain ⟨_,o',ho',hall⟩:=mem_ready.1 hrd;rw [ho] at ho';obtain rfl:=ze ho';rw [mem_ready];refine ⟨?_,o,ho,fun e he hb=> ?_⟩
      ·have e1:(unl listed us)[i]?=listed[i]?:=by rw [Aa9,if_neg hni]
       simpa [e1] using hun
      ·have h1:=hall e he hb;have hne:e.on∉us.map xl:=fun hm=>by
        obtain ⟨p,hpu,hpe⟩:=vg.1 hm;exact hnoe p hpu e he hb hpe.symm
       have e1:(unl listed us)[e.on]?=listed[e.on]?:=by rw [Aa9,if_neg hne]
       simpa [e1] using h1
     have hapU: ∀p∈us,∃o',ops[p.1]?=some o'∧o'.apart ops o=true:=fun p hpu=>by
      obtain ⟨o',ho',_⟩:=hp.yl p hpu;exact ⟨o',ho',AbZ hap (hs p hpu) ho'⟩
     have hdst: ∀p∈us,∀d,dstI ops p.1=some d→dstI ops i≠some d:=fun p hpu d hd=>by
      obtain ⟨o',ho',ha⟩:=hapU p hpu;rw [AaP ho'] at hd;rw [AaP ho];exact (uq ha).2.1 d hd
     have h1:=Aaa _ _ _ h;have hty:opTy cx o=true:=by have:=fit ho;unfold fitO at this;simp only [zf] at this;exact this.1
     have next: ∀v,NextOk n ι F w H (fun x=>wpQ S (ordQ cx ops.toList r x.1 x.2) R) ((putAll ops a us).put o.dst v) w→wpAnyR P cx ops Q (f+us.length) ((unl listed us).setIfInBounds i true) (a.put o.dst v) w:=by
      rintro v ⟨e',H',ι',F',k1,k2,k3⟩;rw [AkB hni];rw [←AaP ho,←AiE a i v hdst,AaP ho] at k2;refine (ih f _ [] ps hok2 k2 (hp.next rfl fun p hpu=> ?_) hs k1 ?_).1 rfl
      ·obtain ⟨o',ho',hy⟩:=hp.yl p hpu;exact ⟨o',ho',(Aic (fun cs b=>hselS _ o' cs b ho') (AbZ hap (hs p hpu) ho')).2 hy⟩
      ·rintro f' listed' hfin a'' w'' ⟨e'',H'',ι'',F'',q1,q2,q3⟩;exact hq f' listed' hfin a'' w'' ⟨e'',H'',ι'',F'',q1,q2,k3.trans q3⟩
     have late: ∀ {l:List Nat},(∀k∈l,listed.getD k true=false)→ ∀k∈l,(unl listed us).getD k true=false:=fun hl k hk=>by
      have:=hl k hk;simp only [vd,Aa9] at this⊢;split
      ·cases hq:listed[k]?<;>simp [hq] at this⊢
      ·exact this
     have back: ∀ {j:Nat},(unl listed us).getD j true=false→listed.getD j true=false∨j∈us.map xl:=fun {j} h=>by
      by_cases hm:j∈us.map xl
      ·exact .inr hm
      ·have e1:(unl listed us)[j]?=listed[j]?:=by rw [Aa9,if_neg hm]
       exact .inl (by simpa [e1] using h)
     have apU: ∀ {j:Nat} {oj:Oper},ops[j]?=some oj→j∈us.map xl→o.apart ops oj=true∧sort cx oj≤2:=fun {j oj} hoj hm=>by
      obtain ⟨p,hpu,rfl⟩:=vg.1 hm;obtain ⟨o',ho',ha⟩:=hapU p hpu;rw [hoj] at ho';obtain rfl:=ze ho';exact ⟨Ahs ha,yp (hp.so p hpu _ hoj) (by omega)⟩
     have h2:wpAnyR P cx ops Q (f+us.length+1) (unl listed us) a w:=by
      split at hfree
      ·rename_i hso;obtain ⟨v,k1,k2⟩:=Afv (P:=P) (ops:=ops) (C:=Any) hi (fit ho) (fun hi' h'=>Al4 hc hi'.good hi'.sim hty hso h') h1;obtain ⟨q1,q2,q3⟩:=Alg hfree;exact Ahr ho hselS hQ q1 _ _ a w (late q2) (fun j oj hj hne hl hno=>⟨(back hl).elim (fun h=>(q3 j oj hj hne h hno).1) (fun h=>(apU hj h).1),fun _ _ _ _=>trivial⟩) hrdU ((Acy (fun cs b=>hselS _ o cs b ho) hapU).1 k1) trivial (next _ k2)
      ·rename_i hso;obtain ⟨q1,q2,q3⟩:=Alg hfree;obtain ⟨v,k1,k2⟩:=Afv (P:=P) (ops:=ops) (C:=OldSame w) hi (fit ho) (fun hi' h'=>AfW hc hi'.good hi'.sim hty (by omega) h') h1;exact Ahr ho hselS hQ q1 _ _ a w (late q2) (fun j oj hj hne hl hno=>⟨(back hl).elim (fun h=>(q3 j oj hj hne h hno).1) (fun h=>(apU hj h).1),fun w1 w2 hw1 hk=>hw1.trans (hk ((back hl).elim (fun h=>(q3 j oj hj hne h hno).2 rfl) (fun h=>(apU hj h).2)))⟩) hrdU ((Acy (fun cs b=>hselS _ o cs b ho) hapU).1 k1) (.refl w) (next _ k2)
      ·contradiction
     rw [show f+us.length+1=f+1+us.length by omega] at h2;exact ⟨fun _=>h2,fun g hg k hk k1 k2=>both (ps:= []) (fun _=>h2) g hg k hk k1 k2 rfl⟩
    ·obtain ⟨h1,hap⟩:=AnS hone;have pick: ∀ {us:List (Nat×Value)} {a:Act},In n ι F w H e (putAll ops a us)→Pd P cx ops w a listed us→(∀p∈us,p.1∈ps)→ ∀k∈jo .any ops (unl listed us),k∉us.map xl→k∉ex→wpOp P ops Q k (fun a' w'=>((∀o,ops[k]?=some o→sort cx o≤2)→OldSame w w')∧wpAnyR P cx ops Q (f+us.length) ((unl listed us).setIfInBounds k true) a' w') a w:=by
      intro us a hi hp hs k hk hn hne;obtain rfl:=h1 k (AjX hk hn) hne;exact go k o r f listed ps hi hp hs hk hn hq ho hap hqt hok2 ih h
     refine ⟨fun hex=>all hi hp hs (fun hi hp hs k hk hn=>pick hi hp hs k hk hn (by rw [hex];simp)) ?_,fun g hg k hk hn hne=> ?_⟩
     ·subst hex;unfold oneB at hone;simp only [zf] at hone;refine ⟨i,?_⟩;have:i∈(jo .any ops listed).filter fun k=> !mem [] k:=by rw [Ai6 hone.1];simp
      exact (wu.1 this).1
     ·obtain rfl:f=g:=by omega
      exact pick hi hp hs k hk hn hne
   ·contradiction
 |two i r j s ihr ihs=>
  intro f listed ex ps ι F w H e us a R hok hi hp hs h hq;cases f with
  |zero=>simp [okTo] at hok
  |succ f=>
   simp only [okTo,zf] at hok;obtain ⟨⟨hex,hps⟩,⟨hok1,hokr⟩,hoks⟩:=hok;have hex:ex= []:=by simpa using hex
   have hps:ps= []:=by simpa using hps
   subst hex hps;have hus:us= []:=by
    cases us with
    |nil=>rfl
    |cons p r=>have:=hs p (jh ..);simp at this
   subst hus;have htwo:jo .any ops listed= [i,j]:=by
    unfold isTwo at hok1;split at hok1
    ·rename_i x y hx;simp only [zf] at hok1;rw [hx,zp hok1.1,zp hok1.2]
    ·contradiction
   unfold ordQ at h;rw [Aae,Aae] at h;simp only [xg] at h;have ap0: ∀o:Oper,apartP ops o (leftP o [])=true∧quietP cx o []=true∧leftP o []= []:=fun o=>⟨rfl,by simp [quietP,leftP],rfl⟩
   split at h
   ·rename_i o p ho hpp;obtain ⟨h1,h2⟩:=h;have h3:wpAnyR P cx ops Q (f+1) listed a w:=by
     refine ⟨fun h0=>by rw [htwo] at h0;simp at h0,fun k hk=> ?_⟩;have hk0:=hk;rw [htwo] at hk;simp only [qf,List.not_mem_nil,or_false] at hk;rcases hk with rfl|rfl
     ·exact go _ o r f listed [] (us:= []) hi hp hs hk0 (by simp) hq ho (ap0 o).1 (ap0 o).2.1 hokr ihr h1
     ·exact go _ p s f listed [] (us:= []) hi hp hs hk0 (by simp) hq hpp (ap0 p).1 (ap0 p).2.1 hoks ihs h2
    exact ⟨fun _=>h3,fun g hg k hk k1 k2=>both (ps:= []) (us:= []) (ex:= []) (fun _=>h3) g hg k hk k1 k2 rfl⟩
   ·exact h.elim
 |alt i r s ihr ihs=>
  intro f listed ex ps ι F w H e us a R hok hi hp hs h hq;cases f with
  |zero=>simp [okTo] at hok
  |succ f=>
   simp only [okTo,zf,bq,decide_eq_true_eq] at hok;obtain ⟨hrd,hokr,hoks⟩:=hok;unfold ordQ at h;rw [Aae] at h;simp only [xg] at h;split at hokr
   ·rename_i o ho;rw [ho] at h;simp only at h;simp only [zf] at hokr;obtain ⟨⟨hap,hqt⟩,hokr⟩:=hokr;obtain ⟨h1,h2⟩:=h;have pick: ∀ {us:List (Nat×Value)} {a:Act},In n ι F w H e (putAll ops a us)→Pd P cx ops w a listed us→(∀p∈us,p.1∈ps)→ ∀k∈jo .any ops (unl listed us),k∉us.map xl→k∉ex→wpOp P ops Q k (fun a' w'=>((∀o,ops[k]?=some o→sort cx o≤2)→OldSame w w')∧wpAnyR P cx ops Q (f+us.length) ((unl listed us).setIfInBounds k true) a' w') a w:=by
     intro us a hi hp hs k hk hn hne;by_cases hki:k=i
     ·subst hki;exact go _ o r f listed ps hi hp hs hk hn hq ho hap hqt hokr ihr h1
     ·exact (ihs (f+1) listed (i::ex) ps hoks hi hp hs h2 hq).2 f rfl k hk hn (by simp [hki,hne])
    refine ⟨fun hex=>all hi hp hs (fun hi hp hs k hk hn=>pick hi hp hs k hk hn (by rw [hex];simp)) ⟨i,hrd⟩,fun g hg k hk hn hne=> ?_⟩;obtain rfl:f=g:=by omega
    exact pick hi hp hs k hk hn hne
   ·contradiction
 |hold i r ih=>
  intro f listed ex ps ι F w H e us a R hok hi hp hs h hq;cases f with
  |zero=>simp [okTo] at hok
  |succ f=>
   simp only [okTo,zf,bq,decide_eq_true_eq] at hok;obtain ⟨hex,hrd,hok⟩:=hok;have hex:ex= []:=by simpa using hex
   subst hex;unfold ordQ at h;rw [Aae] at h;simp only [xg] at h;split at hok
   ·rename_i o ho;rw [ho] at h;simp only at h;simp only [zf] at hok;obtain ⟨⟨⟨hho,hnd⟩,hap⟩,hok2⟩:=hok;simp only [holdB,zf] at hho;have hso:sort cx o≤1:=jf hho.1.1;have hty:opTy cx o=true:=by have:=fit ho;unfold fitO at this;simp only [zf] at this;exact this.1
    have hun:=(mem_ready.1 hrd).1;have hni:i∉us.map xl:=by
     intro hm;obtain ⟨p,hpu,rfl⟩:=vg.1 hm;have:=hp.ld p hpu;cases hq:listed[p.1]? with
     |none=>simp [hq] at this
     |some b=>simp [hq] at this hun;rw [this] at hun;contradiction
    have hlt:i<listed.size:=by
     rcases wo i listed.size with h|h
     ·exact h
     ·simp [yu h] at hun
    have hapU: ∀p∈us,∃o',ops[p.1]?=some o'∧o'.apart ops o=true:=fun p hpu=>by
     obtain ⟨o',ho',_⟩:=hp.yl p hpu;exact ⟨o',ho',AbZ hap (hs p hpu) ho'⟩
    obtain ⟨v,k1,k2⟩:=Afv (P:=P) (ops:=ops) (C:=OldSame w) hi (fit ho) (fun hi' h'=>AfW hc hi'.good hi'.sim hty hso h') (Aaa _ _ _ h);obtain ⟨e',H',ι',F',k1',k2',k3'⟩:=k2;have hdst: ∀p∈us,∀d,dstI ops p.1=some d→dstI ops i≠some d:=fun p hpu d hd=>by
     obtain ⟨o',ho',ha⟩:=hapU p hpu;rw [AaP ho'] at hd;rw [AaP ho];exact (uq ha).2.1 d hd
    have hput:putAll ops a ((i,v)::us)=(putAll ops a us).put o.dst v:=by
     simp only [putAll];rw [AiE a i v hdst,AaP ho]
    have hp':Pd P cx ops w a (listed.setIfInBounds i true) ((i,v)::us):=by
     obtain ⟨_,o',ho',hall⟩:=mem_ready.1 hrd;rw [ho] at ho';obtain rfl:=ze ho';refine ⟨vw.2 ⟨hni,hp.nd⟩,fun p hpu=> ?_,fun p hpu q hqu hne o1 o2 h1 h2=> ?_,fun p hpu=> ?_,fun p hpu o1 h1=> ?_,fun p hpu o1 h1 e he hb=> ?_⟩
     ·rcases qf.1 hpu with rfl|hpu
      ·exact ⟨o,ho,(Acy (fun cs b=>hselS _ o cs b ho) hapU).1 k1⟩
      ·exact hp.yl p hpu
     ·rcases qf.1 hpu with rfl|hpu<;>rcases qf.1 hqu with rfl|hqu
      ·exact absurd rfl hne
      ·rw [ho] at h1;obtain rfl:=ze h1;exact Ahs (AbZ hap (hs q hqu) h2)
      ·rw [ho] at h2;obtain rfl:=ze h2;exact AbZ hap (hs p hpu) h1
      ·exact hp.ap p hpu q hqu hne o1 o2 h1 h2
     ·rcases qf.1 hpu with rfl|hpu
      ·simp [hlt]
      ·exact getD_set_true (hp.ld p hpu)
     ·rcases qf.1 hpu with rfl|hpu
      ·rw [ho] at h1;obtain rfl:=ze h1;exact hso
      ·exact hp.so p hpu o1 h1
     ·have self:listed.getD i false=true→False:=fun h=>by simp [hlt] at h hun;rw [h] at hun;contradiction
      rcases qf.1 hpu with rfl|hpu
      ·rw [ho] at h1;obtain rfl:=ze h1;have h3:=hall e he hb;refine ⟨getD_set_true h3,fun hm=> ?_⟩;simp only [qo,qf] at hm;rcases hm with hm|hm
       ·exact self (hm ▸ h3)
       ·obtain ⟨q,hqu,hqe⟩:=vg.1 hm;exact AkT (by simpa using jm.1 hnd q.1 (hs q hqu)) e he hb hqe.symm
      ·obtain ⟨q1,q2⟩:=hp.ed p hpu o1 h1 e he hb;refine ⟨getD_set_true q1,fun hm=> ?_⟩;simp only [qo,qf] at hm;rcases hm with hm|hm
       ·exact self (hm ▸ q1)
       ·exact q2 hm
    have h2:=(ih f _ [] (i::ps) hok2 (hput ▸ k2') hp' (fun p hpu=>by
     rcases qf.1 hpu with rfl|hpu
     ·simp
     ·exact qu _ (hs p hpu)) k1' (by
     rintro f' listed' hfin a'' w'' ⟨e'',H'',ι'',F'',q1,q2,q3⟩;exact hq f' listed' hfin a'' w'' ⟨e'',H'',ι'',F'',q1,q2,k3'.trans q3⟩)).1 rfl
    have hunl:unl (listed.setIfInBounds i true) ((i,v)::us)=unl listed us:=by
     refine pk fun j=> ?_;rw [Aa9,Aa9,yr];simp only [qo,qf];by_cases e1:i=j
     ·subst e1;have:listed[i]?=some false:=by
       rw [qp hlt];simp [hlt] at hun;rw [hun]
      rw [if_pos (.inl rfl),if_pos rfl,if_pos hlt,if_neg hni,this];rfl
     ·have e2:(j=i)=False:=eq_false fun h=>e1 h.symm;simp only [e2,false_or,if_neg e1]
    rw [hunl,show f+((i,v)::us).length=f+1+us.length by simp;omega] at h2;exact ⟨fun _=>h2,fun g hg k hk k1 k2=>both (ps:= []) (fun _=>h2) g hg k hk k1 k2 rfl⟩
   ·contradiction
 |keep i qs r ih=>
  intro f listed ex ps ι F w H e us a R hok hi hp hs h hq;cases f with
  |zero=>simp [okTo] at hok
  |succ f=>
   simp only [okTo] at hok;unfold ordQ at h;rw [Aae] at h;simp only [xg] at h;split at hok
   ·rename_i o ho;rw [ho] at h;simp only at h;simp only [zf] at hok;obtain ⟨⟨⟨hone,heq⟩,hhp⟩,hok2⟩:=hok;have heq:=AkV heq;obtain ⟨h1,hap⟩:=AnS hone;have pick: ∀ {us:List (Nat×Value)} {a:Act},In n ι F w H e (putAll ops a us)→Pd P cx ops w a listed us→(∀p∈us,p.1∈ps)→ ∀k∈jo .any ops (unl listed us),k∉us.map xl→k∉ex→wpOp P ops Q k (fun a' w'=>((∀o,ops[k]?=some o→sort cx o≤2)→OldSame w w')∧wpAnyR P cx ops Q (f+us.length) ((unl listed us).setIfInBounds k true) a' w') a w:=by
     intro us a hi hp hs k hk hn hne;obtain rfl:=h1 k (AjX hk hn) hne;obtain ⟨hl,h2⟩:=AjS hc hcal hS hfit hselS hQ ho hi hp hk hs hap (Aaa _ _ _ h);refine wpOp_mono (fun a' w' ⟨k1,k2,e',H',ι',F',k3,k4,k5⟩=>⟨fun hh=>k1 (hh o ho),?_⟩) h2;rw [AkB hn];obtain ⟨us',ι2,F2,H2,r1,r2,r3,r4,r5,r6⟩:=AmV hc hfit hselS qs k4 hp.nd hp.ap (fun p hpu=>by obtain ⟨o',ho',_⟩:=hp.yl p hpu;exact ⟨o',ho'⟩) hhp (Aaa _ _ _ k3);have hin: ∀p∈us',p.1∈qs:=fun p hpu=>by
      have:p.1∈us.map xl:=r2 ▸ yz hpu;obtain ⟨q,hqu,hqe⟩:=vg.1 this;rw [heq,←hqe];exact hl q hqu
     have h4:=(ih f _ [] qs hok2 r3 (hp.next r2 fun p hpu=>r6 p hpu (hin p hpu)) hin r1 (by
      rintro f' listed' hfin a'' w'' ⟨e'',H'',ι'',F'',q1,q2,q3⟩;exact hq f' listed' hfin a'' w'' ⟨e'',H'',ι'',F'',q1,q2,(k5.trans r4).trans q3⟩)).1 rfl
     have hunl:unl (listed.setIfInBounds k true) us'=unl (listed.setIfInBounds k true) us:=by
      refine pk fun j=> ?_;rw [Aa9,Aa9,r2]
     have hlen:us'.length=us.length:=by have:=congrArg zj r2;simpa using this
     rw [hunl,hlen] at h4;exact h4
    refine ⟨fun hex=>all hi hp hs (fun hi hp hs k hk hn=>pick hi hp hs k hk hn (by rw [hex];simp)) ?_,fun g hg k hk hn hne=> ?_⟩
    ·subst hex;unfold oneB at hone;simp only [zf] at hone;refine ⟨i,?_⟩;have:i∈(jo .any ops listed).filter fun k=> !mem [] k:=by rw [Ai6 hone.1];simp
     exact (wu.1 this).1
    ·obtain rfl:f=g:=by omega
     exact pick hi hp hs k hk hn hne
   ·contradiction
theorem ApA (w:World) (a:Act) (listed:Array Bool):Pd P cx ops w a listed []:=⟨by simp,by simp,by simp,by simp,by simp,by simp⟩
theorem ApM (hc:CxTy P cx) (hcal:Callable P cx) (hS: ∀f az H R,S (.call f az H) R→CallS P f az H R) (hfit: ∀o∈ops.toList,fitO cx n o=true) (hsel:dt ops=true) (hQ: ∀c a w,¬Q (.panic c) a w) {d:Ord} {id:Nat} {ι:Io} {F:Nat→Prop} {w:World} {H:Heap} {e:Env} {a:Act} {R:Env×Heap→Prop}
  (hok:okOrd cx ops d ops.size (mw ops.size false) []=true) (hi:In n ι F w H e a) (h:wpQ S (ordQ cx ops.toList d e H) R) (hq: ∀a' w',NextOk n ι F w H R a' w'→Q .normal a' w'):(Code.region id ops true).wp P Q a w:=by
 refine wp_region_any hc.orders (Aie (cx:=cx) _ _ _ _ ?_);obtain ⟨d1,d2⟩:=Acl hi.good;have hi':In n ι F {w with drawn:=w.drawn+1} H e a:=⟨d1,fun t=>d2.vr hi.good (hi.sim t),hi.size,hi.defers⟩
 refine (Ap9 hc hcal hS hfit hsel hQ d _ _ [] [] (us:= []) hok hi' (ApA _ _ _) (by simp) h ?_).1 rfl;rintro f listed hfin a' w' ⟨e',H',ι',F',q1,q2,q3⟩;have hr:jo .any ops listed= []:=by simpa [okEnd] using hfin
 have hQ1:=hq a' w' ⟨e',H',ι',F',q1,q2,d2.trans q3⟩;cases f with
 |zero=>exact ⟨hr,hQ1⟩
 |succ f=>exact ⟨fun _=>hQ1,by rw [hr];simp⟩
end
end Go.Eva
namespace Go.Eva
open Go.RowKit
def exEq:Exit→Ex→Prop
 | .normal,.normal=>True
 | .exit i,.exit j=>i=j
 | .ret,.ret=>True
 |_,_=>False
section
variable {P:Program} {cx:Cx} {S:Task→(Res→Prop)→Prop} {n:Nat}
def slots (a:Act) (live:List Nat):List Value:=live.map fun t=>a.tmps.getD t undef
theorem Ab5 {ι:Io} {F:Nat→Prop} {w:World} {H:Heap} {e:Env} {a:Act} (hi:In n ι F w H e a): ∀ {live:List Nat} {R:List V→Prop},wpQ S (looks e live) R→ ∃vs,R vs∧VRs ι F w H vs (slots a live)
 | [],R,h=>⟨[],h,rfl,by simp⟩
 |t::live,R,h=>by
  have h1:=Aav (Aaa _ _ _ h);obtain ⟨vs,h2,h3,h4⟩:=Ab5 hi (Aaa _ _ _ h1);refine ⟨_::vs,h2,by simp [slots,h3],?_⟩;intro i v u hv hu;cases i with
  |zero=>simp [slots] at hv hu;subst hv;subst hu;simpa using hi.sim t
  |succ i=>simp [slots] at hv hu;exact h4 i v u hv (by simpa [slots] using hu)
theorem AaM {ι:Io} {F:Nat→Prop} {w:World} {H:Heap} {a:Act}: ∀ {live:List Nat} {vs:List V},VRs ι F w H vs (slots a live)→Sim ι F w H (zipE live vs) a
 | [],vs,_,t=>by cases vs<;>exact .t _ _ (.any _)
 |_::_,[],_,t=> .t _ _ (.any _)
 |x::live,v::vs,h,t=>by
  simp only [zipE,look];split
  ·rename_i hb;obtain rfl:=zp hb;exact h.2 0 v _ rfl rfl
  ·exact AaM (live:=live) (vs:=vs) ⟨by have:=h.1;simpa [slots] using this,fun i v u h1 h2=>h.2 (i+1) v u (by simpa using h1) (by simpa [slots] using h2)⟩ t
def ExecQ (n keep:Nat) (ι:Io) (F:Nat→Prop) (H:Heap) (w:World) (R:Ex×Env×Heap→Prop) (ex:Exit) (a':Act) (w':World):Prop:=
 ∃x e' H' ι' F',exEq ex x∧R (x,e',H')∧In n ι' F' w' H' e' a'∧Ext keep ι F H w ι' F' H' w'
theorem AgK {ι ι':Io} {F F':Nat→Prop} {w:World} {H H':Heap}: ∀ {vs:List V},plainIn vs=true→ ∀(i:Nat) v u,vs[i]?=some v→VR ι F w H v u→VR ι' F' w H' v u
 | [],_,i,v,u,hv,_=>by simp at hv
 |v::r,h,i,v',u,hv,hu=>by
  have hr:plainIn r=true∧((∃x,v= .t x∧x.flat=true)∨(∃s,v= .fit s [])∨v= .nil):=by
   cases v with
   |t x=>simp [plainIn] at h;exact ⟨h.2,.inl ⟨x,rfl,h.1⟩⟩
   |fit s xs=>cases xs<;>simp [plainIn] at h;exact ⟨h,.inr (.inl ⟨s,rfl⟩)⟩
   |nil=>simp [plainIn] at h;exact ⟨h,.inr (.inr rfl)⟩
   |_=>simp [plainIn] at h
  cases i with
  |zero=>
   simp at hv;subst hv;rcases hr.2 with ⟨x,rfl,hx⟩|⟨s,rfl⟩|rfl
   ·exact .t _ _ (hu.t_inv.flat hx)
   ·cases hu with
    |fit _ _ a hh=>exact .fit _ _ _ (.slN _ _ _)
   ·cases hu;exact .nil
  |succ i=>exact AgK hr.1 i v' u (by simpa using hv) hu
theorem Ao5 {ι:Io} {F:Nat→Prop} {w:World} {H:Heap} {vs ws:List V} {us zs:List Value} (h:VRs ι F w H vs us) (k:VRs ι F w H ws zs):VRs ι F w H (vs++ws) (us++zs):=by
 refine ⟨by simp [h.1,k.1],fun i v u hv hu=> ?_⟩;by_cases hlt:i<vs.length
 ·rw [qq hlt] at hv;rw [qq (by rw [←h.1];exact hlt)] at hu;exact h.2 i v u hv hu
 ·rw [qg (by omega)] at hv;rw [qg (by rw [←h.1];omega),←h.1] at hu;exact k.2 _ v u hv hu
theorem AjO (a:Act) (ks os:List Nat):slots a (ks++os)=slots a ks++slots a os:=by simp [slots]
theorem Aqd {ι:Io} {F:Nat→Prop} {w:World} {H:Heap} {e:Env} {a:Act} {keep:Nat} {ks is os:List Nat} {run:Env→Heap→Eva.Q (Ex×Env×Heap)} {R:Env×Heap→Prop}
  (hi:In n ι F w H e a) (h:wpQ S (lendQ keep ks is os run e H) R): ∃ιg F1 e0 R0,In n ιg F1 w [] e0 a∧wpQ S (run e0 []) R0∧
   ∀ex a' w',ExecQ n 0 ιg F1 [] w R0 ex a' w'→ExecQ n keep ι F H w (fun x=>x.1= .normal∧R (x.2.1,x.2.2)) ex a' w':=by
 unfold lendQ at h;obtain ⟨vs,h,hv⟩:=Ab5 hi (Aaa _ _ _ h);obtain ⟨zs,h,hz⟩:=Ab5 hi (Aaa _ _ _ h);split at h
 case h_2=>exact h.elim
 rename_i hpl;obtain ⟨g,ιg,h,g1,g2,g3,hgg,hgv,hge⟩:=gc_ok hi.good (Aaa _ _ _ h) hv;obtain ⟨az,haz,h⟩:=Ajs hgg hgv h;refine ⟨ιg,Lent ιg F g.H,_,_,⟨Adu (AnE hgg),AaM ?_,hi.size,hi.defers⟩,Aaa _ _ _ h,?_⟩
 ·rw [AjO];exact Ao5 (haz ιg []) ⟨hz.1,fun i v u h1 h2=>AgK hpl i v u h1 (hz.2 i v u h1 h2)⟩
 rintro ex a' w' ⟨x,e1,H1,ι1,F1,hx,h,hi1,he1⟩;cases x with
 |normal=>
  dsimp only at h;obtain ⟨bz,h,hbz⟩:=Ab5 hi1 (Aaa _ _ _ h);obtain ⟨hsl,h⟩:=AhC hbz h;obtain ⟨ws,h,hws⟩:=Ab5 hi1 (Aaa _ _ _ h);obtain ⟨g',ι2,h,_,_,_,hgg2,hgv2,hge2⟩:=gc_ok hi1.good (Aaa _ _ _ h) hws;obtain ⟨ws',H2,ιn,h,k1,k2,v1,k3⟩:=AhD hgg (fun b hb=> .inl hb) (he1.trans hge2) hgg2 h;refine ⟨.normal,_,_,ιn,F,hx,⟨rfl,h⟩,⟨k1,AaM ?_,hi1.size,hi1.defers⟩,hge.trans (k2.ext _)⟩;rw [AjO,hsl];refine Ao5 ⟨hgv.1,fun i v u h1 h2=>k2.vr hgg (hgv.2 i v u h1 h2)⟩ ⟨by rw [v1,hgv2.1],fun i v u hvi hui=> ?_⟩;have hlt2:i<g'.vs.length:=by rw [←v1];exact (zh.1 hvi).1
  exact k3 _ _ v (zt hlt2) hvi u (hgv2.2 _ _ u (zt hlt2) hui)
 |exit i=>exact h.elim
 |ret=>exact h.elim
end
end Go.Eva
namespace Go.Eva
open Go.RowKit
def LoopWp (P:Program) (c:Code) (Q:Exit→Act→World→Prop) (a:Act) (w:World):Prop:=
 ∀(b:Frame) (k:List Item) (cs:List Frame),∃e a' w',Q e a' w'∧Arrives P (lone (b.at a (.code c:: .inLoop c::k)) cs w) b k cs e a' w'
theorem LoopWp.wp {P:Program} {c:Code} {Q:Exit→Act→World→Prop} {a:Act} {w:World} (h:LoopWp P c Q a w):(Code.loop c).wp P Q a w:=fun b k cs=>
 let ⟨e,a',w',q,r⟩:=h b k cs;⟨e,a',w',q,.of_steps (.one step_loop) r⟩
theorem LoopWp.round {P:Program} {c:Code} {Q:Exit→Act→World→Prop} {a:Act} {w:World} (h:c.wp P (Exit.then (LoopWp P c Q) Q) a w):LoopWp P c Q a w:=by
 intro b k cs;obtain ⟨e,a₁,w₁,hq,harr⟩:=h b (.inLoop c::k) cs;cases e with
 |normal=>
  obtain ⟨e₂,a₂,w₂,hq₂,harr₂⟩:=hq b k cs;exact ⟨e₂,a₂,w₂,hq₂,.of_steps (Steps.trans harr (.one step_inLoop)) harr₂⟩
 |exit id=>exact ⟨_,a₁,w₁,hq,.pass (x:= .inLoop c) rfl (fun _ _=> .inl (by simp)) harr⟩
 |goto l=>exact ⟨_,a₁,w₁,hq,.pass (x:= .inLoop c) rfl (fun _ _=> .inl (by simp)) harr⟩
 |ret=>exact ⟨_,a₁,w₁,hq,.pass (x:= .inLoop c) rfl (fun _ _=> .inl (by simp)) harr⟩
 |panic ch=>exact ⟨_,a₁,w₁,hq,.pass (x:= .inLoop c) rfl (fun _ _=> .inl (by simp)) harr⟩
 |outgrown=>exact ⟨_,a₁,w₁,hq,.pass (x:= .inLoop c) rfl (fun _ _=> .inl (by simp)) harr⟩
def fitC (cx:Cx) (fi:FI) (n:Nat):Code→Bool
 | .region id ops draw=>ops.toList.all (fitO cx n)&&(match draw with
  |false=>true
  |true=>dt ops&&(match drawAt fi.draws id with
   |some d=>okOrd cx ops d ops.size (mw ops.size false) []
   |none=>true))
 | .seq a b=>fitC cx fi n a&&fitC cx fi n b
 | .cond _ a b=>fitC cx fi n a&&fitC cx fi n b
 | .block _ a=>fitC cx fi n a
 | .loop a=>fitC cx fi n a
 |_=>true
theorem ApT {cx:Cx} {n m:Nat} {o:Oper} (h:fitO cx n o=true) (hnm:n≤m):fitO cx m o=true:=by
 unfold fitO at*;simp only [zf] at*;refine ⟨h.1,?_⟩;cases hd:o.dst with
 |none=>rfl
 |some d=>
  rw [hd] at h;have:d<n:=by simpa using h.2
  simpa using Nat.lt_of_lt_of_le this hnm
theorem ApS {cx:Cx} {fi:FI} {n m:Nat} (hnm:n≤m): ∀ {c:Code},fitC cx fi n c=true→fitC cx fi m c=true:=by
 intro c;induction c with
 |region id ops draw=>
  intro h;simp only [fitC,zf] at*;refine ⟨jm.2 fun o ho=>ApT (jm.1 h.1 o ho) hnm,h.2⟩
 |seq a b iha ihb=>intro h;simp only [fitC,zf] at*;exact ⟨iha h.1,ihb h.2⟩
 |cond c a b iha ihb=>intro h;simp only [fitC,zf] at*;exact ⟨iha h.1,ihb h.2⟩
 |block id a ih=>intro h;simp only [fitC] at*;exact ih h
 |loop a ih=>intro h;simp only [fitC] at*;exact ih h
 |_=>intro _;rfl
def rvOf:ResultVar→RV
 | .tmp t=> .tmp t
 | .cell a t=> .cell a t
def rvTy (cx:Cx):RV→Bool
 | .tmp _=>true
 | .cell _ t=>(cx.ti.get t).isSome
structure FnOK (P:Program) (cx:Cx) (f:Nat) (fi:FI) (fn:Func):Prop where
 at_:P.funcs[f]?=some fn
 name : fn.name ≠ "runtime.NumGoroutine"
 body:fn.body=some fi.code
 res:fn.results.toList.map rvOf=fi.res
 resTy:fi.res.all (rvTy cx)=true
 fit:fitC cx fi fn.ntmps fi.code=true
def FnsOK (P:Program) (cx:Cx):Prop:= ∀f fi,cx.fn.get f=some (some fi)→ ∃fn,FnOK P cx f fi fn
theorem FnsOK.callable {P:Program} {cx:Cx} (h:FnsOK P cx):Callable P cx:=by
 intro f fi hf;obtain ⟨fn,k⟩:=h f fi hf;exact ⟨fn,k.at_,k.name,by rw [k.body];simp⟩
def LoopS (P:Program) (cx:Cx) (f:Nat) (p:List Nat) (keep:Nat) (vs:List V) (H:Heap) (R:Res→Prop):Prop:=
 ∀fi c live n,cx.fn.get f=some (some fi)→subAt fi.code p=some (.loop c)→liveAt fi.live p=some live→fitC cx fi n fi.code=true→
  ∀(w:World) (ι:Io) (F:Nat→Prop) (a:Act),In n ι F w H (zipE live vs) a→
   LoopWp P c (fun ex a' w'=> ∃x ι' F',R x∧exEq ex x.e∧In n ι' F' w' x.H (zipE live x.vs) a'∧Ext keep ι F H w ι' F' x.H w') a w
def TaskS (P:Program) (cx:Cx):Task→(Res→Prop)→Prop
 | .call f az H,R=>CallS P f az H R
 | .loop f p keep vs H,R=>LoopS P cx f p keep vs H R
theorem Ant {cx:Cx} {fi:FI} {n:Nat} {c:Code} (h:fitC cx fi n c=true): ∀ {p:List Nat} {d:Code},subAt c p=some d→fitC cx fi n d=true:=by
 intro p;induction p with
 |nil=>intro d hd;simp [subAt] at hd;subst hd;exact h
 |cons k p ih=>
  intro d hd;simp only [subAt] at hd;split at hd
  ·rename_i a b hs;have:=ih hs;simp only [fitC,zf] at this;split at hd<;>(simp at hd;subst hd)
   ·exact this.1
   ·exact this.2
  ·rename_i a b hs;have:=ih hs;simp only [fitC,zf] at this;split at hd<;>(simp at hd;subst hd)
   ·exact this.1
   ·exact this.2
  ·rename_i a hs;have:=ih hs;simp only [fitC] at this;simp at hd;subst hd;exact this
  ·rename_i a hs;have:=ih hs;simp only [fitC] at this;simp at hd;subst hd;exact this
  ·contradiction
section
variable {P:Program} {cx:Cx} {S:Task→(Res→Prop)→Prop} {n:Nat}
def codeSize:Code→Nat
 | .seq a b=>1+codeSize a+codeSize b
 | .cond _ a b=>1+codeSize a+codeSize b
 | .block _ a=>1+codeSize a
 | .loop a=>1+codeSize a
 |_=>1
theorem Ank (hc:CxTy P cx) (hfn:FnsOK P cx) (hS: ∀t R,S t R→TaskS P cx t R) {f:Nat} {fi:FI} (hf:cx.fn.get f=some (some fi)) (hfit:fitC cx fi n fi.code=true):
  ∀(c:Code) (keep:Nat) (p:List Nat),subAt fi.code p=some c→ ∀ {ι:Io} {F:Nat→Prop} {w:World} {H:Heap} {e:Env} {a:Act} {R:Ex×Env×Heap→Prop},In n ι F w H e a→wpQ S (exec cx f fi keep p c e H) R→c.wp P (ExecQ n keep ι F H w R) a w:=by
 have hSc: ∀f az H R,S (.call f az H) R→CallS P f az H R:=fun f az H R h=>hS _ _ h;have hcal:=hfn.callable;have nop: ∀ {keep:Nat} {ι:Io} {F:Nat→Prop} {w:World} {H:Heap} {R:Ex×Env×Heap→Prop} c a w',¬ExecQ n keep ι F H w R (.panic c) a w':=by
  rintro keep ι F w H R c a w' ⟨x,_,_,_,_,hx,_⟩;cases x<;>exact hx
 have same: ∀ {keep:Nat} {ι:Io} {F:Nat→Prop} {w:World} {H:Heap},Ext keep ι F H w ι F H w:=fun {keep ι F w H}=>(Step.refl ι F H w).ext keep;have nextQ: ∀ {keep:Nat} {ι:Io} {F:Nat→Prop} {w:World} {H:Heap} {R:Ex×Env×Heap→Prop} a' w',NextOk n ι F w H (fun x=>R (.normal,x.1,x.2)) a' w'→ExecQ n keep ι F H w R .normal a' w':=by
  rintro keep ι F w H R a' w' ⟨e',H',ι',F',k1,k2,k3⟩;exact ⟨.normal,e',H',ι',F',trivial,k1,k2,k3.ext keep⟩
 have main: ∀(m:Nat) (c:Code),codeSize c≤m→ ∀(keep:Nat) (p:List Nat),subAt fi.code p=some c→ ∀ {ι:Io} {F:Nat→Prop} {w:World} {H:Heap} {e:Env} {a:Act} {R:Ex×Env×Heap→Prop},In n ι F w H e a→wpQ S (exec cx f fi keep p c e H) R→c.wp P (ExecQ n keep ι F H w R) a w:=by
  intro m;induction m with
  |zero=>intro c hc;cases c<;>simp [codeSize] at hc
  |succ m ihm=>
  intro c hcs;cases c with
  |skip=>intro keep p _ ι F w H e a R hi h;exact wp_skip ⟨.normal,e,H,ι,F,trivial,h,hi,same⟩
  |region id ops draw=>
   intro keep p hp ι F w H e a R hi h;have hfr:=Ant hfit hp;simp only [fitC,zf] at hfr;have hall:=fun o ho=>jm.1 hfr.1 o ho;cases draw with
   |false=>
    simp only [exec] at h;exact AgP hc hcal hSc hall hi (Aaa _ _ _ h) nextQ
   |true=>
    simp only [exec] at h;split at h
    ·rename_i d hd;have hfr2:=hfr.2;rw [hd] at hfr2;simp only [zf] at hfr2;exact ApM hc hcal hSc hall hfr2.1 nop hfr2.2 hi (Aaa _ _ _ h) nextQ
    ·exact h.elim
  |seq x y=>
   have ihx:=ihm x (by simp only [codeSize] at hcs;omega);have ihy:=ihm y (by simp only [codeSize] at hcs;omega);intro keep p hp ι F w H e a R hi h;simp only [exec] at h;split at h
   case h_2=>
    split at h
    case h_2=>exact h.elim
    rename_i c d b2;have ihc:=ihm c (by simp only [codeSize] at hcs;omega);have ihd:=ihm d (by simp only [codeSize] at hcs;omega);have ihb:=ihm b2 (by simp only [codeSize] at hcs;omega);obtain ⟨ιg,F1,e0,R0,hi0,h0,hk⟩:=Aqd hi (Aaa _ _ _ h);refine wp_seq (wp_mono (ihx 0 (0::p) (by simp [subAt,hp]) hi0 (Aaa _ _ _ h0)) ?_);rintro ex a' w' ⟨x',e',H',ι',F',hx,hr,hi',he⟩;have bad:(∀i,x'= .exit i→False)∧(x'= .ret→False):=by
     refine ⟨fun i hxi=> ?_,fun hxi=> ?_⟩
     ·subst hxi;obtain ⟨x2,_,_,_,_,hx2,⟨hn2,_⟩,_,_⟩:=hk ex a' w' ⟨_,e',H',ι',F',hx,hr,hi',he⟩;dsimp only at hn2;subst hn2;cases ex<;>simp only [exEq] at hx hx2
     ·subst hxi;obtain ⟨x2,_,_,_,_,hx2,⟨hn2,_⟩,_,_⟩:=hk ex a' w' ⟨_,e',H',ι',F',hx,hr,hi',he⟩;dsimp only at hn2;subst hn2;cases ex<;>simp only [exEq] at hx hx2
    cases x' with
    |exit i=>exact (bad.1 i rfl).elim
    |ret=>exact (bad.2 rfl).elim
    |normal=>
    cases ex<;>simp only [exEq] at hx;simp only [Exit.then];refine wp_seq (wp_seq (wp_mono (ihc 0 (0::0::1::p) (by simp [subAt,hp]) hi' hr) ?_));rintro ex a2 w2 ⟨x2,e2,H2,ι2,F2,hx2,hr2,hi2,he2⟩;obtain ⟨x3,e3,H3,ι3,F3,hx3,⟨hn3,hr3⟩,hi3,he3⟩:=hk ex a2 w2 ⟨x2,e2,H2,ι2,F2,hx2,hr2,hi2,he.trans he2⟩;dsimp only at hn3;subst hn3;cases ex<;>simp only [exEq] at hx3;simp only [Exit.then];refine wp_mono (ihd keep (1::0::1::p) (by simp [subAt,hp]) hi3 (Aaa _ _ _ hr3)) ?_;rintro ex a4 w4 ⟨x4,e4,H4,ι4,F4,hx4,hr4,hi4,he4⟩;cases ex<;>cases x4<;>simp only [exEq] at hx4
    ·simp only [Exit.then];refine wp_mono (ihb keep (1::1::p) (by simp [subAt,hp]) hi4 hr4) ?_;rintro ex5 a5 w5 ⟨x5,e5,H5,ι5,F5,hx5,hr5,hi5,he5⟩;exact ⟨x5,e5,H5,ι5,F5,hx5,hr5,hi5,he3.trans (he4.trans he5)⟩
    ·exact ⟨.exit _,e4,H4,ι4,F4,hx4,hr4,hi4,he3.trans he4⟩
    ·exact ⟨.ret,e4,H4,ι4,F4,trivial,hr4,hi4,he3.trans he4⟩
   refine wp_seq (wp_mono (ihx keep (0::p) (by simp [subAt,hp]) hi (Aaa _ _ _ h)) ?_);rintro ex a' w' ⟨x',e',H',ι',F',hx,hr,hi',he⟩;cases ex<;>cases x'<;>simp only [exEq] at hx
   ·simp only [Exit.then];refine wp_mono (ihy keep (1::p) (by simp [subAt,hp]) hi' hr) ?_;rintro ex2 a2 w2 ⟨x2,e2,H2,ι2,F2,hx2,hr2,hi2,he2⟩;exact ⟨x2,e2,H2,ι2,F2,hx2,hr2,hi2,he.trans he2⟩
   ·exact ⟨.exit _,e',H',ι',F',hx,hr,hi',he⟩
   ·exact ⟨.ret,e',H',ι',F',trivial,hr,hi',he⟩
  |cond co x y=>
   have ihx:=ihm x (by simp only [codeSize] at hcs;omega);have ihy:=ihm y (by simp only [codeSize] at hcs;omega);intro keep p hp ι F w H e a R hi h;simp only [exec] at h;split at h
   ·rename_i t ht;have hev:=Aaj hi.sim co;rw [ht] at hev;have hev:=hev.t_inv.bool_inv;simp only [wpQ] at h;refine wp_cond (t:=t) hev ?_;cases t with
    |true=>exact ihx keep (0::p) (by simp [subAt,hp]) hi h
    |false=>exact ihy keep (1::p) (by simp [subAt,hp]) hi h
   ·exact h.elim
  |block id x=>
   have ih:=ihm x (by simp only [codeSize] at hcs;omega);intro keep p hp ι F w H e a R hi h;simp only [exec] at h;refine wp_block (wp_mono (ih keep (0::p) (by simp [subAt,hp]) hi (Aaa _ _ _ h)) ?_);rintro ex a' w' ⟨x',e',H',ι',F',hx,hr,hi',he⟩;cases ex<;>cases x'<;>simp only [exEq] at hx
   ·exact ⟨.normal,e',H',ι',F',trivial,hr,hi',he⟩
   ·rename_i i j;subst hx;simp only [Exit.inBlock];simp only at hr;by_cases hij:i=id
    ·subst hij;rw [if_pos rfl];have:qd i i=true:=by simp
     rw [this] at hr;exact ⟨.normal,e',H',ι',F',trivial,hr,hi',he⟩
    ·rw [if_neg hij];have:qd i id=false:=by
      cases hb:qd i id with
      |false=>rfl
      |true=>exact absurd (zp hb) hij
     rw [this] at hr;exact ⟨.exit i,e',H',ι',F',rfl,hr,hi',he⟩
   ·exact ⟨.ret,e',H',ι',F',trivial,hr,hi',he⟩
  |loop x=>
   intro keep p hp ι F w H e a R hi h;simp only [exec] at h;split at h
   ·rename_i live hlive;obtain ⟨vs,h1,h2⟩:=Ab5 hi (Aaa _ _ _ h);obtain ⟨vs1,H1,ι1,h1,hg1,hs1,h2⟩:=Aoa hi.good (Aaa _ _ _ h1) h2;obtain ⟨H2,ι2,h1,hg2,hs2⟩:=Ae8 hg1 (Aaa _ _ _ h1);replace h2:=AbM hg1 hs2 h2;obtain ⟨g,ιg,h3,_,_,_,hgg,hgv,hge⟩:=gc_ok hg2 (Aaa _ _ _ h1) h2;replace hge:=((hs1.trans hs2).ext keep).trans hge;obtain ⟨R',hR',_,h4⟩:=h3;have hig:In n ιg F w g.H (zipE live g.vs) a:=⟨hgg,AaM hgv,hi.size,hi.defers⟩
    have hloop:=hS _ _ hR' fi x live n hf hp hlive hfit w ιg F a hig;refine wp_mono hloop.wp ?_;rintro ex a' w' ⟨r,ι',F',hr,hx,hi',he⟩;exact ⟨r.e,zipE live r.vs,r.H,ι',F',hx,h4 r hr,hi',hge.trans he⟩
   ·exact h.elim
  |exit id=>intro keep p _ ι F w H e a R hi h;exact wp_exit ⟨.exit id,e,H,ι,F,rfl,h,hi,same⟩
  |ret=>intro keep p _ ι F w H e a R hi h;exact wp_ret ⟨.ret,e,H,ι,F,trivial,h,hi,same⟩
  |rangeFunc f ps az b=>intro keep p _ ι F w H e a R hi h;exact h.elim
  |scope b=>intro keep p _ ι F w H e a R hi h;exact h.elim
  |label l=>intro keep p _ ι F w H e a R hi h;exact h.elim
  |goto l=>intro keep p _ ι F w H e a R hi h;exact h.elim
  |refuse s=>intro keep p _ ι F w H e a R hi h;exact h.elim
 exact fun c=>main _ c (qn _)
end
end Go.Eva
namespace Go.Eva
open Go.RowKit
theorem LoopWp.mono {P:Program} {c:Code} {Q Q':Exit→Act→World→Prop} {a:Act} {w:World} (h:LoopWp P c Q a w) (hq: ∀e a w,Q e a w→Q' e a w):LoopWp P c Q' a w:=
 fun b k cs=>let ⟨e,a',w',q,r⟩:=h b k cs;⟨e,a',w',hq _ _ _ q,r⟩
theorem Ak4 {ι:Io} {F:Nat→Prop} {w:World} {H:Heap} {vs:List V} {us:List Value} (h:VRs ι F w H vs us):ResR ι F w H vs (if h:us.toArray.size=1 then us.toArray[0] else .tuple us.toArray):=by
 match vs,us,h.1 with
 | [v],[u],_=>exact h.2 0 v u rfl rfl
 | [],[],_=>exact ⟨#[],rfl,rfl,by simp⟩
 |v::v'::r,u::u'::r',hl=>
  refine ⟨(u::u'::r').toArray,?_,by simpa using h.1,fun i x c hx hc=>h.2 i x c hx (by simpa using hc)⟩;rw [dif_neg (by simp)]
def rvSem (tmps:Array Value):ResultVar→Sem Value
 | .tmp t=>pure (tmps.getD t undef)
 | .cell x t=>do loadVar t (←asAddr (tmps.getD x undef))
def Ev (cx:Cx) (t:Task) (R:Res→Prop):Prop:= ∀P,CxTy P cx→FnsOK P cx→TaskS P cx t R
section
variable {P:Program} {cx:Cx} {S:Task→(Res→Prop)→Prop}
theorem Aoh (hc:CxTy P cx) {n:Nat} {ι:Io} {F:Nat→Prop} {w:World} {H:Heap} {e:Env} {a:Act} (hi:In n ι F w H e a): ∀ {rs:List ResultVar} {R:List V→Prop},(rs.map rvOf).all (rvTy cx)=true→wpQ S (resV cx e H (rs.map rvOf)) R→
  ∃vs us,R vs∧VRs ι F w H vs us∧(rs.mapM (rvSem a.tmps)).run P w= .ok us w
 | [],R,_,h=>⟨[],[],h,⟨rfl,by simp⟩,rfl⟩
 |r::rs,R,ht,h=>by
  simp only [qo,ct,zf] at ht;have fin: ∀ {v:V} {u:Value},wpQ S ((resV cx e H (rs.map rvOf)).bind fun l=> .ret (v::l)) R→VR ι F w H v u→(rvSem a.tmps r).run P w= .ok u w→
    ∃vs us,R vs∧VRs ι F w H vs us∧((r::rs).mapM (rvSem a.tmps)).run P w= .ok us w:=by
   intro v u h hv hr;obtain ⟨vs,us,h1,h2,h3⟩:=Aoh hc hi ht.2 (Aaa _ _ _ h);refine ⟨v::vs,u::us,h1,⟨by simp [h2.1],?_⟩,?_⟩
   ·intro i x c hx hcc;cases i with
    |zero=>simp at hx hcc;subst hx;subst hcc;exact hv
    |succ i=>simp at hx hcc;exact h2.2 i x c hx hcc
   ·rw [List.mapM_cons,xy,hr];simp only [j4,xy,h3,ve]
  cases r with
  |tmp t=>
   have h1:=Aav (Aaa _ _ _ h);exact fin h1 (hi.sim t) rfl
  |cell x t=>
   obtain ⟨i,hti⟩:=v7.1 ht.1;obtain ⟨v,u,h1,h2,_,ad,h3,h4⟩:=Ajt (P:=P) hc hi.good hti (Aaa _ _ _ h) (hi.sim x);refine fin h1 h2 ?_;simp [rvSem,h3,asAddr,h4 w (.refl w)]
theorem Aqt (hc:CxTy P cx) (hfn:FnsOK P cx) (hS: ∀t R,S t R→TaskS P cx t R) {t:Task} {R:Res→Prop} (h:wpQ S (body cx t) R):TaskS P cx t R:=by
 cases t with
 |call f az H=>
  intro w ι F vals hg hv;simp only [body] at h;split at h
  ·rename_i fi hf;obtain ⟨fn,hok⟩:=hfn f fi hf;refine calls_of_wp hok.at_ hok.body ?_;have hfit:=ApS (yp (Nat.le_max_left fn.ntmps vals.size) (Nat.le_of_eq (show max fn.ntmps vals.size=vals.size+(fn.ntmps-vals.size) by omega))) hok.fit;generalize ha:({tmps:=vals++mw (fn.ntmps-vals.size) undef,defers:= []}:Act)=a;have hi:In (vals.size+(fn.ntmps-vals.size)) ι F w H (zipE (upto 0 az.length) az) a:=by
    refine ⟨hg,AaM ?_,by rw [←ha];simp,by rw [←ha]⟩;have:slots a (upto 0 az.length)=vals.toList:=by
     have hl:az.length=vals.size:=by simpa using hv.1
     apply vq;intro i;unfold slots;rw [qb];by_cases h:i<az.length
     ·rw [Agc _ _ _ h,←ha];have h':i<vals.size:=by omega
      simp [h',Array.getElem?_append_left h']
     ·rw [vo (by rw [AiM];omega),vo (by simp;omega)];rfl
    rw [this];exact hv
   refine wp_mono (Ank hc hfn hS hf hfit fi.code H.length [] rfl hi (Aaa _ _ _ h)) ?_;rintro ex a' w' ⟨x,e',H',ι',F',hx,hr,hi',he⟩;have key:wpQ S ((resV cx e' H' fi.res).bind fun vs=>match fi.mode with
    | .pure=>match (generalizing:=false) H with
     | []=>pureRes vs H'
     |_=> .fail
    | .fresh=>match (generalizing:=false) H with
     | []=>(tidyR fi.tidy vs H').bind fun x=>(foldR fi.fold 0 x.1 x.2).bind fun H'=>(gc 0 x.1 (noPool H')).bind fun g=> .ret ⟨.ret,g.vs,g.H⟩
     |_=> .fail
    | .inout=>ioRes fi H.length vs H'
    | .both=>match (generalizing:=false) H with
     | []=>pureRes vs H'
     |_=>ioRes fi H.length vs H') R→
     a'.defers= []∧ ∃v,(results fn a'.tmps).run P w'= .ok v w'∧ ∃x v' ι' F',mg v= .returned v'∧R x∧x.e= .ret∧Good ι' F' w' x.H∧ResR ι' F' w' x.H x.vs v'∧Ext H.length ι F H w ι' F' x.H w':=by
    intro h;refine ⟨hi'.defers,?_⟩;rw [←hok.res] at h;obtain ⟨vs,us,h1,h2,h3⟩:=Aoh (P:=P) hc hi' (by rw [hok.res];exact hok.resTy) (Aaa _ _ _ h);have hres:(results fn a'.tmps).run P w'= .ok (if h:us.toArray.size=1 then us.toArray[0] else .tuple us.toArray) w':=by
     have hr:results fn a'.tmps=(do let vs←fn.results.mapM (rvSem a'.tmps);pure (if h:vs.size=1 then vs[0] else .tuple vs)):=rfl;rw [hr,Array.mapM_eq_mapM_toList];simp only [xy,Sem.run_map,h3];rfl
    refine ⟨_,hres,?_⟩;have pureP:H= []→wpQ S (pureRes vs H') R→ ∃x v' ι'' F'',mg (if h:us.toArray.size=1 then us.toArray[0] else .tuple us.toArray)= .returned v'∧R x∧x.e= .ret∧Good ι'' F'' w' x.H∧ResR ι'' F'' w' x.H x.vs v'∧Ext H.length ι F H w ι'' F'' x.H w':=by
     intro hnil hq;subst hnil;unfold pureRes at hq;replace hq:=AaQ (Aaa _ _ _ hq);generalize reach H' 200 (idss vs) []=l at hq;obtain ⟨ts,k1,k2,k3⟩:=AeA hi'.good l (Aaa _ _ _ hq) h2;have hfin: ∀b,(F' b∨Fl ι' H' l b)→b<w'.heap.size:=fun b hb=>hb.elim (hi'.good.fin b) (fl_lt hi'.good);refine ⟨_,_,ι',fun b=>F' b∨Fl ι' H' l b,rfl,k1,rfl,Adu hfin,?_,?_⟩
     ·refine Ak4 ⟨by simp [k2],?_⟩;intro i x c hx hcc;simp only [qb] at hx;obtain ⟨t,ht,rfl⟩:=qa.1 hx;exact .t _ _ (k3 i t c ht hcc)
     ·refine ⟨he.os,he.tape,he.output,he.size,he.same,fun b _ h=>(Adg h).elim,fun b hb=> .inl (he.fsub b hb),?_,fun id o hid=>absurd hid (by simp),fun b _ h=>by obtain ⟨i,o,h1,_⟩:=h;simp at h1⟩;rintro b hb (hf|⟨i,o,_,q1,q2,q3⟩)
      ·exact he.ffr b hb hf
      ·obtain ⟨i',o',q4,_⟩:=he.live b hb ⟨i,o,q1,q2,.inl q3⟩;simp at q4
    have ioP:wpQ S (ioRes fi H.length vs H') R→ ∃x v' ι'' F'',mg (if h:us.toArray.size=1 then us.toArray[0] else .tuple us.toArray)= .returned v'∧R x∧x.e= .ret∧Good ι'' F'' w' x.H∧ResR ι'' F'' w' x.H x.vs v'∧Ext H.length ι F H w ι'' F'' x.H w':=by
     intro h1;unfold ioRes at h1;obtain ⟨vs1,H1,ι1,h1,hg1,hs1,h2⟩:=AlK hi'.good (Aaa _ _ _ h1) h2;obtain ⟨hg2,hs2,h2⟩:=AoU (b:=fi.tidy) (n:=H.length) hg1 h2;obtain ⟨H3,ι3,h1,hg3,hs3⟩:=Ae8 hg2 (Aaa _ _ _ h1);replace h2:=AbM hg2 hs3 h2;obtain ⟨g,ιg,h3,_,_,_,hgg,hgv,hge⟩:=gc_ok hg3 (Aaa _ _ _ h1) h2;exact ⟨_,_,ιg,F',rfl,h3,rfl,hgg,Ak4 hgv,((he.trans (hs1.ext _)).trans ((hs2.trans hs3).ext _)).trans hge⟩
    split at h1
    ·split at h1
     ·exact pureP rfl h1
     ·exact h1.elim
    ·split at h1
     ·obtain ⟨vs1,H1,ι1,h1,hg1,hs1,h2⟩:=AlK hi'.good (Aaa _ _ _ h1) h2;obtain ⟨H3,ι3,h1,hg3,hs3⟩:=Ae8 hg1 (Aaa _ _ _ h1);replace h2:=AbM hg1 hs3 h2;obtain ⟨hg4,hs4,h2⟩:=AnP H3 0 [] rfl hg3 h2;simp only [List.nil_append] at hg4 hs4 h2;obtain ⟨g,ιg,h3,_,_,_,hgg,hgv,hge⟩:=gc_ok hg4 (Aaa _ _ _ h1) h2;exact ⟨_,_,ιg,F',rfl,h3,rfl,hgg,Ak4 hgv,(he.trans (((hs1.trans hs3).trans hs4).ext _)).trans hge⟩
     ·exact h1.elim
    ·exact ioP h1
    ·split at h1
     ·exact pureP rfl h1
     ·exact ioP h1
   cases ex<;>cases x<;>simp only [exEq] at hx
   ·exact key hr
   ·exact hr.elim
   ·exact key hr
  ·exact h.elim
 |loop f p keep vs H=>
  intro fi c live n hf hp hlive hfit w ι F a hi;simp only [body] at h;rw [hf] at h;simp only [hp,hlive] at h;refine LoopWp.round (wp_mono (Ank hc hfn hS hf hfit c keep (0::p) (by simp [subAt,hp]) hi (Aaa _ _ _ h)) ?_);rintro ex a' w' ⟨x,e',H',ι',F',hx,hr,hi',he⟩;obtain ⟨vs',h1,h2⟩:=Ab5 hi' (Aaa _ _ _ hr);obtain ⟨vs1,H1,ι1,h1,hg1,hs1,h2⟩:=Aoa hi'.good (Aaa _ _ _ h1) h2;obtain ⟨H2,ι2,h1,hg2,hs2⟩:=Ae8 hg1 (Aaa _ _ _ h1);replace h2:=AbM hg1 hs2 h2;obtain ⟨g,ιg,h3,_,_,_,hgg,hgv,hge⟩:=gc_ok hg2 (Aaa _ _ _ h1) h2;replace hge:=((hs1.trans hs2).ext keep).trans hge;have hig:In n ιg F' w' g.H (zipE live g.vs) a':=⟨hgg,AaM hgv,hi'.size,hi'.defers⟩
  cases ex<;>cases x<;>simp only [exEq] at hx
  ·obtain ⟨R',hR',_,h4⟩:=h3;simp only [Exit.then];refine LoopWp.mono (hS _ _ hR' fi c live n hf hp hlive hfit w' ιg F' a' hig) ?_;rintro ex2 a2 w2 ⟨r,ι2,F2,hr2,hx2,hi2,he2⟩;exact ⟨r,ι2,F2,h4 r hr2,hx2,hi2,(he.trans hge).trans he2⟩
  ·exact ⟨_,ιg,F',h3,hx,hig,he.trans hge⟩
  ·exact ⟨_,ιg,F',h3,trivial,hig,he.trans hge⟩
theorem Ev.mk {t:Task} {R:Res→Prop} (h:wpQ (Ev cx) (body cx t) R):Ev cx t R:=fun P hc hfn=>
 Aqt hc hfn (fun _ _ h=>h) (AiO (fun _ _ h=>h P hc hfn) _ _ h)
theorem sound (hc:CxTy P cx) (hfn:FnsOK P cx) {t:Task} {R:Res→Prop} (h:Ev cx t R):TaskS P cx t R:=h P hc hfn
end
end Go.Eva
namespace Go.Eva
theorem wrap64 {n:Int} (h: -9223372036854775808≤n∧n≤9223372036854775807):IntKind.i64.wrap n=n:=by
 have h64:IntKind.i64.wrap n=if n%18446744073709551616≥9223372036854775808 then n%18446744073709551616-18446744073709551616 else n%18446744073709551616:=by
  simp [IntKind.wrap,IntKind.bits,IntKind.signed]
 rw [h64];split<;>omega
abbrev Is (cx:Cx) (t:Task) (x:Res):Prop:=Ev cx t (· =x)
abbrev Fn (cx:Cx) (f:Nat) (az:List T) (r:T):Prop:=Is cx (.call f (az.map .t) []) ⟨.ret,[.t r],[]⟩
end Go.Eva
namespace Go.Eva
open Go.RowKit
def allTr {α:Type} (p:Nat→α→Bool):(Nat→Nat)→Tr α→Bool
 |_,.z=>true
 |f,.n l v r=>p (f 0) v&&allTr p (fun k=>f (2*k+1)) l&&allTr p (fun k=>f (2*k+2)) r
 |f,.h l r=>true&&allTr p (fun k=>f (2*k+1)) l&&allTr p (fun k=>f (2*k+2)) r
theorem Aem {α:Type} {p:Nat→α→Bool}: ∀ {t:Tr α} {f:Nat→Nat},allTr p f t=true→ ∀i v,t.get i=some v→p (f i) v=true
 | .z,f,_,i,v,h=>by simp [nk] at h
 | .n l x r,f,hp,i,v,h=>by
  simp only [allTr,zf] at hp;simp only [nk] at h;split at h
  ·rename_i hb;obtain rfl:=zp hb;simp at h;subst h;exact hp.1.1
  ·rename_i hb;have hi:i≠0:=by
    intro e;subst e;simp at hb
   split at h
   ·rename_i hm;have hm:=zp hm;have:=Aem hp.1.2 _ _ h;have e:2*(y8 i 2)+1=i:=by
     have h1:dk i 2=i%2:=rfl;have h2:y8 i 2=i/2:=rfl;omega
    rw [e] at this;exact this
   ·rename_i hm;have hm:i%2≠1:=by
     intro e;have:qd (dk i 2) 1=true:=by
      have h1:dk i 2=i%2:=rfl;rw [h1,e];rfl
     rw [this] at hm;contradiction
    have:=Aem hp.2 _ _ h;have e:2*(fw (y8 i 2))+2=i:=by
     have h2:y8 i 2=i/2:=rfl;have h3:fw (y8 i 2)=i/2-1:=by rw [h2];rfl
     omega
    rw [e] at this;exact this
 | .h l r,f,hp,i,v,h=>by
  simp only [allTr,zf] at hp;simp only [nk] at h;split at h
  ·contradiction
  ·rename_i hb;have hi:i≠0:=by
    intro e;subst e;simp at hb
   split at h
   ·rename_i hm;have hm:=zp hm;have:=Aem hp.1.2 _ _ h;have e:2*(y8 i 2)+1=i:=by
     have h1:dk i 2=i%2:=rfl;have h2:y8 i 2=i/2:=rfl;omega
    rw [e] at this;exact this
   ·rename_i hm;have hm:i%2≠1:=by
     intro e;have:qd (dk i 2) 1=true:=by
      have h1:dk i 2=i%2:=rfl;rw [h1,e];rfl
     rw [this] at hm;contradiction
    have:=Aem hp.2 _ _ h;have e:2*(fw (y8 i 2))+2=i:=by
     have h2:y8 i 2=i/2:=rfl;have h3:fw (y8 i 2)=i/2-1:=by rw [h2];rfl
     omega
    rw [e] at this;exact this
mutual
def tvB:Nat→T→Value→Bool
 |0,_,_=>false
 |_+1,.int k n,.int k' n'=>decide (k=k')&&decide (n=n')
 |_+1,.bool b,.bool c=>b==c
 |_+1,.str s,.string s'=>qd s.data.size 0&&qd s'.data.size 0
 |_+1,.nilp,.pointer none=>true
 |_+1,.nilf,.nilFunc=>true
 |_+1,.nilm,.map none=>true
 |n+1,.agg vs,.agg cs=>tvsB n vs cs.toList
 |_,_,_=>false
def tvsB:Nat→List T→List Value→Bool
 |0,_,_=>false
 |_+1,[],[]=>true
 |n+1,x::xs,v::vs=>v.oneCell'&&tvB n x v&&tvsB n xs vs
 |_,_,_=>false
end
mutual
theorem tvB_ok {F:Nat→Prop} {w:World}: ∀(n:Nat) (x:T) (v:Value),tvB n x v=true→TR F w x v
 |0,_,_,h=>by simp [tvB] at h
 |n+1,x,v,h=>by
  unfold tvB at h;split at h<;>try contradiction
  ·simp at h;obtain ⟨rfl,rfl⟩:=h;exact .int _ _
  ·simp at h;subst h;exact .bool _
  ·rename_i s s' _;simp only [zf] at h;have h1:=zp h.1;have h2:=zp h.2;have e1:s.data= #[]:=Array.eq_empty_of_size_eq_zero h1;have e2:s'.data= #[]:=Array.eq_empty_of_size_eq_zero h2;have:s=s':=by
    cases s;cases s';simp only at e1 e2;rw [e1,e2]
   subst this;exact .str _
  ·exact .nilp
  ·exact .nilf
  ·exact .nilm
  ·rename_i m vs cs heq;cases heq;obtain ⟨h1,h2⟩:=tvsB_ok (F:=F) (w:=w) _ vs cs.toList h;exact .agg _ _ (by simpa using h1) (fun i c hc=>by
    have hlt:i<vs.length:=by have:=(zu.1 hc).1;simp at h1;omega
    exact (h2 i _ c (zt hlt) (by simpa using hc)).1) (fun i x c hx hc=>(h2 i x c hx (by simpa using hc)).2)
theorem tvsB_ok {F:Nat→Prop} {w:World}: ∀(n:Nat) (xs:List T) (vs:List Value),tvsB n xs vs=true→xs.length=vs.length∧ ∀(i:Nat) x v,xs[i]?=some x→vs[i]?=some v→v.oneCell'=true∧TR F w x v
 |0,_,_,h=>by simp [tvsB] at h
 |n+1,[],[],_=>⟨rfl,by simp⟩
 |n+1,[],_::_,h=>by simp [tvsB] at h
 |n+1,_::_,[],h=>by simp [tvsB] at h
 |n+1,x::xs,v::vs,h=>by
  simp only [tvsB,zf] at h;obtain ⟨h1,h2⟩:=tvsB_ok (F:=F) (w:=w) n xs vs h.2;refine ⟨by simp [h1],?_⟩;intro i y u hy hu;cases i with
  |zero=>simp at hy hu;subst hy;subst hu;exact ⟨h.1.1,tvB_ok n _ _ h.1.2⟩
  |succ i=>simp at hy hu;exact h2 i y u hy hu
end
def zv1:V→Value→Bool
 | .t x,v=>tvB 40 x v
 | .fit _ [],.slice none 0 0=>true
 |_,_=>false
theorem ApF {x:V} {v:Value} (h:zv1 x v=true) (ι:Io) (F:Nat→Prop) (w:World) (H:Heap):VR ι F w H x v:=by
 unfold zv1 at h;split at h
 ·exact .t _ _ (tvB_ok _ _ _ h)
 ·exact .fit _ _ _ (.slN _ _ _)
 ·contradiction
def zvB (x:V) (v:Value):Bool:=match x,v with
 | .agg vs,.agg cs=>qd vs.length cs.size&&(vs.zip cs.toList).all fun p=>p.2.oneCell'&&zv1 p.1 p.2
 |x,v=>zv1 x v
theorem AqG {x:V} {v:Value} (h:zvB x v=true) (ι:Io) (F:Nat→Prop) (w:World) (H:Heap):VR ι F w H x v:=by
 unfold zvB at h;split at h
 ·rename_i vs cs;simp only [zf] at h;have hl:=zp h.1;have hall:=jm.1 h.2;have at_: ∀(i:Nat) x c,vs[i]?=some x→cs[i]?=some c→c.oneCell'=true∧zv1 x c=true:=by
   intro i x c hx hc;have hm:(x,c)∈vs.zip cs.toList:=by
    refine List.mem_of_getElem? (i:=i) ?_;rw [List.getElem?_zip_eq_some];exact ⟨hx,by simpa using hc⟩
   have:=hall _ hm;simpa only [zf] using this
  refine .agg _ _ hl (fun i c hc=> ?_) (fun i x c hx hc=>ApF (at_ i x c hx hc).2 ι F w H);have hlt:i<vs.length:=by have:=(zu.1 hc).1;omega
  exact (at_ i _ c (zt hlt) hc).1
 ·exact ApF h ι F w H
def isAny:V→Bool
 | .t .any=>true
 |_=>false
def tyRB (cx:Cx):Ty→TypeDesc→Bool
 | .int k,.int k'=>decide (k'=k)
 | .bool,.bool=>true
 | .str,.string=>true
 | .ptr,.pointer _=>true
 | .slice e,.slice e'=>qd e' e&&(match cx.ti.get e with|some i=>Nat.blt 0 i.size|none=>false)
 | .struct fs, .struct fields => decide (fields.toList.map (fun f => (f.offset, f.type)) = fs) && fields.toList.all fun f => (f.name != "_") && (cx.ti.get f.type).isSome
 | .map k e,.map k' e'=>qd k' k&&qd e' e
 | .fn,d=>notAggB d
 | .other,d=>notAggB d
 |_,_=>false
where notAggB:TypeDesc→Bool
 | .struct _=>false
 | .array _ _=>false
 |_=>true
def tyB (P:Program) (cx:Cx) (t:Nat) (i:TI):Bool:=match P.info? t,P.underlying t with
 |some inf,some d=>qd inf.size i.size&&qd inf.bytes i.bytes&&tyRB cx i.ty d&&(!i.eq||(!P.stoodInHeld t&& !P.eqGuardType P.depth t))&&(match inf.zero with
  |some zv=>(qd i.bytes 0||(qd zv.cells.size i.size&&zv.cells.toList.all (fun c=>c.oneCell')))&&(match zeroV cx depth t with
   |some z=>(qd zv.cells.size i.size&&zv.cells.toList.all (fun c=>c.oneCell'))&&zvB z zv&& !isAny z&&qd z.size i.size
   |none=>true)
  |none=>false)
 |_,_=>false
theorem AoT {v:V} (h:isAny v=false):v≠ .t .any:=by rintro rfl;simp [isAny] at h
theorem Aqw {cx:Cx} {ty:Ty} {d:TypeDesc} (h:tyRB cx ty d=true):TyR cx ty d:=by
 have na: ∀d,tyRB.notAggB d=true→notAgg d:=by
  intro d h;cases d<;>simp [tyRB.notAggB,notAgg] at*
 unfold tyRB at h;split at h<;>try contradiction
 ·have:_=_:=of_decide_eq_true h;subst this;rfl
 ·rfl
 ·rfl
 ·exact ⟨_,rfl⟩
 ·rename_i e e';simp only [zf] at h;obtain rfl:=zp h.1;have h2:=h.2;split at h2
  ·rename_i i hi;exact ⟨rfl,i,hi,by simpa using h2⟩
  ·contradiction
 ·rename_i fs fields;simp only [zf] at h;refine ⟨fields,rfl,of_decide_eq_true h.1,fun f hf=> ?_⟩;have:=jm.1 h.2 f hf;simp only [zf] at this;exact ⟨by simpa using this.1,v7.1 this.2⟩
 ·simp only [zf] at h;obtain rfl:=zp h.1;obtain rfl:=zp h.2;rfl
 ·exact na _ h
 ·exact na _ h
def ExAll (P:Program) (cx:Cx):List (Nat×Xf)→Prop
 | []=>True
 |(f,x)::r=>ExOK P cx f x∧ExAll P cx r
theorem AkX {P:Program} {cx:Cx}: ∀ {l:List (Nat×Xf)},ExAll P cx l→ ∀f x,exAt l f=some x→ExOK P cx f x
 | [],_,f,x,h=>by simp [exAt] at h
 |(g,y)::r,ha,f,x,h=>by
  unfold exAt at h;split at h
  ·rename_i hb;obtain rfl:=zp hb;obtain rfl:=ze h;exact ha.1
  ·exact AkX ha.2 f x h
theorem ApJ {P:Program} {cx:Cx} (h:allTr (tyB P cx) id cx.ti=true) (ho:P.follows .mixedOrders=true) (hx:ExAll P cx cx.ex):CxTy P cx:=by
 have key: ∀t i,cx.ti.get t=some i→tyB P cx t i=true:=fun t i hi=>Aem h t i hi;refine ⟨?_,?_,ho,AkX hx⟩
 ·intro t i hi;have:=key t i hi;unfold tyB at this;split at this
  ·rename_i inf d h1 h2;simp only [zf,ya] at this;obtain ⟨⟨⟨⟨a1,a2⟩,a3⟩,a4⟩,a5⟩:=this;split at a5
   ·rename_i zv hz;simp only [zf] at a5;obtain ⟨_,b3⟩:=a5;refine ⟨inf,d,h1,h2,zp a1,zp a2,Aqw a3,fun he=> ?_,zv,hz,fun z hzz=> ?_⟩
    ·rw [he] at a4;simpa using a4
    ·rw [hzz] at b3;simp only [zf] at b3;obtain ⟨⟨⟨⟨c1,c2⟩,c3⟩,c4⟩,c5⟩:=b3;have hone: ∀(j:Nat) c,zv.cells[j]?=some c→c.oneCell'=true:=by
      intro j c hc;exact jm.1 c2 c (by obtain ⟨hlt,rfl⟩:=zu.1 hc;simp)
     exact ⟨AqG c3,hone,AoT (by simpa using c4),zp c5,zp c1⟩
   ·contradiction
  ·contradiction
 ·intro t i inf zv hi hinf hz hby;have:=key t i hi;unfold tyB at this;split at this
  ·rename_i inf' d h1 h2;rw [hinf] at h1;obtain rfl:=ze h1;simp only [zf] at this;obtain ⟨_,a5⟩:=this;rw [hz] at a5;simp only [zf,ya] at a5;rcases a5.1 with a6|a6
   ·have:=zp a6;omega
   ·refine ⟨zp a6.1,fun j c hc=> ?_⟩;exact jm.1 a6.2 c (by obtain ⟨hlt,rfl⟩:=zu.1 hc;simp)
  ·contradiction
def AllTr {α:Type} (p:Nat→α→Prop):(Nat→Nat)→Tr α→Prop
 |_,.z=>True
 |f,.n l v r=>p (f 0) v∧AllTr p (fun k=>f (2*k+1)) l∧AllTr p (fun k=>f (2*k+2)) r
 |f,.h l r=>True∧AllTr p (fun k=>f (2*k+1)) l∧AllTr p (fun k=>f (2*k+2)) r
theorem AllTr.get {α:Type} {p:Nat→α→Prop}: ∀ {t:Tr α} {f:Nat→Nat},AllTr p f t→ ∀i v,t.get i=some v→p (f i) v
 | .z,f,_,i,v,h=>by simp [nk] at h
 | .n l x r,f,hp,i,v,h=>by
  simp only [nk] at h;split at h
  ·rename_i hb;obtain rfl:=zp hb;simp at h;subst h;exact hp.1
  ·rename_i hb;have hi:i≠0:=by
    intro e;subst e;simp at hb
   split at h
   ·rename_i hm;have hm:=zp hm;have:=AllTr.get hp.2.1 _ _ h;have e:2*(y8 i 2)+1=i:=by
     have h1:dk i 2=i%2:=rfl;have h2:y8 i 2=i/2:=rfl;omega
    rw [e] at this;exact this
   ·rename_i hm;have hm:i%2≠1:=by
     intro e;have:qd (dk i 2) 1=true:=by
      have h1:dk i 2=i%2:=rfl;rw [h1,e];rfl
     rw [this] at hm;contradiction
    have:=AllTr.get hp.2.2 _ _ h;have e:2*(fw (y8 i 2))+2=i:=by
     have h2:y8 i 2=i/2:=rfl;have h3:fw (y8 i 2)=i/2-1:=by rw [h2];rfl
     omega
    rw [e] at this;exact this
 | .h l r,f,hp,i,v,h=>by
  simp only [nk] at h;split at h
  ·contradiction
  ·rename_i hb;have hi:i≠0:=by
    intro e;subst e;simp at hb
   split at h
   ·rename_i hm;have hm:=zp hm;have:=AllTr.get hp.2.1 _ _ h;have e:2*(y8 i 2)+1=i:=by
     have h1:dk i 2=i%2:=rfl;have h2:y8 i 2=i/2:=rfl;omega
    rw [e] at this;exact this
   ·rename_i hm;have hm:i%2≠1:=by
     intro e;have:qd (dk i 2) 1=true:=by
      have h1:dk i 2=i%2:=rfl;rw [h1,e];rfl
     rw [this] at hm;contradiction
    have:=AllTr.get hp.2.2 _ _ h;have e:2*(fw (y8 i 2))+2=i:=by
     have h2:y8 i 2=i/2:=rfl;have h3:fw (y8 i 2)=i/2-1:=by rw [h2];rfl
     omega
    rw [e] at this;exact this
def EntOK (P:Program) (cx:Cx) (f:Nat) (o:Option FI):Prop:= ∀fi,o=some fi→ ∃fn,FnOK P cx f fi fn
theorem Aab {P:Program} {cx:Cx} (f:Nat):EntOK P cx f none:=fun _ h=>nomatch h
theorem Aac {P:Program} {cx:Cx} {f:Nat} {fi:FI} {fn:Func} (h:FnOK P cx f fi fn):EntOK P cx f (some fi):=fun _ e=>⟨fn,ze e ▸ h⟩
theorem AoK {P:Program} {cx:Cx} (h:AllTr (EntOK P cx) id cx.fn):FnsOK P cx:=fun f fi hf=>AllTr.get h f _ hf fi rfl
end Go.Eva
namespace Go.Eva
open Go.RowKit
def Conf (cx:Cx):Nat→Nat→List T→Prop
 |0,_,_=>False
 |n+1,t,ts=>match cx.ti.get t with
  |some i=>match i.ty with
   | .int k=> ∃m,ts= [.int k m]∧(Lit.int k m).wf=true
   | .bool=> ∃b,ts= [.bool b]
   | .str=> ∃s,ts= [.str s]∧s.size≤reachBytes
   | .slice e=> ∃xs,ts= [.sl (sizeOf cx e) xs]∧xs.length≤maxLen∧xs.length*bytesOf cx e≤reachBytes∧ ∀x∈xs,x≠ .any∧(isStruct cx e=true→ ∃l,x= .agg l)∧(isStruct cx e=false→x.cells= [x])∧Conf cx n e x.cells
   | .struct fs=>ts.length=i.size∧ ∀p∈fs,Conf cx n p.2 ((ts.drop p.1).take (sizeOf cx p.2))
   |_=>False
  |none=>False
def contig (cx:Cx):Nat→List (Nat×Nat)→Option Nat
 |n,[]=>some n
 |n,(off,t)::r=>match qd off n with
  |true=>contig cx (n+sizeOf cx t) r
  |false=>none
def rdB (cx:Cx):Nat→Nat→Bool
 |0,_=>false
 |n+1,t=>match cx.ti.get t with
  |some i=>match i.ty with
   | .int _=>true
   | .bool=>true
   | .str=>true
   | .slice e=>rdB cx n e
   | .struct fs=>(fs.all fun p=>rdB cx n p.2)&&(match contig cx 0 fs with|some s=>qd s i.size|none=>false)
   |_=>false
  |none=>false
section
variable {P:Program} {cx:Cx} {H:Type} {enc:TypeId×Value→H} {w:World} {spare:Nat→Bool} {held:Bool}
theorem AeR (hc:CxTy P cx) {t:Nat} {i:TI} (h:cx.ti.get t=some i):P.cellsOf t=i.size∧sizeOf cx t=i.size:=by
 obtain ⟨inf,d,h1,h2,h3,_⟩:=hc.ty t i h;exact ⟨by simp [Program.cellsOf,h1,h3],by simp [sizeOf,h]⟩
def Trees (w:World) (ts:List T) (cs:List Value):Prop:=ts.length=cs.length∧ ∀(i:Nat) a b,ts[i]?=some a→cs[i]?=some b→TR (· <w.heap.size) w a b∧b.oneCell'=true∧a≠ .any
theorem Trees.one {a:T} {b:Value} (h:TR (· <w.heap.size) w a b) (hb:b.oneCell'=true) (ha:a≠ .any):Trees w [a] [b]:=by
 refine ⟨rfl,fun i x y hx hy=> ?_⟩;cases i with
 |zero=>simp at hx hy;subst hx;subst hy;exact ⟨h,hb,ha⟩
 |succ i=>simp at hx
theorem Trees.append {ts us:List T} {cs ds:List Value} (h:Trees w ts cs) (k:Trees w us ds):Trees w (ts++us) (cs++ds):=by
 refine ⟨by simp [h.1,k.1],fun i a b ha hb=> ?_⟩;have hl:=h.1;rcases wo i ts.length with hi|hi
 ·rw [qq hi] at ha;rw [qq (by omega)] at hb;exact h.2 i a b ha hb
 ·rw [qg hi] at ha;rw [qg (by omega)] at hb;exact k.2 _ a b ha (by rw [hl];exact hb)
theorem AjT {cs:List Value} {Q:Nat→List T→Prop}: ∀(fs:List (Nat×Nat)) (pos s:Nat),contig cx pos fs=some s→s≤cs.length→(∀p∈fs,∃ts,Trees w ts ((cs.drop p.1).take (sizeOf cx p.2))∧Q p.2 ts)→
  pos≤s∧ ∃ts,Trees w ts ((cs.drop pos).take (s-pos))∧ ∀p∈fs,pos≤p.1∧Q p.2 ((ts.drop (p.1-pos)).take (sizeOf cx p.2))
 | [],pos,s,h,_,_=>by
  simp [contig] at h;subst h;exact ⟨qn _,[],⟨by simp,by simp⟩,by simp⟩
 |(off,t)::r,pos,s,h,hs,hq=>by
  simp only [contig] at h;split at h
  ·rename_i hb;obtain rfl:=zp hb;obtain ⟨h1,us,h2,h3⟩:=AjT r (off+sizeOf cx t) s h hs (fun p hp=>hq p (qu _ hp));obtain ⟨ts,h4,h5⟩:=hq (off,t) (jh ..);have hlt:ts.length=sizeOf cx t:=by have:=h4.1;simp at this;omega
   refine ⟨by omega,ts++us,?_,?_⟩
   ·have:=h4.append h2;have e:(cs.drop off).take (sizeOf cx t)++(cs.drop (off+sizeOf cx t)).take (s-(off+sizeOf cx t))=(cs.drop off).take (s-off):=by
     rw [show s-off=sizeOf cx t+(s-(off+sizeOf cx t)) by omega,List.take_add,List.drop_drop]
    rw [e] at this;exact this
   ·intro p hp;rcases qf.1 hp with rfl|hp
    ·refine ⟨qn _,?_⟩;simp only [fv,List.drop_zero];rw [List.take_append_of_le_length (by omega),vz (by omega)];exact h5
    ·obtain ⟨k1,k2⟩:=h3 p hp;refine ⟨by omega,?_⟩;have e:(ts++us).drop (p.1-off)=us.drop (p.1-(off+sizeOf cx t)):=by
      rw [List.drop_append,List.drop_of_length_le (by omega)];simp;congr 1;omega
     rw [e];exact k2
  ·contradiction
theorem AmT {a:Addr} {n:Nat} {l:List Value} (h:w.cells? 0 a n=some l):l.length=n∧ ∀j,j<n→w.cell? (a.add j)=l[j]?:=by
 unfold World.cells? at h;rw [if_pos (d8 _)] at h;refine ⟨by simpa using mapM_some_length h,fun j hj=> ?_⟩;exact mapM_some_get h j j (by simp [hj])
theorem AkO {m e:Nat} {ts:List T} (h:Conf cx m e ts) (hs:isStruct cx e=false): ∃x,ts= [x]∧x.cells= [x]∧x≠ .any:=by
 cases m with
 |zero=>exact h.elim
 |succ m=>
  unfold isStruct at hs;simp only [Conf] at h;cases hi:cx.ti.get e with
  |none=>rw [hi] at h;exact h.elim
  |some i=>
   rw [hi] at h hs;cases i with
   |mk ty s b eq=>
    cases ty<;>simp only at h hs
    ·obtain ⟨v,rfl,_⟩:=h;exact ⟨_,rfl,rfl,by simp⟩
    ·obtain ⟨v,rfl⟩:=h;exact ⟨_,rfl,rfl,by simp⟩
    ·obtain ⟨v,rfl,_⟩:=h;exact ⟨_,rfl,rfl,by simp⟩
    ·obtain ⟨v,rfl,_⟩:=h;exact ⟨_,rfl,rfl,by simp⟩
    ·contradiction
theorem AgZ {e:Nat}: ∀ {ds:List (DataW H)} {i:Nat} {d:DataW H},ds[i]?=some d→ ∀k∈d.weights P e,k∈ci P e ds
 | [],i,d,h,_,_=>by simp at h
 |x::r,0,d,h,k,hk=>by
  simp at h;subst h;simp only [ci,jp];exact .inl hk
 |x::r,i+1,d,h,k,hk=>by
  simp only [ci,jp];exact .inr (AgZ (by simpa using h) k hk)
theorem Aqp (hc:CxTy P cx): ∀(m n t:Nat) (cs:List Value) (x:DataW H×List MemPlace),rdB cx m t=true→(∀k∈x.1.weights P t,k≤reachBytes)→DataW.trod enc P w 0 spare held n t cs=some x→ ∃ts,Trees w ts cs∧Conf cx m t ts:=by
 intro m;induction m with
 |zero=>intro n t cs x h;simp [rdB] at h
 |succ m ih=>
  intro n t cs x hr hw h;unfold rdB at hr;split at hr
  ·rename_i i hi;obtain ⟨inf,d,h1,h2,h3,h4,h5,_⟩:=hc.ty t i hi;have conf: ∀ts,Conf cx (m+1) t ts=(match i.ty with
    | .int k=> ∃m,ts= [.int k m]∧(Lit.int k m).wf=true
    | .bool=> ∃b,ts= [.bool b]
    | .str=> ∃s,ts= [.str s]∧s.size≤reachBytes
    | .slice e=> ∃xs,ts= [.sl (sizeOf cx e) xs]∧xs.length≤maxLen∧xs.length*bytesOf cx e≤reachBytes∧ ∀x∈xs,x≠ .any∧(isStruct cx e=true→ ∃l,x= .agg l)∧(isStruct cx e=false→x.cells= [x])∧Conf cx m e x.cells
    | .struct fs=>ts.length=i.size∧ ∀p∈fs,Conf cx m p.2 ((ts.drop p.1).take (sizeOf cx p.2))
    |_=>False):=by
    intro ts;simp only [Conf,hi]
   cases hty:i.ty with
   |int k=>
    rw [hty] at h5;simp only [TyR] at h5;subst h5;obtain ⟨v,rfl,_,hwf⟩:=DataW.trod_int h2 h;exact ⟨[.int k v],.one (.int _ _) rfl (by simp),by rw [conf,hty];exact ⟨v,rfl,hwf⟩⟩
   |bool=>
    rw [hty] at h5;simp only [TyR] at h5;subst h5;obtain ⟨v,rfl,_⟩:=DataW.trod_bool h2 h;exact ⟨[.bool v],.one (.bool _) rfl (by simp),by rw [conf,hty];exact ⟨v,rfl⟩⟩
   |str=>
    rw [hty] at h5;simp only [TyR] at h5;subst h5;obtain ⟨v,rfl,rfl,_⟩:=DataW.trod_string h2 h;exact ⟨[.str v],.one (.str _) rfl (by simp),by rw [conf,hty];exact ⟨v,rfl,by simpa [cn] using hw⟩⟩
   |slice e=>
    rw [hty] at h5 hr;simp only [TyR] at h5;obtain ⟨rfl,ie,hie,hpos⟩:=h5;obtain ⟨c1,c2⟩:=AeR hc hie;rcases DataW.trod_slice h2 h with ⟨rfl,_⟩|⟨a,len,cap,elems,rest,n',rfl,rfl,rfl,_,hl,hmx,hel,hall,_⟩
    ·exact ⟨[.sl (sizeOf cx e) []],.one (.slN _ _ _) rfl (by simp),by rw [conf,hty];exact ⟨[],rfl,d8 _,by simp,by simp⟩⟩
    by_cases h0:len=0
    ·subst h0;exact ⟨[.sl (sizeOf cx e) []],.one (.slN _ _ _) rfl (by simp),by rw [conf,hty];exact ⟨[],rfl,d8 _,by simp,by simp⟩⟩
    have each: ∀i,∃x:T,i<len→ ∃l:List Value,x≠ .any∧(isStruct cx e=true→ ∃l,x= .agg l)∧(isStruct cx e=false→x.cells= [x])∧Conf cx m e x.cells∧x.cells.length=ie.size∧(∀j,j<ie.size→w.cell? ((a.add (i*ie.size)).add j)=l[j]?)∧Trees w x.cells l∧l.length=ie.size:=by
     intro i;by_cases hi:i<len
     ·have:=hall i hi;rw [zt (by omega:i<elems.length),Option.bind_eq_some_iff,c1] at this;obtain ⟨l,q1,q2⟩:=this;obtain ⟨q3,q4⟩:=AmT q1;obtain ⟨ts,k1,k2⟩:=ih n' e l _ hr (fun k hk=>hw k (by
       simp only [cn,h2,qf,jp];exact .inr (.inl (AgZ (i:=i) (by rw [qb,zt (by omega:i<elems.length)];rfl) k hk)))) q2
      have hlen:ts.length=ie.size:=k1.1.trans q3;by_cases hst:isStruct cx e=true
      ·exact ⟨.agg ts,fun _=>⟨l,by simp,fun _=>⟨ts,rfl⟩,fun h=>absurd (hst.symm.trans h) (by simp),k2,hlen,q4,k1,q3⟩⟩
      ·obtain ⟨x,rfl,hx,hne⟩:=AkO k2 (by simpa using hst);exact ⟨x,fun _=>⟨l,hne,fun h=>absurd h hst,fun _=>hx,by rw [hx];exact k2,by rw [hx];exact hlen,q4,by rw [hx];exact k1,q3⟩⟩
     ·exact ⟨.any,fun h=>absurd h hi⟩
    obtain ⟨f,hf⟩:=Classical.axiomOfChoice each;have hpos':0<len:=by omega
    obtain ⟨blk,off,spot⟩:=a;have hcell: ∀i j,i<len→j<ie.size→ ∃v,w.cell? ⟨blk,off+i*ie.size+j,none⟩=some v∧spot=none∧v.oneCell'=true∧(∀t,(f i).cells[j]?=some t→TR (· <w.heap.size) w t v):=by
     intro i j hi hj;obtain ⟨l,_,_,_,_,q1,q2,q3,q4⟩:=hf i hi;have hlj:l[j]?=some l[j]:=zt (by omega);have hcj:=q2 j hj;rw [hlj] at hcj;have hz:w.cell? ((⟨blk,off,spot⟩:Addr).add (0*ie.size)|>.add 0)≠none:=by
      obtain ⟨l0,_,_,_,_,_,p2,_,p4⟩:=hf 0 hpos';rw [p2 0 hpos,zt (by omega)];simp
     have hspot:spot=none:=by
      cases spot with
      |none=>rfl
      |some z=>
       exfalso;apply hz;simp only [Nat.zero_mul,Addr.add,if_true,dv];split<;>simp
     subst hspot;rw [AaW,AaW] at hcj;refine ⟨l[j],hcj,rfl,?_,fun t ht=>(q3.2 j t _ ht hlj).1⟩;have hjt:j<(f i).cells.length:=by omega
     exact (q3.2 j _ _ (zt hjt) hlj).2.1
    have hsp:spot=none:=(hcell 0 0 hpos' hpos).elim fun v h=>h.2.1;subst hsp;have hget: ∀(i:Nat) x,((jq len).map f)[i]?=some x→i<len∧x=f i:=by
     intro i x hx;rw [qb] at hx;obtain ⟨k,hk,rfl⟩:=qa.1 hx;have hi:i<len:=by have:=(zh.1 hk).1;simpa using this
     rw [wd hi] at hk;obtain rfl:=ze hk;exact ⟨hi,rfl⟩
    have hblk:blk<w.heap.size:=by
     obtain ⟨v,hv,_⟩:=hcell 0 0 hpos' hpos;rcases wo blk w.heap.size with hb|hb
     ·exact hb
     ·have:w.heap[blk]?=none:=yu hb;simp [dv,this] at hv
    refine ⟨[.sl (sizeOf cx e) ((jq len).map f)],.one ?_ rfl (by simp),?_⟩
    ·have:=TR.slC (F:=(· <w.heap.size)) (w:=w) (sizeOf cx e) ((jq len).map f) blk off cap (fun i j=>(w.cell? ⟨blk,off+i*ie.size+j,none⟩).getD undef) (by intro hh;have:=congrArg zj hh;simp at this;omega) (by simpa using hl) hblk ?_ ?_ ?_
     ·simpa using this
     ·intro i j hi hj;rw [c2] at hj⊢;simp only [wj,List.length_range] at hi;obtain ⟨v,hv,_,hone,_⟩:=hcell i j hi hj;simp only [hv,ug];exact ⟨trivial,hone⟩
     ·intro i x hx _;obtain ⟨hi,rfl⟩:=hget i x hx;obtain ⟨l,_,_,_,_,q1,_⟩:=hf i hi;rw [c2];exact q1
     ·intro i j x t hx _ ht;obtain ⟨hi,rfl⟩:=hget i x hx;obtain ⟨l,_,_,_,_,q1,_⟩:=hf i hi;have hj:j<ie.size:=by have:=(zh.1 ht).1;omega
      obtain ⟨v,hv,_,_,htr⟩:=hcell i j hi hj;simp only [hv,ug];exact htr t ht
    ·rw [conf,hty];have hby:len*bytesOf cx e≤reachBytes:=by
      have:=hw ((elems.map (·.1)).length+(rest.map (·.1)).length|>(· *P.bytesOf e)) (by simp [cn,h2]);obtain ⟨infe,de,b1,b2,b3,b4,_⟩:=hc.ty e ie hie;have hb:P.bytesOf e=bytesOf cx e:=by simp [Program.bytesOf,b1,b4,bytesOf,hie]
      simp only [wj,hb] at this;have hle:len*bytesOf cx e≤(elems.length+rest.length)*bytesOf cx e:=qj _ (by omega);omega
     refine ⟨_,rfl,by simp;omega,by simpa using hby,fun x hx=> ?_⟩;obtain ⟨i,hi,rfl⟩:=vg.1 hx;obtain ⟨l,k1,k2,k3,k4,_⟩:=hf i (by simpa using hi);exact ⟨k1,k2,k3,k4⟩
   |struct fs=>
    rw [hty] at h5 hr;simp only [TyR] at h5;obtain ⟨fields,rfl,hm,hall⟩:=h5;simp only [zf] at hr;obtain ⟨hr1,hr2⟩:=hr;split at hr2
    ·rename_i s hs;obtain rfl:=zp hr2;obtain ⟨xs,n',rfl,rfl,hl,hxl,hf⟩:=DataW.trod_struct h2 h;obtain ⟨c1,c2⟩:=AeR hc hi;obtain ⟨_,ts,k1,k2⟩:=AjT (w:=w) (cs:=cs) (Q:=fun t ts=>Conf cx m t ts) fs 0 i.size hs (by omega) (by
      intro p hp;rw [←hm] at hp;simp only [vg] at hp;obtain ⟨f,hfm,rfl⟩:=hp;obtain ⟨j,hj,rfl⟩:=List.getElem_of_mem hfm;have hj':j<fields.size:=by simpa using hj
      have hfj:fields[j]?=some fields[j]:=by simp [hj']
      have:=hf j _ hfj;have hxj:xs[j]?=some xs[j]:=zt (by omega);rw [hxj] at this;obtain ⟨_,i',hi'⟩:=hall fields[j] (by simp);obtain ⟨e1,e2⟩:=AeR hc hi';rw [e1,←e2] at this;simp only [Array.getElem_toList];exact ih n' _ _ _ (jm.1 hr1 (fields[j].offset,fields[j].type) (by rw [←hm];exact vg.2 ⟨fields[j],by simp,rfl⟩)) (fun k hk=>hw k (by
       simp only [cn,h2];exact DataW.weights_mem_each (j:=j) (by simp [hj']) (by rw [qb,hxj];rfl) k hk)) this)
     refine ⟨ts,by simpa [vz (show cs.length≤i.size by omega)] using k1,?_⟩;rw [conf,hty];refine ⟨by have:=k1.1;simp at this;omega,fun p hp=> ?_⟩;simpa using (k2 p hp).2
    ·contradiction
   |_=>rw [hty] at hr;contradiction
  ·contradiction
end
end Go.Eva
namespace Go.Eva
open Go.RowKit Go.ChangeShapes Go.WideShapes
def Arg (cx:Cx) (m t:Nat) (x:T):Prop:=x≠ .any∧(isStruct cx t=true→ ∃l,x= .agg l)∧(isStruct cx t=false→x.cells= [x])∧Conf cx m t x.cells
def Args (cx:Cx) (m:Nat):List Nat→List T→Prop
 | [],[]=>True
 |t::ts,x::xs=>Arg cx m t x∧Args cx m ts xs
 |_,_=>False
theorem AiU {cx:Cx} {m t:Nat} {ts:List Nat} {xs:List T} (h:Args cx m (t::ts) xs): ∃x ys,xs=x::ys∧Arg cx m t x∧Args cx m ts ys:=by
 cases xs with
 |nil=>exact h.elim
 |cons x ys=>exact ⟨x,ys,rfl,h.1,h.2⟩
theorem AoB {cx:Cx} {m:Nat} {xs:List T} (h:Args cx m [] xs):xs= []:=by
 cases xs with
 |nil=>rfl
 |cons x ys=>exact h.elim
section
variable {P:Program} {cx:Cx} {H:Type} {enc:TypeId×Value→H} {W:World} {spare:Nat→Bool} {held:Bool} {base:Nat}
theorem Aq2 (hc:CxTy P cx) {m t:Nat} {v:Value} {d:DataW H} {p:List MemPlace} (hr:rdB cx m t=true) (hval:Value.okWide P W .any base t v) (hw: ∀k∈d.weights P t,k≤reachBytes)
  (h:DataW.Trod enc P W 0 spare held t v d p): ∃x,TR (· <W.heap.size) W x v∧Arg cx m t x:=by
 obtain ⟨fuel,hf⟩:=h;obtain ⟨ts,h1,h2⟩:=Aqp hc m fuel t _ (d,p) hr hw hf;cases m with
 |zero=>exact h2.elim
 |succ m=>
  cases hi:cx.ti.get t with
  |none=>simp [Conf,hi] at h2
  |some i=>
   obtain ⟨inf,dd,e1,e2,e3,e4,e5,_⟩:=hc.ty t i hi;obtain ⟨ty,isz,ib,ieq⟩:=i;simp only at e3 e4 e5;by_cases hs:isStruct cx t=true
   ·cases ty with
    |struct fs=>
     simp only [TyR] at e5;obtain ⟨fields,rfl,_⟩:=e5;obtain ⟨cs,rfl,hcs⟩:=okWide_struct e2 hval;refine ⟨.agg ts,.agg _ _ (by simpa [v6] using h1.1) ?_ ?_,by simp,fun _=>⟨ts,rfl⟩,fun h=>absurd (hs.symm.trans h) (by simp),h2⟩
     ·intro i c hic;have hlt:i<ts.length:=by have:=(zu.1 hic).1;have:=h1.1;simp [v6] at this;omega
      exact (h1.2 i _ c (zt hlt) (by simpa [v6] using hic)).2.1
     ·intro i x c hx hic;exact (h1.2 i x c hx (by simpa [v6] using hic)).1
    |_=>simp [isStruct,hi] at hs
   ·have hs':isStruct cx t=false:=by simpa using hs
    obtain ⟨x,rfl,hx,hne⟩:=AkO h2 hs';have hv:v.cells= #[v]:=by
     unfold rdB at hr;rw [hi] at hr;cases ty with
     |int k=>simp only [TyR] at e5;subst e5;obtain ⟨n,rfl⟩:=okWide_int e2 hval;rfl
     |bool=>simp only [TyR] at e5;subst e5;obtain ⟨n,rfl⟩:=okWide_bool e2 hval;rfl
     |str=>simp only [TyR] at e5;subst e5;obtain ⟨n,rfl⟩:=okWide_string e2 hval;rfl
     |slice e=>simp only [TyR] at e5;obtain ⟨rfl,_⟩:=e5;obtain ⟨a,b,c,rfl⟩:=okWide_slice e2 hval;rfl
     |struct fs=>simp [isStruct,hi] at hs'
     |_=>simp at hr
    rw [hv] at h1;exact ⟨x,(h1.2 0 x v rfl rfl).1,hne,fun h=>absurd h hs,fun _=>hx,by rw [hx];exact h2⟩
theorem AhR (hc:CxTy P cx) {m:Nat}: ∀ {pts:List Nat} {vs:List Value} {ds:List (DataW H)} {ps:List MemPlace},cm enc P W 0 spare held pts vs ds ps→pts.all (rdB cx m)=true→
  (∀k∈ck P pts ds,k≤reachBytes)→(∀(j:Nat) t v,pts[j]?=some t→vs[j]?=some v→Value.okWide P W .any base t v)→
  ∃xs,VRs ⟨fun _=>none,fun _=> []⟩ (· <W.heap.size) W [] (xs.map .t) vs∧Args cx m pts xs
 | [],vs,ds,ps,h,_,_,_=>by
  obtain ⟨rfl,rfl,rfl⟩:=trodAll_nil h;exact ⟨[],⟨rfl,by simp⟩,trivial⟩
 |t::pts,vs,ds,ps,h,hr,hw,hv=>by
  obtain ⟨v,vs',d,ds',p,q,rfl,rfl,rfl,h1,h2⟩:=trodAll_cons h;simp only [ct,zf] at hr;obtain ⟨x,k1,k2⟩:=Aq2 (base:=base) hc hr.1 (hv 0 t v rfl rfl) (fun k hk=>hw k (by simp only [ck,jp];exact .inl hk)) h1;obtain ⟨xs,k3,k4⟩:=AhR hc h2 hr.2 (fun k hk=>hw k (by simp only [ck,jp];exact .inr hk)) (fun j t v ht hv'=>hv (j+1) t v ht hv');refine ⟨x::xs,⟨by have:=k3.1;simp at this;simp [this],?_⟩,k2,k4⟩;intro i y u hy hu;cases i with
  |zero=>simp at hy hu;subst hy;subst hu;exact .t _ _ k1
  |succ i=>exact k3.2 i y u (by simpa using hy) (by simpa using hu)
theorem AmN (hl:laidOutB P=true) {W':World} (bel:Below W.heap.size W W'): ∀ {pts:List Nat} {vs:List Value} {ds:List (DataW H)} {ps:List MemPlace},cm enc P W 0 (fun _=>true) true pts vs ds ps→
  (pts.all fun t=>P.readableRec t&&decide (t<P.types.size))=true→cm enc P W' 0 (fun b=>decide (b<W.heap.size)) true pts vs ds ps
 | [],vs,ds,ps,h,_=>by
  obtain ⟨rfl,rfl,rfl⟩:=trodAll_nil h;exact trodAll_mk0
 |t::pts,vs,ds,ps,h,hr=>by
  obtain ⟨v,vs',d,ds',p,q,rfl,rfl,rfl,h1,h2⟩:=trodAll_cons h;simp only [ct,zf,decide_eq_true_eq] at hr;refine trodAll_cons_mk (Below.trod hl hr.1.1 hr.1.2 h1 bel ?_) (AmN hl bel h2 hr.2);obtain ⟨m,hm⟩:=h1;exact DataW.trod_lt m _ _ _ hm
theorem AlN: ∀ {pts:List Nat} {vs:List Value} {ds:List (DataW H)} {ps:List MemPlace},cm enc P W 0 spare held pts vs ds ps→ds.length=pts.length
 | [],vs,ds,ps,h=>by
  obtain ⟨rfl,rfl,rfl⟩:=trodAll_nil h;rfl
 |t::pts,vs,ds,ps,h=>by
  obtain ⟨v,vs',d,ds',p,q,rfl,rfl,rfl,h1,h2⟩:=trodAll_cons h;simp [AlN h2]
theorem AmR (hc:CxTy P cx) (hfn:FnsOK P cx) {f:Nat} {xs:List T} (h:Ev cx (.call f (xs.map .t) []) (· =⟨.ret,[.t (.bool true)],[]⟩)) {vals:Array Value}
  (hv:VRs ⟨fun _=>none,fun _=> []⟩ (· <W.heap.size) W [] (xs.map .t) vals.toList):Calls P f vals W fun e W'=>e= .returned (.bool true)∧Below W.heap.size W W':=by
 have:=sound hc hfn h;refine (this W ⟨fun _=>none,fun _=> []⟩ (· <W.heap.size) vals (Adu fun b hb=>hb) hv).mono ?_;rintro e W' ⟨x,v,ι',F',rfl,rfl,_,_,hr,he⟩;refine ⟨?_,he.os,he.tape,he.output,he.size,fun k hk=>he.same k hk (fun h=>Adg h)⟩;have:VR ι' F' W' [] (.t (.bool true)) v:=hr;cases this with
 |t x v h=>cases h;rfl
end
end Go.Eva
namespace Go.Eva
inductive Hd where
 |fail|ret
 |ask (t:Task)|test (b:Bool)|num (k:IntKind) (n:Int)|get (xs:List T) (i:Nat)|norm (x:T)|nat (n:Nat)|cap (lo:Nat)|new (no:List Nat)|want (p:Prop)|both|find (kd:IntKind) (n:Int) (ks:List T)|any
inductive An where
 |b (c:Bool)|i (n:Int)|t (x:T)|n (m:Nat)|r (x:Res)|o|f (x:Option Nat)|u (v:Value)
def hd {α:Type}:Q α→Hd
 | .fail=> .fail
 | .ret _=> .ret
 | .ask t _=> .ask t
 | .test b _=> .test b
 | .num k n _=> .num k n
 | .get xs i _=> .get xs i
 | .norm x _=> .norm x
 | .nat n _=> .nat n
 | .cap lo _=> .cap lo
 | .new no _=> .new no
 | @Q.want _ p _ _=> .want p
 | .both _ _=> .both
 | .find kd n ks _=> .find kd n ks
 | .any _=> .any
def nx {α:Type}:Q α→An→Q α
 | .ask _ k,.r x=>k x
 | .test _ k,.b c=>k c
 | .num _ _ k,.i n=>k n
 | .get _ _ k,.t x=>k x
 | .norm _ k,.t x=>k x
 | .nat _ k,.n m=>k m
 | .cap _ k,.n m=>k m
 | .new _ k,.n m=>k m
 | @Q.want _ _ _ q,.o=>q
 | .both p _,.b true=>p
 | .both _ q,.b false=>q
 | .find _ _ _ k,.f x=>k x
 | .any k,.u v=>k v
 |_,_=> .fail
def out {α:Type}:Q α→Option α
 | .ret a=>some a
 |_=>none
def Ok (S:Task→(Res→Prop)→Prop):Hd→An→Prop
 | .ask t,.r x=>S t (· =x)
 | .test b,.b c=>b=c
 | .num k n,.i m=>k.wrap n=m
 | .get xs i,.t x=>xs[i]?=some x∧x≠ .any
 | .norm x,.t y=>x=y
 | .nat n,.n m=>n=m
 | .want p,.o=>p
 | .find kd n ks,.f x=>keysB kd ks=true∧findIx kd n ks=x
 |_,_=>False
def nxs {α:Type}:Q α→List An→Q α
 |q,[]=>q
 |q,a::az=>nxs (nx q a) az
def hds {α:Type}:Q α→List An→List Hd
 |_,[]=> []
 |q,a::az=>hd q::hds (nx q a) az
def Oks (S:Task→(Res→Prop)→Prop):List Hd→List An→Prop
 | [],[]=>True
 | [h],[a]=>Ok S h a
 |h::hs,a::az=>Ok S h a∧Oks S hs az
 |_,_=>False
abbrev ti (n:Int):T:= .int .i64 n
abbrev vi (n:Int):V:= .t (.int .i64 n)
abbrev vb (b:Bool):V:= .t (.bool b)
def gt {α:Type} [Inhabited α] (l:List α) (i:Nat):α:=l[i]?.getD default
section
variable {S:Task→(Res→Prop)→Prop}
theorem o_w {p:Prop} (h:p):Ok S (.want p) .o:=h
theorem o_n {n m:Nat} (h:n=m):Ok S (.nat n) (.n m):=h
theorem o_i {k:IntKind} {n m:Int} (h:k.wrap n=m):Ok S (.num k n) (.i m):=h
theorem o_t {x y:T} (h:x=y):Ok S (.norm x) (.t y):=h
theorem o_l {s:Nat} {xs ys:List T} (h:xs=ys):Ok S (.norm (.sl s xs)) (.t (.sl s ys)):=congrArg (T.sl s) h
theorem o_g {xs:List T} {i:Nat} {x:T} (h:xs[i]?=some x) (hx:x≠ .any):Ok S (.get xs i) (.t x):=⟨h,hx⟩
theorem o_gm {α:Type} {f:α→T} {l:List α} {xs:List T} {i:Nat} {e:α} (h:xs=l.map f) (he:l[i]?=some e) (hx:f e≠ .any):Ok S (.get xs i) (.t (f e)):=⟨by subst h;rw [qb,he];rfl,hx⟩
theorem AbU {α:Type} {l:List α} {k:Nat} {e:α} (h:k<l.length):(l.set k e)[k]?=some e:=by simp [h]
theorem Aa7 {α:Type} [Inhabited α] {l:List α} {i:Nat} (h:i<l.length):l[i]?=some (gt l i):=by simp [gt,h]
theorem o_gt {α:Type} [Inhabited α] {f:α→T} {l:List α} {xs:List T} {i:Nat} (h:xs=l.map f) (he:i<l.length) (hx:f (gt l i)≠ .any):Ok S (.get xs i) (.t (f (gt l i))):=o_gm h (Aa7 he) hx
theorem o_a {t:Task} {x:Res} (h:S t (· =x)):Ok S (.ask t) (.r x):=h
theorem t_brp {p:Prop} [Decidable p] (h:p):Ok S (.test (decide p)) (.b true):=decide_eq_true h
theorem f_brp {p:Prop} [Decidable p] (h: ¬p):Ok S (.test (decide p)) (.b false):=decide_eq_false h
theorem t_bre {x y:Int} (h:x=y):Ok S (.test (x==y)) (.b true):=by simpa [Ok] using h
theorem f_bre {x y:Int} (h:x≠y):Ok S (.test (x==y)) (.b false):=by simpa [Ok] using h
theorem t_brn {x y:Int} (h:x≠y):Ok S (.test (x !=y)) (.b true):=by simpa [Ok] using h
theorem f_brn {x y:Int} (h:x=y):Ok S (.test (x !=y)) (.b false):=by simpa [Ok] using h
theorem AbW {b:Bool} (h:b=false):Ok S (.test (!b)) (.b true):=by simpa [Ok] using h
theorem Abe {b:Bool} (h:b=true):Ok S (.test (!b)) (.b false):=by simpa [Ok] using h
end
theorem w64 {n m:Int} (h: -9223372036854775808≤n∧n≤9223372036854775807∧n=m):IntKind.i64.wrap n=m:=by
 rw [wrap64 ⟨h.1,h.2.1⟩];exact h.2.2
theorem wu64 {n m:Int} (h:0≤n∧n≤18446744073709551615∧n=m):IntKind.u64.wrap n=m:=by
 have h64:IntKind.u64.wrap n=n%18446744073709551616:=by simp [IntKind.wrap,IntKind.bits,IntKind.signed]
 rw [h64];omega
section
variable {α:Type} {f:α→T} {a b:List T} {l m:List α} {x:T} {e:α} {n:Nat}
theorem Aa3 (h:a=l.map f) (k:b=m.map f):a++b=(l++m).map f:=by rw [h,k,vj]
theorem AaC:([]:List T)=([]:List α).map f:=rfl
theorem Aa1 (h:x=f e) (k:a=l.map f):x::a=(e::l).map f:=by rw [h,k,qo]
theorem Acu (h:a=l.map f):a.take n=(l.take n).map f:=by rw [h,List.map_take]
theorem AgG (h:a=l.map f):a.drop n=(l.drop n).map f:=by rw [h,List.map_drop]
theorem Aaq (h:a=l.map f) (k:x=f e):a.set n x=(l.set n e).map f:=by rw [h,k,List.map_set]
theorem Ap6 (k:x=f e):List.replicate n x=(List.replicate n e).map f:=by rw [k,List.map_replicate]
theorem nm_eq (h:a=l.map f) (k:l=m):a=m.map f:=by rw [h,k]
end
inductive Stp where
 |tt|ff
 |b (x c:Bool)|w (p:Prop)|n (n m:Nat)|l (n:Nat)|i (k:IntKind) (n m:Int)|t (x y:T)|s (x:T)|g (xs:List T) (i:Nat) (x:T)|a (t:Task) (r:Res)|f (kd:IntKind) (n:Int) (ks:List T) (x:Option Nat)
def Stp.hd:Stp→Hd
 | .tt=> .test true| .ff=> .test false
 | .b x1 _=> .test x1| .w p1=> .want p1| .n n1 _=> .nat n1| .l n1=> .nat n1| .i k1 n1 _=> .num k1 n1| .t x1 _=> .norm x1| .s x1=> .norm x1| .g xs1 i1 _=> .get xs1 i1| .a t1 _=> .ask t1| .f kd1 n1 ks1 _=> .find kd1 n1 ks1
def Stp.an:Stp→An
 | .tt=> .b true| .ff=> .b false
 | .b _ c1=> .b c1| .w _=> .o| .n _ m1=> .n m1| .l n1=> .n n1| .i _ _ m1=> .i m1| .t _ y1=> .t y1| .s x1=> .t x1| .g _ _ x1=> .t x1| .a _ r1=> .r r1| .f _ _ _ x1=> .f x1
def hdL:List Stp→List Hd
 | []=> []
 |s::r=>s.hd::hdL r
def anL:List Stp→List An
 | []=> []
 |s::r=>s.an::anL r
def Obs (S:Task→(Res→Prop)→Prop):List Stp→Prop
 | []=>True
 | .tt::r=>Obs S r
 | .ff::r=>Obs S r
 | .l _::r=>Obs S r
 | .s _::r=>Obs S r
 |x::r=>Ok S x.hd x.an∧Obs S r
theorem Obs.oks {S:Task→(Res→Prop)→Prop}: ∀ {l:List Stp},Obs S l→Oks S (hdL l) (anL l)
 | [],_=>trivial
 |s::r,h=>by
  have key:Ok S s.hd s.an∧Oks S (hdL r) (anL r):=by
   cases s<;>first|exact ⟨h.1,Obs.oks h.2⟩|exact ⟨rfl,Obs.oks (l:=r) h⟩
  cases r with
  |nil=>exact key.1
  |cons s' r=>exact key
section
variable {S:Task→(Res→Prop)→Prop}
theorem oW {p:Prop} (h:p:=by omega):Ok S (.want p) .o:=h
theorem oA {p:Prop} (h:p:=by assumption):Ok S (.want p) .o:=h
theorem oN {n m:Nat} (h:n=m:=by omega):Ok S (.nat n) (.n m):=h
theorem oI {n m:Int} (h: -9223372036854775808≤n∧n≤9223372036854775807∧n=m:=by omega):Ok S (.num .i64 n) (.i m):=w64 h
theorem oU {n m:Int} (h:0≤n∧n≤18446744073709551615∧n=m:=by omega):Ok S (.num .u64 n) (.i m):=wu64 h
theorem oK {k:IntKind} {n m:Int} (h:k.wrap n=m:=by kernel_rfl):Ok S (.num k n) (.i m):=h
theorem oG {xs:List T} {i:Nat} {x:T} (h:xs[i]?=some x:=by kernel_rfl) (hx:x≠ .any:=by intro h;cases h):Ok S (.get xs i) (.t x):=⟨h,hx⟩
theorem oT {α:Type} [Inhabited α] {f:α→T} {l:List α} {i:Nat} (he:i<l.length:=by omega) (hx:f (gt l i)≠ .any:=by intro h;cases h):Ok S (.get (l.map f) i) (.t (f (gt l i))):=o_gt rfl he hx
theorem tP {p:Prop} [Decidable p] (h:p:=by omega):Ok S (.test (decide p)) (.b true):=decide_eq_true h
theorem fP {p:Prop} [Decidable p] (h: ¬p:=by omega):Ok S (.test (decide p)) (.b false):=decide_eq_false h
theorem tE {x y:Int} (h:x=y:=by omega):Ok S (.test (x==y)) (.b true):=t_bre h
theorem fE {x y:Int} (h:x≠y:=by omega):Ok S (.test (x==y)) (.b false):=f_bre h
theorem tN {x y:Int} (h:x≠y:=by omega):Ok S (.test (x !=y)) (.b true):=t_brn h
theorem fN {x y:Int} (h:x=y:=by omega):Ok S (.test (x !=y)) (.b false):=f_brn h
theorem tB {b:Bool} (h:b=true:=by assumption):Ok S (.test b) (.b true):=h
theorem fB {b:Bool} (h:b=false:=by assumption):Ok S (.test b) (.b false):=h
end
theorem o_f {S:Task→(Res→Prop)→Prop} {kd:IntKind} {n:Int} {ks:List T} {x:Option Nat} (h:keysB kd ks=true) (k:findIx kd n ks=x):Ok S (.find kd n ks) (.f x):=⟨h,k⟩
theorem oF {S:Task→(Res→Prop)→Prop} {kd:IntKind} {n:Int} {ks:List T} {x:Option Nat} (h:keysB kd ks=true:=by kernel_rfl) (k:findIx kd n ks=x:=by kernel_rfl):Ok S (.find kd n ks) (.f x):=⟨h,k⟩
structure Wp (cx:Cx) (q:Q Res) (R:Res→Prop):Prop where
 h:wpQ (Ev cx) q R
section
variable {cx:Cx} {R:Res→Prop} {q:Q Res}
theorem Wp.ev {t:Task} (h:Wp cx (body cx t) R):Ev cx t R:=Ev.mk h.h
theorem go1 {a:An} (h:Ok (Ev cx) (hd q) a) (k:Wp cx (nx q a) R):Wp cx q R:=by
 constructor;replace k:=k.h;cases q<;>cases a<;>simp only [hd,Ok,nx] at h k<;>try exact h.elim
 ·exact ⟨_,h,⟨_,rfl⟩,fun _ e=>e ▸ k⟩
 ·subst h;exact k
 ·subst h;exact k
 ·exact ⟨_,h.1,h.2,k⟩
 ·subst h;exact k
 ·subst h;exact k
 ·exact ⟨h,k⟩
 ·exact ⟨h.1,h.2.symm ▸ k⟩
theorem go {l:List An} {hs:List Hd} (h:hds q l=hs) (o:Oks (Ev cx) hs l) (k:Wp cx (nxs q l) R):Wp cx q R:=by
 induction l generalizing q hs with
 |nil=>exact k
 |cons a l ih=>
  subst h;cases l with
  |nil=>exact go1 o k
  |cons b l=>exact go1 o.1 (ih rfl o.2 k)
theorem gs {l:List Stp} (h:hds q (anL l)=hdL l) (o:Obs (Ev cx) l) (k:Wp cx (nxs q (anL l)) R):Wp cx q R:=go h o.oks k
theorem br {b:Bool} (h:hd q= .test b) (ht:b=true→Wp cx (nx q (.b true)) R) (hf:b=false→Wp cx (nx q (.b false)) R):Wp cx q R:=by
 cases q<;>simp only [hd,Hd.test.injEq,reduceCtorEq] at h;subst h;rename_i b k;cases b with
 |true=>exact ⟨(ht rfl).h⟩
 |false=>exact ⟨(hf rfl).h⟩
theorem brp {p:Prop} [d:Decidable p] (h:hd q= .test (decide p)) (ht:p→Wp cx (nx q (.b true)) R) (hf: ¬p→Wp cx (nx q (.b false)) R):Wp cx q R:=
 br h (fun h=>ht (of_decide_eq_true h)) (fun h=>hf (of_decide_eq_false h))
theorem bre {x y:Int} (h:hd q= .test (x==y)) (ht:x=y→Wp cx (nx q (.b true)) R) (hf:x≠y→Wp cx (nx q (.b false)) R):Wp cx q R:=
 br h (fun h=>ht (by simpa using h)) (fun h=>hf (by simpa using h))
theorem brn {x y:Int} (h:hd q= .test (x !=y)) (ht:x≠y→Wp cx (nx q (.b true)) R) (hf:x=y→Wp cx (nx q (.b false)) R):Wp cx q R:=
 br h (fun h=>ht (by simpa using h)) (fun h=>hf (by simpa using h))
theorem brnot {b:Bool} (h:hd q= .test (!b)) (ht:b=false→Wp cx (nx q (.b true)) R) (hf:b=true→Wp cx (nx q (.b false)) R):Wp cx q R:=
 br h (fun h=>ht (by simpa using h)) (fun h=>hf (by simpa using h))
theorem cp {lo:Nat} (h:hd q= .cap lo) (k: ∀c,lo≤c→Wp cx (nx q (.n c)) R):Wp cx q R:=by
 cases q<;>simp only [hd,Hd.cap.injEq,reduceCtorEq] at h;subst h;exact ⟨fun c hc=>(k c hc).h⟩
theorem nw {no:List Nat} (h:hd q= .new no) (k: ∀c,c∉no→Wp cx (nx q (.n c)) R):Wp cx q R:=by
 cases q<;>simp only [hd,Hd.new.injEq,reduceCtorEq] at h;subst h;exact ⟨fun c hc=>(k c hc).h⟩
theorem vl (h:hd q= .any) (k: ∀v,Wp cx (nx q (.u v)) R):Wp cx q R:=by
 cases q<;>simp only [hd,reduceCtorEq] at h;exact ⟨fun c=>(k c).h⟩
theorem bo (h:hd q= .both) (k1:Wp cx (nx q (.b true)) R) (k2:Wp cx (nx q (.b false)) R):Wp cx q R:=by
 cases q<;>simp only [hd,reduceCtorEq] at h;exact ⟨k1.h,k2.h⟩
theorem ar {t:Task} {R':Res→Prop} (h:hd q= .ask t) (hs:Ev cx t R') (h0: ∃x,R' x) (k: ∀x,R' x→Wp cx (nx q (.r x)) R):Wp cx q R:=by
 cases q<;>simp only [hd,Hd.ask.injEq,reduceCtorEq] at h;subst h;exact ⟨R',hs,h0,fun x hx=>(k x hx).h⟩
theorem rt {a:Res} (h:out q=some a) (hr:R a):Wp cx q R:=by
 cases q<;>simp only [out,Option.some.injEq,reduceCtorEq] at h;subst h;exact ⟨hr⟩
theorem gg (l:List Stp) (o:Obs (Ev cx) l) (k:Wp cx (nxs q (anL l)) R) (h:hds q (anL l)=hdL l:=by kernel_rfl):Wp cx q R:=gs h o k
theorem bO (k1:Wp cx (nx q (.b true)) R) (k2:Wp cx (nx q (.b false)) R) (h:hd q= .both:=by kernel_rfl):Wp cx q R:=bo h k1 k2
theorem rT {a:Res} (hr:R a) (h:out q=some a:=by kernel_rfl):Wp cx q R:=rt h hr
theorem nK {S:Task→(Res→Prop)→Prop} {n m:Nat} (h:n=m:=by kernel_rfl):Ok S (.nat n) (.n m):=h
theorem bK {S:Task→(Res→Prop)→Prop} {b c:Bool} (h:b=c:=by kernel_rfl):Ok S (.test b) (.b c):=h
theorem ge {r:Res} (h:out q=some r:=by kernel_rfl):Wp cx q (· =r):=rt h rfl
end
theorem mkOk {P : Program} {cx : Cx} {f : Nat} {fi : FI} {fn : Func} (h1 : P.funcs[f]? = some fn := by kernel_rfl) (h2 : fn.name ≠ "runtime.NumGoroutine" := by decide +kernel) (h3 : fn.body = some fi.code := by kernel_rfl)
 (h4:fn.results.toList.map rvOf=fi.res:=by kernel_rfl) (h5:fi.res.all (rvTy cx)=true:=by kernel_rfl) (h6:fitC cx fi fn.ntmps fi.code=true:=by decide+kernel):FnOK P cx f fi fn:=⟨h1,h2,h3,h4,h5,h6⟩
end Go.Eva
namespace Go.Eva
section
variable {S:Task→(Res→Prop)→Prop}
theorem oS {p:Prop} (h:p:=by simp;omega):Ok S (.want p) .o:=h
theorem oR {p:Prop} (h:p:=by simp [room,appendMax];omega):Ok S (.want p) .o:=h
theorem oJ {n m:Int} (h: -9223372036854775808≤n∧n≤9223372036854775807∧n=m:=by simp [room,appendMax];omega):Ok S (.num .i64 n) (.i m):=w64 h
theorem oM {n m:Nat} (h:n=m:=by simp):Ok S (.nat n) (.n m):=h
theorem oH {α:Type} [Inhabited α] {f:α→T} {l:List α} {i:Nat} (he:i<l.length:=by assumption) (hx:f (gt l i)≠ .any:=by intro h;cases h):Ok S (.get (l.map f) i) (.t (f (gt l i))):=o_gt rfl he hx
theorem tI:True:=trivial
theorem tA {p:Prop} [Decidable p] (h:p:=by assumption):Ok S (.test (decide p)) (.b true):=decide_eq_true h
theorem fA {p:Prop} [Decidable p] (h: ¬p:=by assumption):Ok S (.test (decide p)) (.b false):=decide_eq_false h
theorem tQ {x y:Int} (h:x=y:=by assumption):Ok S (.test (x==y)) (.b true):=t_bre h
theorem fQ {x y:Int} (h:x≠y:=by assumption):Ok S (.test (x==y)) (.b false):=f_bre h
theorem tC {x y:Int} (h:x≠y:=by assumption):Ok S (.test (x !=y)) (.b true):=t_brn h
theorem fC {x y:Int} (h:x=y:=by assumption):Ok S (.test (x !=y)) (.b false):=f_brn h
theorem oQ {kd:IntKind} {n:Int} {ks:List T} {x:Option Nat} (k:findIx kd n ks=x) (h:keysB kd ks=true:=by assumption):Ok S (.find kd n ks) (.f x):=⟨h,k⟩
end
end Go.Eva
namespace Go.Eva
def eqPs:List (Nat×V)→List (Nat×V)→Bool
 | [],[]=>true
 |(i,a)::x,(j,b)::y=>match qd i j&&a.eqB b with|true=>eqPs x y|false=>false
 |_,_=>false
def Ob.eqB:Ob→Ob→Bool
 | .arr s a p r,.arr t b q u=>match qd s t&&eqO p q&&eqBo r u with|true=>eqTs a b|false=>false
 | .one s v r,.one t u q=>match qd s t&&eqBo r q with|true=>v.eqB u|false=>false
 | .vec s a p,.vec t b q=>match qd s t&&eqTs a b with|true=>eqPs p q|false=>false
 | .map a b p,.map c d q=>match eqTs a c&&eqTs b d with|true=>eqPs p q|false=>false
 | .iter a b c,.iter d e f=>match eqTs a d&&eqTs b e with|true=>eqN c f|false=>false
 | .rng a b p i c,.rng d e q j f=>match eqTs a d&&eqTs b e&&qd i j&&eqPs p q with|true=>eqN c f|false=>false
 | .hand m,.hand n=>qd m n
 | .dead,.dead=>true
 |_,_=>false
def eqH:Heap→Heap→Bool
 | [],[]=>true
 |a::x,b::y=>match a.eqB b with|true=>eqH x y|false=>false
 |_,_=>false
def eqE:Ex→Ex→Bool
 | .normal,.normal=>true
 | .ret,.ret=>true
 | .exit a,.exit b=>qd a b
 |_,_=>false
def Res.eqB (a b:Res):Bool:=match eqE a.e b.e with
 |true=>match eqVs a.vs b.vs with|true=>eqH a.H b.H|false=>false
 |false=>false
theorem Aim: ∀ {a b:List (Nat×V)},eqPs a b=true→a=b
 | [],[],_=>rfl
 |(i,x)::a,(j,y)::b,h=>by
  unfold eqPs at h;split at h
  ·rename_i hb;simp only [zf] at hb;rw [zp hb.1,V.eqB_ok hb.2,Aim h]
  ·contradiction
 | [],_::_,h=>by simp [eqPs] at h
 |_::_,[],h=>by simp [eqPs] at h
theorem Ob.eqB_ok {a b:Ob} (h:Ob.eqB a b=true):a=b:=by
 unfold Ob.eqB at h;split at h
 ·split at h
  ·rename_i hs;simp only [zf] at hs;rw [zp hs.1.1,Anj hs.1.2,Ail hs.2,eqTs_ok h]
  ·contradiction
 ·split at h
  ·rename_i hs;simp only [zf] at hs;rw [zp hs.1,Ail hs.2,V.eqB_ok h]
  ·contradiction
 ·split at h
  ·rename_i hs;simp only [zf] at hs;rw [zp hs.1,eqTs_ok hs.2,Aim h]
  ·contradiction
 ·split at h
  ·rename_i hs;simp only [zf] at hs;rw [eqTs_ok hs.1,eqTs_ok hs.2,Aim h]
  ·contradiction
 ·split at h
  ·rename_i hs;simp only [zf] at hs;rw [eqTs_ok hs.1,eqTs_ok hs.2,AkV h]
  ·contradiction
 ·split at h
  ·rename_i hs;simp only [zf] at hs;rw [eqTs_ok hs.1.1.1,eqTs_ok hs.1.1.2,zp hs.1.2,Aim hs.2,AkV h]
  ·contradiction
 ·rw [zp h]
 ·rfl
 ·contradiction
theorem Ani: ∀ {a b:Heap},eqH a b=true→a=b
 | [],[],_=>rfl
 |x::a,y::b,h=>by
  unfold eqH at h;split at h
  ·rename_i hb;rw [Ob.eqB_ok hb,Ani h]
  ·contradiction
 | [],_::_,h=>by simp [eqH] at h
 |_::_,[],h=>by simp [eqH] at h
theorem Aq5 {a b:Ex} (h:eqE a b=true):a=b:=by
 unfold eqE at h;split at h
 ·rfl
 ·rfl
 ·rw [zp h]
 ·contradiction
theorem Res.eqB_ok {a b:Res} (h:Res.eqB a b=true):a=b:=by
 obtain ⟨e,vs,H⟩:=a;obtain ⟨e',vs',H'⟩:=b;unfold Res.eqB at h;simp only at h;split at h
 ·rename_i h1;split at h
  ·rename_i h2;rw [Aq5 h1,eqVs_ok h2,Ani h]
  ·contradiction
 ·contradiction
def nowN {α:Type} (n:Nat) (k:Nat→α):α:=match n with
 |0=>k 0
 |n+1=>k (n+1)
def nowI {α:Type} (n:Int) (k:Int→α):α:=match n with
 | .ofNat m=>nowN m fun m=>k (.ofNat m)
 | .negSucc m=>nowN m fun m=>k (.negSucc m)
def nowT {α:Type} (x:T) (k:T→α):α:=match x with
 | .int kd n=>nowI n fun n=>k (.int kd n)
 | .bool b=>match b with|true=>k (.bool true)|false=>k (.bool false)
 |x=>k x
def noAny:T→Bool
 | .any=>true
 |_=>false
def each {α β:Type} (f:α→Option (List β)):List α→Option (List β)
 | []=>some []
 |x::r=>match f x with
  |some l=>match each f r with
   |some m=>some (l++m)
   |none=>none
  |none=>none
def walk (ask:Task→Option (List Res)) {α:Type}:Q α→Option (List α)
 | .fail=>none
 | .ret a=>some [a]
 | .ask t k=>match ask t with
  |some rs=>each (fun r=>walk ask (k r)) rs
  |none=>none
 | .test b k=>match b with
  |true=>walk ask (k true)
  |false=>walk ask (k false)
 | .num kd n k=>nowI (kd.wrap n) fun m=>walk ask (k m)
 | .get xs i k=>match nth xs i with
  |some x=>match noAny x with
   |true=>none
   |false=>nowT x fun x=>walk ask (k x)
  |none=>none
 | .norm x k=>nowT x fun x=>walk ask (k x)
 | .nat n k=>nowN n fun m=>walk ask (k m)
 | .cap _ _=>none
 | .new _ _=>none
 | .any _=>none
 | @Q.want _ _ d q=>match d with
  |isTrue _=>walk ask q
  |isFalse _=>none
 | .both p q=>match walk ask p with
  |some l=>match walk ask q with
   |some m=>some (l++m)
   |none=>none
  |none=>none
 | .find kd n ks k=>match keysB kd ks with
  |true=>walk ask (k (findIx kd n ks))
  |false=>none
def inR (r:Res):List Res→Bool
 | []=>false
 |x::l=>match r.eqB x with|true=>true|false=>inR r l
def once:List Res→List Res
 | []=> []
 |r::l=>match inR r l with|true=>once l|false=>r::once l
noncomputable def run (cx:Cx):Nat→Task→Option (List Res)
 |0,_=>none
 |n+1,t=>match walk (run cx n) (body cx t) with
  |some (r::l)=>some (once (r::l))
  |_=>none
theorem Ev.mono {cx:Cx} {t:Task} {R R':Res→Prop} (h:Ev cx t R) (hr: ∀x,R x→R' x):Ev cx t R':=by
 intro P hc hf;have h:=h P hc hf;cases t with
 |call f az H=>exact fun w ι F vals hg hv=>(h w ι F vals hg hv).mono fun en w' ⟨x,v,ι',F',h1,h2,h3⟩=>⟨x,v,ι',F',h1,hr x h2,h3⟩
 |loop f p keep vs H=>exact fun fi c live n h1 h2 h3 h4 w ι F a hi=>(h fi c live n h1 h2 h3 h4 w ι F a hi).mono fun e a w ⟨x,ι',F',k1,k2⟩=>⟨x,ι',F',hr x k1,k2⟩
def Task.eqB:Task→Task→Bool
 | .call f a H,.call g b K=>match qd f g with
  |true=>match eqVs a b with|true=>eqH H K|false=>false
  |false=>false
 |_,_=>false
theorem Task.eqB_ok {a b:Task} (h:Task.eqB a b=true):a=b:=by
 unfold Task.eqB at h;split at h
 ·split at h
  ·rename_i h1;split at h
   ·rename_i h2;rw [zp h1,eqVs_ok h2,Ani h]
   ·contradiction
  ·contradiction
 ·contradiction
end Go.Eva
noncomputable section
namespace Go.Eva.S8
open Go.Proofs
def codeOf (f:Func):Code:=match f.body with|some c=>c|none=> .skip
def tis:Tr TI:=
 (.n (.n (.n (.n (.n (.n (.n (.n (.n .z ⟨.ptr,1,8,false⟩ .z) ⟨.fn,1,8,false⟩ .z) ⟨.fn,1,8,false⟩ (.n (.n .z ⟨.ptr,1,8,false⟩ .z) ⟨.map 3 43,1,8,false⟩ .z)) ⟨.fn,1,
 8,false⟩ (.n (.n (.n .z ⟨.fn,1,8,false⟩ .z) ⟨.slice 154,1,24,false⟩ .z) ⟨.struct [(0,26)],5,40,true⟩ (.n .z ⟨.fn,1,8,false⟩ .z))) ⟨.ptr,1,8,false⟩ (.n (.n (.n (.n
 .z ⟨.fn,1,8,false⟩ .z) ⟨.fn,1,8,false⟩ .z) ⟨.struct [(0,3),(1,3),(2,3),(3,3),(4,3),(5,3),(6,3),(7,3),(8,3)],9,72,true⟩ (.n (.n .z ⟨.fn,1,8,false⟩ .z)
 ⟨.fn,1,8,false⟩ .z)) ⟨.fn,1,8,false⟩ (.n (.n (.n .z ⟨.fn,1,8,false⟩ .z) ⟨.struct [(0,56),(1,3)],2,32,false⟩ .z) ⟨.fn,1,8,false⟩ (.n .z ⟨.fn,1,8,false⟩ .z))))
 ⟨.struct [(0,2),(1,3),(2,4),(3,6)],4,24,false⟩ (.n (.n (.n (.n (.n .z ⟨.slice 266,1,24,false⟩ .z) ⟨.ptr,1,8,false⟩ .z) ⟨.fn,1,8,false⟩ (.n (.n .z ⟨.fn,1,8,
 false⟩ .z) ⟨.fn,1,8,false⟩ .z)) ⟨.fn,1,8,false⟩ (.n (.n (.n .z ⟨.fn,1,8,false⟩ .z) ⟨.fn,1,8,false⟩ .z) ⟨.map 3 112,1,8,false⟩ (.n .z ⟨.fn,1,8,false⟩ .z)))
 ⟨.struct [(0,3),(1,3),(2,4)],3,24,true⟩ (.n (.n (.n (.n .z ⟨.fn,1,8,false⟩ .z) ⟨.ptr,1,8,false⟩ .z) ⟨.ptr,1,8,false⟩ (.n .z ⟨.fn,1,8,false⟩ .z)) ⟨.fn,1,8,
 false⟩ (.n (.n (.n .z ⟨.fn,1,8,false⟩ .z) ⟨.struct [(0,181)],1,24,false⟩ .z) ⟨.struct [(0,45),(3,116),(4,117),(5,4),(6,3),(7,43),(8,3),(9,3)],10,160,false⟩
 (.n .z ⟨.fn,1,8,false⟩ .z))))) ⟨.int .i64,1,8,false⟩ (.n (.n (.n (.n (.n (.n .z ⟨.fn,1,8,false⟩ .z) ⟨.fn,1,8,false⟩ .z) ⟨.struct [(0,3),(1,3),(2,43)],3,40,
 false⟩ (.n (.n .z ⟨.fn,1,8,false⟩ .z) ⟨.fn,1,8,false⟩ .z)) ⟨.struct [(0,33),(1,34)],2,48,false⟩ (.n (.n (.n .z ⟨.fn,1,8,false⟩ .z) ⟨.struct [(0,3),(1,3),(2,
 117),(3,161)],4,64,false⟩ .z) ⟨.ptr,1,8,false⟩ (.n .z ⟨.fn,1,8,false⟩ .z))) ⟨.struct [(0,17)],1,8,false⟩ (.n (.n (.n (.n .z ⟨.fn,1,8,false⟩ .z) ⟨.fn,1,8,false⟩
 .z) ⟨.fn,1,8,false⟩ (.n (.n .z ⟨.struct [(0,12),(1,12),(2,308),(3,333),(4,5),(5,5),(6,334),(7,335),(8,336),(9,337),(10,338)],11,48,false⟩ .z) ⟨.struct
 [(0,26),(5,3),(6,3),(7,40),(8,3)],9,88,false⟩ .z)) ⟨.fn,1,8,false⟩ (.n (.n (.n .z ⟨.fn,1,8,false⟩ .z) ⟨.struct [(0,177)],1,24,false⟩ .z) ⟨.fn,1,8,false⟩
 (.n .z ⟨.fn,1,8,false⟩ .z)))) ⟨.str,1,16,false⟩ (.n (.n (.n (.n (.n .z ⟨.fn,1,8,false⟩ .z) ⟨.fn,1,8,false⟩ .z) ⟨.other,1,0,false⟩ (.n (.h .z .z) ⟨.fn,1,8,false⟩
 .z)) ⟨.slice 81,1,24,false⟩ (.n (.n (.n .z ⟨.fn,1,8,false⟩ .z) ⟨.fn,1,8,false⟩ .z) ⟨.fn,1,8,false⟩ (.n .z ⟨.fn,1,8,false⟩ .z))) ⟨.ptr,1,8,false⟩ (.n (.n (.n (.n
 .z ⟨.fn,1,8,false⟩ .z) ⟨.struct [(0,3),(1,45),(4,154),(5,4),(6,3),(7,3),(8,45)],11,168,false⟩ .z) ⟨.struct [(0,26),(5,87),(6,88),(7,89),(8,3),(9,3),
 (10,3)],11,104,false⟩ (.n .z ⟨.fn,1,8,false⟩ .z)) ⟨.fn,1,8,false⟩ (.n (.n (.n .z ⟨.int .u64,1,8,false⟩ .z) ⟨.struct [(0,186)],1,24,false⟩ .z) ⟨.fn,1,8,false⟩
 (.n .z ⟨.fn,1,8,false⟩ .z)))))) ⟨.fn,1,8,false⟩ (.n (.n (.n (.n (.n (.n (.n .z ⟨.struct [(0,96),(5,3),(6,3),(7,40),(8,3),(9,43)],10,112,false⟩ .z) ⟨.fn,1,8,
 false⟩ .z) ⟨.slice 70,1,24,false⟩ (.n (.n .z ⟨.fn,1,8,false⟩ .z) ⟨.fn,1,8,false⟩ .z)) ⟨.slice 42,1,24,false⟩ (.n (.n (.n .z ⟨.fn,1,8,false⟩ .z) ⟨.slice 117,1,24,
 false⟩ .z) ⟨.other,1,0,false⟩ (.n .z ⟨.fn,1,8,false⟩ .z))) ⟨.ptr,1,8,false⟩ (.n (.n (.n (.n .z ⟨.fn,1,8,false⟩ .z) ⟨.fn,1,8,false⟩ .z) ⟨.struct [(0,3),(1,3),(2,
 3),(3,3),(4,79),(13,3),(14,3)],15,120,true⟩ (.n (.n .z ⟨.int .i32,1,4,false⟩ .z) ⟨.fn,1,8,false⟩ .z)) ⟨.fn,1,8,false⟩ (.n (.n (.n .z ⟨.other,1,0,false⟩ .z)
 ⟨.slice 176,1,24,false⟩ .z) ⟨.fn,1,8,false⟩ (.n .z ⟨.fn,1,8,false⟩ .z)))) ⟨.str,1,16,false⟩ (.n (.n (.n (.n (.n .z ⟨.struct [(0,263),(1,262)],2,32,false⟩ .z)
 ⟨.fn,1,8,false⟩ .z) ⟨.fn,1,8,false⟩ (.n (.n .z ⟨.struct [(0,17),(1,17),(2,17),(3,9)],4,40,false⟩ .z) ⟨.fn,1,8,false⟩ .z)) ⟨.struct [(0,3),(1,40)],2,32,
 false⟩ (.n (.n (.n .z ⟨.fn,1,8,false⟩ .z) ⟨.struct [(0,45),(3,56),(4,42),(6,43)],7,136,false⟩ .z) ⟨.struct [(0,99),(1,96),(6,101),(7,103),(8,3),(9,3),(10,
 3)],11,88,false⟩ (.n .z ⟨.struct [(0,232)],1,24,false⟩ .z))) ⟨.struct [(0,3),(1,3),(2,3),(3,3),(4,24)],5,40,false⟩ (.n (.n (.n (.n .z ⟨.fn,1,8,false⟩ .z)
 ⟨.fn,1,8,false⟩ .z) ⟨.slice 151,1,24,false⟩ (.n .z ⟨.fn,1,8,false⟩ .z)) ⟨.fn,1,8,false⟩ (.n (.n (.n .z ⟨.fn,1,8,false⟩ .z) ⟨.struct [(0,183)],1,24,false⟩ .z)
 ⟨.fn,1,8,false⟩ (.n .z ⟨.fn,1,8,false⟩ .z))))) ⟨.int .u8,1,1,false⟩ (.n (.n (.n (.n (.n (.n .z ⟨.ptr,1,8,false⟩ .z) ⟨.struct [(0,42),(2,43),(3,56),(4,42),(6,
 43)],7,136,false⟩ .z) ⟨.struct [(0,3),(1,3),(2,3),(3,3),(4,56),(5,4),(6,68),(9,45)],12,160,false⟩ (.n (.n .z ⟨.fn,1,8,false⟩ .z) ⟨.fn,1,8,false⟩ .z))
 ⟨.other,1,0,false⟩ (.n (.n (.n .z ⟨.fn,1,8,false⟩ .z) ⟨.fn,1,8,false⟩ .z) ⟨.ptr,1,8,false⟩ (.n .z ⟨.fn,1,8,false⟩ .z))) ⟨.int .i32,1,4,false⟩ (.n (.n (.n (.n .z
 ⟨.fn,1,8,false⟩ .z) ⟨.fn,1,8,false⟩ .z) ⟨.other,1,0,false⟩ (.n (.n .z ⟨.fn,1,8,false⟩ .z) ⟨.fn,1,8,false⟩ .z)) ⟨.fn,1,8,false⟩ (.n (.n (.n .z ⟨.fn,1,8,false⟩
 .z) ⟨.slice 205,1,24,false⟩ .z) ⟨.slice 4,1,24,false⟩ (.n .z ⟨.fn,1,8,false⟩ .z)))) ⟨.struct [(0,9),(1,12)],2,24,false⟩ (.n (.n (.n (.n (.n .z ⟨.struct [(0,163),
 (4,66),(5,3),(6,3)],7,104,false⟩ .z) ⟨.fn,1,8,false⟩ .z) ⟨.fn,1,8,false⟩ (.n (.n .z ⟨.int .u8,1,1,false⟩ .z) ⟨.struct [(0,56),(1,3),(2,4)],3,40,false⟩ .z))
 ⟨.struct [(0,42),(2,43)],3,56,false⟩ (.n (.n (.n .z ⟨.other,1,0,false⟩ .z) ⟨.fn,1,8,false⟩ .z) ⟨.other,1,0,false⟩ (.n .z ⟨.slice 68,1,24,false⟩ .z))) ⟨.other,1,
 0,false⟩ (.n (.n (.n (.n .z ⟨.fn,1,8,false⟩ .z) ⟨.other,1,0,false⟩ .z) ⟨.fn,1,8,false⟩ (.n .z ⟨.fn,1,8,false⟩ .z)) ⟨.fn,1,8,false⟩ (.n (.n (.n .z ⟨.fn,1,8,false⟩
 .z) ⟨.struct [(0,188)],1,24,false⟩ .z) ⟨.fn,1,8,false⟩ (.n .z ⟨.fn,1,8,false⟩ .z))))))) ⟨.other,1,0,false⟩ (.n (.n (.n (.n (.n (.n (.n (.n .z ⟨.struct [(0,96),(5,
 3),(6,3),(7,40),(8,3),(9,43)],10,112,false⟩ .z) ⟨.fn,1,8,false⟩ .z) ⟨.fn,1,8,false⟩ (.n (.n .z ⟨.fn,1,8,false⟩ .z) ⟨.fn,1,8,false⟩ .z)) ⟨.fn,1,8,false⟩
 (.n (.n (.n .z ⟨.fn,1,8,false⟩ .z) ⟨.slice 163,1,24,false⟩ .z) ⟨.struct [(0,26)],5,40,false⟩ (.n .z ⟨.fn,1,8,false⟩ .z))) ⟨.ptr,1,8,false⟩ (.n (.n (.n (.n .z ⟨.fn,
 1,8,false⟩ .z) ⟨.fn,1,8,false⟩ .z) ⟨.struct [(0,3),(1,3),(2,3),(3,3),(4,79),(13,3),(14,3)],15,120,true⟩ (.n (.n .z ⟨.ptr,1,8,false⟩ .z) ⟨.ptr,1,8,false⟩
 .z)) ⟨.fn,1,8,false⟩ (.n (.n (.n .z ⟨.fn,1,8,false⟩ .z) ⟨.struct [(0,56),(1,3)],2,32,false⟩ .z) ⟨.ptr,1,8,false⟩ (.n .z ⟨.other,1,0,false⟩ .z)))) ⟨.struct [(0,
 2),(1,3),(2,4),(3,6)],4,24,false⟩ (.n (.n (.n (.n (.n .z ⟨.struct [(0,263),(1,262)],2,32,false⟩ .z) ⟨.fn,1,8,false⟩ .z) ⟨.fn,1,8,false⟩ (.n (.n .z ⟨.struct
 [(0,17),(1,17),(2,17),(3,9)],4,40,false⟩ .z) ⟨.fn,1,8,false⟩ .z)) ⟨.slice 79,1,24,false⟩ (.n (.n (.n .z ⟨.ptr,1,8,false⟩ .z) ⟨.struct [(0,45),(3,56),(4,42),
 (6,43)],7,136,false⟩ .z) ⟨.struct [(0,99),(1,96),(6,101),(7,103),(8,3),(9,3),(10,3)],11,88,false⟩ (.n .z ⟨.slice 237,1,24,false⟩ .z))) ⟨.int .u64,1,8,
 false⟩ (.n (.n (.n (.n .z ⟨.fn,1,8,false⟩ .z) ⟨.fn,1,8,false⟩ .z) ⟨.ptr,1,8,false⟩ (.n .z ⟨.fn,1,8,false⟩ .z)) ⟨.slice 23,1,24,false⟩ (.n (.n (.n .z ⟨.fn,1,8,
 false⟩ .z) ⟨.struct [(0,183)],1,24,false⟩ .z) ⟨.fn,1,8,false⟩ (.n .z ⟨.fn,1,8,false⟩ .z))))) ⟨.bool,1,1,false⟩ (.n (.n (.n (.n (.n (.n .z ⟨.fn,1,8,false⟩ .z) ⟨.fn,
 1,8,false⟩ .z) ⟨.struct [(0,3),(1,3),(2,43)],3,40,false⟩ (.n (.n .z ⟨.ptr,1,8,false⟩ .z) ⟨.fn,1,8,false⟩ .z)) ⟨.struct [(0,33),(1,34)],2,48,false⟩ (.n (.n (.n
 .z ⟨.fn,1,8,false⟩ .z) ⟨.fn,1,8,false⟩ .z) ⟨.fn,1,8,false⟩ (.n .z ⟨.fn,1,8,false⟩ .z))) ⟨.other,1,16,false⟩ (.n (.n (.n (.n .z ⟨.ptr,1,8,false⟩ .z) ⟨.fn,1,8,
 false⟩ .z) ⟨.ptr,1,8,false⟩ (.n (.n .z ⟨.struct [(0,12),(1,12),(2,308),(3,333),(4,5),(5,5),(6,334),(7,335),(8,336),(9,337),(10,338)],11,48,false⟩ .z)
 ⟨.fn,1,8,false⟩ .z)) ⟨.fn,1,8,false⟩ (.n (.n (.n .z ⟨.int .u32,1,4,false⟩ .z) ⟨.ptr,1,8,false⟩ .z) ⟨.slice 135,1,24,false⟩ (.n .z ⟨.fn,1,8,false⟩ .z)))) ⟨.int
 .u64,1,8,false⟩ (.n (.n (.n (.n (.n .z ⟨.struct [(0,163),(4,66),(5,3),(6,3)],7,104,false⟩ .z) ⟨.fn,1,8,false⟩ .z) ⟨.fn,1,8,false⟩ (.n (.h .z .z) ⟨.struct [(0,
 56),(1,3),(2,4)],3,40,false⟩ .z)) ⟨.struct [(0,42),(2,43)],3,56,false⟩ (.n (.n (.n .z ⟨.int .i64,1,8,false⟩ .z) ⟨.fn,1,8,false⟩ .z) ⟨.fn,1,8,false⟩ (.n .z
 ⟨.fn,1,8,false⟩ .z))) ⟨.int .i64,1,8,false⟩ (.n (.n (.n (.n .z ⟨.fn,1,8,false⟩ .z) ⟨.struct [(0,3),(1,45),(4,154),(5,4),(6,3),(7,3),(8,45)],11,168,false⟩
 .z) ⟨.fn,1,8,false⟩ (.n .z ⟨.fn,1,8,false⟩ .z)) ⟨.fn,1,8,false⟩ (.n (.n (.n .z ⟨.fn,1,8,false⟩ .z) ⟨.struct [(0,186)],1,24,false⟩ .z) ⟨.other,1,0,false⟩ (.n .z
 ⟨.fn,1,8,false⟩ .z)))))) ⟨.int .i64,1,8,false⟩ (.n (.n (.n (.n (.n (.n (.n .z ⟨.fn,1,8,false⟩ .z) ⟨.fn,1,8,false⟩ .z) ⟨.slice 3,1,24,false⟩ (.n (.n .z ⟨.fn,1,8,
 false⟩ .z) ⟨.fn,1,8,false⟩ .z)) ⟨.slice 43,1,24,false⟩ (.n (.n (.n .z ⟨.ptr,1,8,false⟩ .z) ⟨.struct [(0,3),(1,3),(2,117),(3,161)],4,64,false⟩ .z) ⟨.fn,1,8,
 false⟩ (.n .z ⟨.fn,1,8,false⟩ .z))) ⟨.struct [(0,17)],1,8,false⟩ (.n (.n (.n (.n .z ⟨.fn,1,8,false⟩ .z) ⟨.fn,1,8,false⟩ .z) ⟨.fn,1,8,false⟩ (.n (.n .z ⟨.int .i32,
 1,4,false⟩ .z) ⟨.struct [(0,26),(5,3),(6,3),(7,40),(8,3)],9,88,false⟩ .z)) ⟨.fn,1,8,false⟩ (.n (.n (.n .z ⟨.fn,1,8,false⟩ .z) ⟨.struct [(0,177)],1,24,false⟩
 .z) ⟨.fn,1,8,false⟩ (.n .z ⟨.fn,1,8,false⟩ .z)))) ⟨.str,1,16,false⟩ (.n (.n (.n (.n (.n .z ⟨.ptr,1,8,false⟩ .z) ⟨.fn,1,8,false⟩ .z) ⟨.fn,1,8,false⟩ (.n (.h .z .z)
 ⟨.ptr,1,8,false⟩ .z)) ⟨.struct [(0,3),(1,40)],2,32,false⟩ (.n (.n (.n .z ⟨.fn,1,8,false⟩ .z) ⟨.fn,1,8,false⟩ .z) ⟨.fn,1,8,false⟩ (.n .z ⟨.struct [(0,232)],1,
 24,false⟩ .z))) ⟨.struct [(0,3),(1,3),(2,3),(3,3),(4,24)],5,40,true⟩ (.n (.n (.n (.n .z ⟨.fn,1,8,false⟩ .z) ⟨.slice 169,1,24,false⟩ .z) ⟨.struct [(0,26),(5,
 87),(6,88),(7,89),(8,3),(9,3),(10,3)],11,104,false⟩ (.n .z ⟨.fn,1,8,false⟩ .z)) ⟨.other,1,0,false⟩ (.n (.n (.n .z ⟨.fn,1,8,false⟩ .z) ⟨.slice 191,1,24,
 false⟩ .z) ⟨.fn,1,8,false⟩ (.n .z ⟨.fn,1,8,false⟩ .z))))) ⟨.int .u8,1,1,false⟩ (.n (.n (.n (.n (.n (.n .z ⟨.map 3 266,1,8,false⟩ .z) ⟨.struct [(0,42),(2,43),(3,
 56),(4,42),(6,43)],7,136,false⟩ .z) ⟨.struct [(0,3),(1,3),(2,3),(3,3),(4,56),(5,4),(6,68),(9,45)],12,160,false⟩ (.n (.n .z ⟨.fn,1,8,false⟩ .z) ⟨.fn,1,
 8,false⟩ .z)) ⟨.fn,1,8,false⟩ (.n (.n (.n .z ⟨.fn,1,8,false⟩ .z) ⟨.other,1,0,false⟩ .z) ⟨.fn,1,8,false⟩ (.n .z ⟨.fn,1,8,false⟩ .z))) ⟨.struct [(0,3),(1,3),(2,
 4)],3,24,false⟩ (.n (.n (.n (.n .z ⟨.fn,1,8,false⟩ .z) ⟨.fn,1,8,false⟩ .z) ⟨.fn,1,8,false⟩ (.n (.n .z ⟨.other,1,8,false⟩ .z) ⟨.other,1,0,false⟩ .z)) ⟨.slice 56,
 1,24,false⟩ (.n (.n (.n .z ⟨.fn,1,8,false⟩ .z) ⟨.struct [(0,181)],1,24,false⟩ .z) ⟨.struct [(0,45),(3,116),(4,117),(5,4),(6,3),(7,43),(8,3),(9,3)],10,160,
 false⟩ (.n .z ⟨.fn,1,8,false⟩ .z)))) ⟨.struct [(0,9),(1,12)],2,24,false⟩ (.n (.n (.n (.n (.n .z ⟨.fn,1,8,false⟩ .z) ⟨.fn,1,8,false⟩ .z) ⟨.struct [(0,3),(1,3),(2,
 3),(3,3),(4,3),(5,3),(6,3),(7,3),(8,3)],9,72,false⟩ (.n (.n .z ⟨.int .u8,1,1,false⟩ .z) ⟨.fn,1,8,false⟩ .z)) ⟨.int .u64,1,8,false⟩ (.n (.n (.n .z ⟨.fn,1,
 8,false⟩ .z) ⟨.fn,1,8,false⟩ .z) ⟨.fn,1,8,false⟩ (.n .z ⟨.fn,1,8,false⟩ .z))) ⟨.fn,1,8,false⟩ (.n (.n (.n (.n .z ⟨.fn,1,8,false⟩ .z) ⟨.fn,1,8,false⟩ .z) ⟨.fn,1,
 8,false⟩ (.n .z ⟨.fn,1,8,false⟩ .z)) ⟨.slice 36,1,24,false⟩ (.n (.n (.n .z ⟨.fn,1,8,false⟩ .z) ⟨.struct [(0,188)],1,24,false⟩ .z) ⟨.fn,1,8,false⟩ (.n .z ⟨.fn,1,
 8,false⟩ .z))))))))
def fi3:FI:=⟨codeOf Tryz.f3,[.tmp 4],.pure,[([0,1,0,1,1,1,1,1,1,1],[1,2,6,8,10])],[],[],false,false⟩
def fi11:FI:=⟨codeOf Tryz.f11,[.tmp 2,.tmp 3],.fresh,[],[(4,.one 0 (.one 1 (.one 2 (.one 4 (.one 5 (.two 3 (.two 6 (.two 7 (.one 8 (.one 9 (.one 10 (.one 11 (.one 12 (.done)))))) 8 (.one 7 (.one 9 (.one 10 (.one 11 (.one 12 (.done))))))) 8 (.one 6 (.one 7 (.one 9 (.one 10 (.one 11 (.one 12 (.done)))))))) 8 (.one 3 (.one 6 (.one 7 (.one 9 (.one 10 (.one 11 (.one 12 (.done))))))))))))))],[],true,true⟩
def fi12:FI:=⟨codeOf Tryz.f12,[.tmp 0],.pure,[],[],[],false,false⟩
def fi13:FI:=⟨codeOf Tryz.f13,[.cell 2 23],.pure,[],[],[],false,false⟩
def fi14:FI:=⟨codeOf Tryz.f14,[.cell 2 36,.tmp 3],.pure,[([0,1,0,1,1,1,1],[1,2,4,5,6])],[(4,.one 0 (.one 2 (.alt 1 (.two 3 (.one 4 (.one 5 (.one 6 (.done)))) 5 (.one 3 (.one 4 (.one 6 (.done))))) (.alt 3 (.two 1 (.one 4 (.one 5 (.one 6 (.done)))) 5 (.one 1 (.one 4 (.one 6 (.done))))) (.one 5 (.two 1 (.one 3 (.one 4 (.one 6 (.done)))) 3 (.one 1 (.one 4 (.one 6 (.done)))))))))),(10,.one 0 (.one 2 (.one 3 (.one 5 (.one 9 (.one 10 (.one 11 (.one 12 (.one 13 (.one 14 (.one 4 (.one 6 (.one 7 (.one 8 (.two 1 (.one 15 (.one 16 (.one 17 (.one 18 (.one 19 (.done)))))) 15 (.two 1 (.one 16 (.one 17 (.one 18 (.one 19 (.done))))) 16 (.one 1 (.one 17 (.one 18 (.one 19 (.done)))))))))))))))))))))],[],false,false⟩
def fi15:FI:=⟨codeOf Tryz.f15,[.tmp 6],.inout,[],[(7,.one 0 (.one 1 (.one 2 (.one 4 (.one 3 (.one 5 (.one 6 (.one 7 (.one 8 (.done)))))))))),(9,.one 0 (.one 1 (.one 2 (.one 4 (.one 5 (.one 8 (.one 3 (.one 6 (.one 9 (.one 7 (.one 10 (.one 11 (.one 12 (.one 13 (.one 14 (.done))))))))))))))))],[],false,true⟩
def fi16:FI:=⟨codeOf Tryz.f16,[.tmp 4],.inout,[],[],[],false,true⟩
def fi17:FI:=⟨codeOf Tryz.f17,[.tmp 2],.inout,[([0,1,0,0,1,0,0,1,0,1,1,1,1],[0,3,4,5,25,26,27]),([0,1,0,1,1,1,1],[0,3,4,5])],[],[],false,true⟩
def fi18:FI:=⟨codeOf Tryz.f18,[.tmp 8],.inout,[],[],[],false,true⟩
def fi21:FI:=⟨codeOf Tryz.f21,[.tmp 4],.pure,[],[],[],false,true⟩
def fi30:FI:=⟨codeOf Tryz.f30,[.tmp 2],.pure,[],[],[],false,true⟩
def fi31:FI:=⟨codeOf Tryz.f31,[.tmp 2],.inout,[],[],[],false,true⟩
def fi49:FI:=⟨codeOf Tryz.f49,[.cell 2 96,.tmp 3],.pure,[],[],[],false,false⟩
def fi50:FI:=⟨codeOf Tryz.f50,[.tmp 2],.fresh,[],[],[],true,true⟩
def fi51:FI:=⟨codeOf Tryz.f51,[.tmp 2],.fresh,[([0,1,0,1,1],[3,17,18])],[],[],true,true⟩
def fi52:FI:=⟨codeOf Tryz.f52,[.tmp 2],.pure,[],[],[],false,false⟩
def fi53:FI:=⟨codeOf Tryz.f53,[.tmp 2],.pure,[],[],[],false,false⟩
def fi54:FI:=⟨codeOf Tryz.f54,[.tmp 2],.pure,[],[],[],false,false⟩
def fi55:FI:=⟨codeOf Tryz.f55,[.tmp 2],.pure,[],[],[],false,false⟩
def fi56:FI:=⟨codeOf Tryz.f56,[.tmp 4,.tmp 5],.pure,[],[(3,.one 0 (.one 1 (.one 5 (.one 6 (.one 2 (.one 3 (.one 4 (.one 10 (.one 7 (.one 8 (.one 9 (.one 11 (.done)))))))))))))],[],false,false⟩
def fi57:FI:=⟨codeOf Tryz.f57,[.tmp 4],.pure,[],[],[],false,true⟩
def fi58:FI:=⟨codeOf Tryz.f58,[.tmp 6],.pure,[([0,1,0,1,1],[1,3,5,6,16,17,18])],[(8,.one 0 (.one 1 (.one 2 (.one 3 (.one 5 (.one 7 (.one 8 (.one 4 (.one 6 (.one 9 (.one 10 (.one 11 (.one 12 (.one 13 (.one 14 (.one 16 (.one 18 (.one 19 (.one 15 (.one 17 (.one 20 (.one 21 (.one 22 (.one 23 (.one 24 (.one 26 (.one 28 (.one 29 (.one 25 (.one 27 (.one 30 (.one 31 (.one 32 (.one 33 (.one 34 (.one 35 (.done)))))))))))))))))))))))))))))))))))))],[],false,false⟩
def fi59:FI:=⟨codeOf Tryz.f59,[.cell 2 42],.pure,[],[],[],false,false⟩
def fi60:FI:=⟨codeOf Tryz.f60,[.tmp 2],.fresh,[],[],[],true,false⟩
def fi61:FI:=⟨codeOf Tryz.f61,[],.inout,[],[],[],false,true⟩
def fi62:FI:=⟨codeOf Tryz.f62,[.tmp 2],.pure,[],[],[],false,true⟩
def fi63:FI:=⟨codeOf Tryz.f63,[.tmp 8],.inout,[],[(2,.one 0 (.one 1 (.one 2 (.one 3 (.one 5 (.one 7 (.one 9 (.one 4 (.one 6 (.one 8 (.one 10 (.one 11 (.one 12 (.one 13 (.one 14 (.one 15 (.done))))))))))))))))),(6,.one 0 (.one 1 (.one 2 (.one 4 (.one 8 (.one 9 (.one 3 (.one 5 (.one 6 (.one 7 (.one 10 (.done)))))))))))),(8,.one 0 (.one 1 (.one 2 (.one 3 (.one 4 (.one 8 (.one 9 (.one 10 (.one 12 (.one 5 (.alt 6 (.alt 7 (.one 11 (.one 13 (.one 14 (.one 15 (.one 16 (.one 17 (.one 18 (.one 19 (.one 20 (.done)))))))))) (.alt 11 (.two 7 (.one 13 (.one 14 (.one 15 (.one 16 (.one 17 (.one 18 (.one 19 (.one 20 (.done))))))))) 13 (.one 7 (.one 14 (.one 15 (.one 16 (.one 17 (.one 18 (.one 19 (.one 20 (.done)))))))))) (.one 13 (.two 7 (.one 11 (.one 14 (.one 15 (.one 16 (.one 17 (.one 18 (.one 19 (.one 20 (.done))))))))) 11 (.one 7 (.one 14 (.one 15 (.one 16 (.one 17 (.one 18 (.one 19 (.one 20 (.done))))))))))))) (.alt 11 (.two 6 (.two 7 (.one 13 (.one 14 (.one 15 (.one 16 (.one 17 (.one 18 (.one 19 (.one 20 (.done))))))))) 13 (.one 7 (.one 14 (.one 15 (.one 16 (.one 17 (.one 18 (.one 19 (.one 20 (.done)))))))))) 13 (.one 6 (.one 7 (.one 14 (.one 15 (.one 16 (.one 17 (.one 18 (.one 19 (.one 20 (.done))))))))))) (.one 13 (.two 6 (.two 7 (.one 11 (.one 14 (.one 15 (.one 16 (.one 17 (.one 18 (.one 19 (.one 20 (.done))))))))) 11 (.one 7 (.one 14 (.one 15 (.one 16 (.one 17 (.one 18 (.one 19 (.one 20 (.done)))))))))) 11 (.one 6 (.one 7 (.one 14 (.one 15 (.one 16 (.one 17 (.one 18 (.one 19 (.one 20 (.done)))))))))))))))))))))))),(9,.one 1 (.one 3 (.one 0 (.one 2 (.one 4 (.one 5 (.one 6 (.done)))))))),(10,.one 0 (.one 1 (.one 2 (.one 3 (.one 4 (.one 6 (.one 8 (.one 9 (.one 5 (.one 7 (.one 10 (.one 11 (.one 12 (.one 13 (.one 14 (.one 15 (.one 16 (.one 17 (.one 18 (.one 19 (.one 20 (.done))))))))))))))))))))))],[],false,true⟩
def fi64:FI:=⟨codeOf Tryz.f64,[],.inout,[([0,1,0,1],[0,1,4,19,20,21]),([0,1,0,1,1],[0,1,90,91,92]),([0,1,0,1,1,0,0,1,1,0,0,1,0,1,1,1,0,0,1,1,0,0,1,0,1],[0,1,4,6,7,8,9,10,19,20,21,43,44,52,53,54]),([0,1,0,1,1,1,0,0,1,1,0,0,1,0,1],[0,1,4,6,7,8,19,20,21,43,44]),([0,1,1,1,0,0,1,1,0,0,1,1,1,1],[0,1,17,18,146,147,148]),([0,1,1,1,1],[0,1,146,147,148])],[(5,.one 0 (.one 1 (.one 3 (.one 4 (.one 5 (.one 6 (.two 2 (.one 7 (.one 8 (.one 9 (.done)))) 8 (.one 2 (.one 7 (.one 9 (.done))))))))))),(13,.one 0 (.one 1 (.one 2 (.one 3 (.one 5 (.one 6 (.one 8 (.one 4 (.one 7 (.one 9 (.one 10 (.one 11 (.one 12 (.one 13 (.one 14 (.done)))))))))))))))),(22,.one 0 (.one 1 (.one 2 (.one 4 (.one 5 (.one 6 (.one 3 (.one 7 (.one 8 (.one 9 (.done))))))))))),(24,.one 0 (.one 1 (.one 2 (.one 4 (.one 3 (.one 5 (.one 6 (.done)))))))),(25,.one 0 (.one 1 (.one 2 (.one 3 (.one 4 (.one 6 (.one 7 (.one 8 (.one 9 (.one 5 (.one 10 (.one 11 (.one 12 (.one 13 (.one 14 (.one 15 (.done))))))))))))))))),(32,.one 0 (.one 1 (.one 2 (.one 4 (.one 3 (.one 5 (.one 6 (.one 7 (.one 8 (.one 9 (.one 10 (.one 11 (.one 12 (.one 13 (.one 14 (.one 15 (.one 16 (.done))))))))))))))))))],[([0,1,0,1],[4]),([0,1,0,1,1,0,0,1,1,0,0,1,0,1,1,1,0,0,1,1,0,0,1,0,1],[10])],false,true⟩
def fi65:FI:=⟨codeOf Tryz.f65,[.tmp 4],.pure,[],[],[],false,true⟩
def fi66:FI:=⟨codeOf Tryz.f66,[.tmp 8],.inout,[([0,1,0,1,1,1,1],[0,2,3,9,10,23,24,25])],[(12,.one 0 (.one 1 (.one 2 (.one 3 (.one 4 (.two 5 (.one 6 (.one 7 (.one 8 (.one 9 (.one 10 (.one 11 (.done))))))) 6 (.two 5 (.one 7 (.one 8 (.one 9 (.one 10 (.one 11 (.done)))))) 7 (.one 5 (.one 8 (.one 9 (.one 10 (.one 11 (.done)))))))))))))],[],false,true⟩
def fi67:FI:=⟨codeOf Tryz.f67,[.tmp 4],.inout,[],[],[],false,true⟩
def fi69:FI:=⟨codeOf Tryz.f69,[.cell 4 42],.inout,[],[(3,.one 0 (.one 1 (.one 2 (.one 4 (.one 5 (.one 3 (.one 6 (.one 7 (.one 8 (.one 9 (.one 10 (.one 11 (.one 12 (.one 13 (.one 14 (.done))))))))))))))))],[],false,true⟩
def fi71:FI:=⟨codeOf Tryz.f71,[.tmp 4],.both,[],[],[],false,false⟩
def fi73:FI:=⟨codeOf Tryz.f73,[.tmp 4],.pure,[],[(1,.one 1 (.one 4 (.one 0 (.one 2 (.one 5 (.one 3 (.one 6 (.one 7 (.one 8 (.one 9 (.one 10 (.one 11 (.one 12 (.one 13 (.one 14 (.one 15 (.one 16 (.one 17 (.done))))))))))))))))))),(5,.one 1 (.one 0 (.one 2 (.one 3 (.one 4 (.one 6 (.one 7 (.one 9 (.one 10 (.one 13 (.one 5 (.one 8 (.one 11 (.one 14 (.one 12 (.one 15 (.one 16 (.one 17 (.one 18 (.one 19 (.one 20 (.one 21 (.one 22 (.one 23 (.one 24 (.one 25 (.one 26 (.one 27 (.one 28 (.one 30 (.one 29 (.one 31 (.one 32 (.one 33 (.one 34 (.done))))))))))))))))))))))))))))))))))))],[],false,false⟩
def fi78:FI:=⟨codeOf Tryz.f78,[.tmp 2],.inout,[],[],[],false,false⟩
def fi80:FI:=⟨codeOf Tryz.f80,[.tmp 4],.pure,[([0,1,0,0,1,0,0,1,0,1,1,1],[1,2,5,6,7]),([0,1,0,1,1,1],[1,2,5,6])],[(5,.one 0 (.one 1 (.one 2 (.one 3 (.one 7 (.one 8 (.one 4 (.one 5 (.one 6 (.one 9 (.one 10 (.one 11 (.one 12 (.done)))))))))))))),(8,.one 0 (.one 1 (.one 2 (.one 3 (.one 7 (.one 8 (.one 4 (.one 5 (.one 6 (.one 9 (.one 10 (.one 11 (.one 12 (.done))))))))))))))],[([0,1,0,0,1,0,0,1,0,1,1,1],[5]),([0,1,0,1,1,1],[5])],false,false⟩
def fi90:FI:=⟨codeOf Tryz.f90,[.tmp 4],.pure,[],[],[],false,false⟩
def fi111:FI:=⟨codeOf Tryz.f111,[.tmp 2],.pure,[],[],[],false,false⟩
def fi112:FI:=⟨codeOf Tryz.f112,[.tmp 2,.tmp 3],.pure,[],[(3,.one 0 (.one 1 (.one 3 (.one 4 (.one 2 (.one 6 (.one 5 (.one 7 (.done)))))))))],[],false,false⟩
def fi113:FI:=⟨codeOf Tryz.f113,[.tmp 6],.pure,[],[],[],false,false⟩
def fi114:FI:=⟨codeOf Tryz.f114,[.tmp 4],.pure,[],[],[],false,false⟩
def fi115:FI:=⟨codeOf Tryz.f115,[.tmp 2],.fresh,[],[],[],true,false⟩
def fi116:FI:=⟨codeOf Tryz.f116,[.tmp 8],.inout,[([0,1,0,1,1,1],[0,1,2,3,9,26,27,28])],[],[([0,1,0,1,1,1],[9])],false,true⟩
def fi117:FI:=⟨codeOf Tryz.f117,[.tmp 6,.tmp 7],.fresh,[([0,1,0,1,1],[0,2,8,9,21,22,23])],[],[],true,true⟩
def fi118:FI:=⟨codeOf Tryz.f118,[.tmp 8],.pure,[([0,1,0,1,1],[9,16,17,18])],[],[([0,1,0,1,1],[9])],false,false⟩
def fi119:FI:=⟨codeOf Tryz.f119,[.tmp 8],.pure,[],[(1,.one 0 (.one 1 (.one 2 (.one 3 (.one 4 (.one 5 (.one 6 (.one 8 (.one 7 (.one 9 (.one 10 (.one 11 (.one 12 (.one 13 (.one 14 (.one 15 (.one 16 (.one 18 (.one 17 (.one 19 (.one 20 (.one 21 (.one 22 (.one 23 (.one 24 (.one 25 (.one 27 (.one 26 (.one 28 (.one 29 (.one 30 (.one 31 (.one 32 (.one 33 (.one 35 (.one 34 (.one 36 (.one 37 (.one 38 (.done))))))))))))))))))))))))))))))))))))))))],[],false,false⟩
def fi120:FI:=⟨codeOf Tryz.f120,[.cell 10 42,.tmp 11,.tmp 12],.pure,[],[(4,.one 1 (.one 2 (.one 5 (.one 7 (.one 0 (.one 3 (.one 4 (.one 6 (.one 8 (.one 9 (.one 10 (.one 11 (.done))))))))))))),(11,.one 0 (.one 3 (.one 4 (.one 5 (.one 8 (.one 9 (.one 10 (.one 1 (.one 2 (.one 6 (.one 7 (.one 11 (.one 12 (.one 13 (.one 14 (.one 15 (.one 16 (.done))))))))))))))))))],[],false,false⟩
def fi121:FI:=⟨codeOf Tryz.f121,[.tmp 6],.pure,[],[],[],false,true⟩
def fi122:FI:=⟨codeOf Tryz.f122,[.tmp 4],.fresh,[([0,1,0,0,1,1,0,0,1,1,0,1,0,0,1,0,1,1,1],[5,9,11,67,68,69]),([0,1,0,1,1],[2,5,18,19,20]),([0,1,0,1,1,1],[5,9]),([0,1,0,1,1,1,1,1],[12,91,92,93]),([0,1,1,0,1,0,0,1,0,1,1,1],[5,9,67,68,69])],[(7,.one 0 (.one 1 (.one 2 (.one 3 (.one 4 (.one 5 (.one 7 (.one 8 (.one 9 (.one 10 (.one 6 (.one 11 (.one 12 (.one 13 (.one 14 (.done)))))))))))))))),(8,.one 0 (.one 1 (.one 2 (.one 4 (.one 5 (.one 6 (.one 7 (.one 9 (.one 3 (.one 8 (.one 10 (.done))))))))))))],[([0,1,0,1,1,1,1,1],[12])],true,false⟩
def fi123:FI:=⟨codeOf Tryz.f123,[.tmp 6],.pure,[([0,1,0,1],[0,2,6,15,16,17])],[],[],false,true⟩
def fi124:FI:=⟨codeOf Tryz.f124,[.tmp 4],.inout,[],[],[],false,true⟩
def fi125:FI:=⟨codeOf Tryz.f125,[.tmp 2],.pure,[],[],[],false,false⟩
def fi126:FI:=⟨codeOf Tryz.f126,[.tmp 2],.inout,[],[],[],true,false⟩
def fi127:FI:=⟨codeOf Tryz.f127,[.tmp 4],.inout,[],[],[],false,true⟩
def fi148:FI:=⟨codeOf Tryz.f148,[.tmp 4],.both,[([0,1,0,1],[0,1,4,7,8])],[],[],false,false⟩
def fi149:FI:=⟨codeOf Tryz.f149,[.tmp 4],.pure,[],[],[],false,false⟩
def fi150:FI:=⟨codeOf Tryz.f150,[.tmp 4],.pure,[],[],[],false,false⟩
def fi151:FI:=⟨codeOf Tryz.f151,[.tmp 6],.pure,[],[(4,.one 0 (.one 5 (.one 1 (.one 6 (.one 2 (.one 3 (.one 4 (.one 7 (.one 8 (.one 9 (.one 10 (.one 11 (.done)))))))))))))],[],false,false⟩
def fi152:FI:=⟨codeOf Tryz.f152,[.tmp 6],.pure,[],[],[],false,false⟩
def fi153:FI:=⟨codeOf Tryz.f153,[.tmp 4],.inout,[],[],[],false,false⟩
def fi157:FI:=⟨codeOf Tryz.f157,[],.inout,[([0,1],[0,5])],[],[],false,false⟩
def fi160:FI:=⟨codeOf Tryz.f160,[.tmp 4],.pure,[],[],[],false,false⟩
def fi179:FI:=⟨codeOf Tryz.f179,[.tmp 4],.pure,[],[(1,.one 0 (.one 1 (.one 2 (.one 3 (.one 4 (.one 5 (.one 6 (.one 9 (.one 10 (.one 11 (.one 12 (.one 13 (.one 7 (.one 8 (.one 14 (.one 15 (.one 16 (.done))))))))))))))))))],[],false,true⟩
def fi180:FI:=⟨codeOf Tryz.f180,[.tmp 6],.pure,[],[],[],false,false⟩
def fi181:FI:=⟨codeOf Tryz.f181,[.tmp 4],.pure,[],[],[],false,false⟩
def fi182:FI:=⟨codeOf Tryz.f182,[.tmp 2],.pure,[([0,1,0,1],[0,2,5,6])],[(4,.one 0 (.one 1 (.one 2 (.one 3 (.one 4 (.one 5 (.one 6 (.one 8 (.one 9 (.one 10 (.one 11 (.one 12 (.one 7 (.one 13 (.one 14 (.one 15 (.done)))))))))))))))))],[],false,false⟩
def fi183:FI:=⟨codeOf Tryz.f183,[.tmp 2],.pure,[([0,1,0,1,1],[3,6,7,8])],[],[],false,false⟩
def fi184:FI:=⟨codeOf Tryz.f184,[.tmp 4],.pure,[],[],[],false,false⟩
def fi185:FI:=⟨codeOf Tryz.f185,[.tmp 4],.pure,[],[(1,.one 0 (.one 1 (.one 2 (.one 3 (.one 4 (.one 6 (.one 8 (.one 5 (.one 7 (.one 9 (.one 11 (.one 10 (.one 12 (.one 13 (.one 14 (.done))))))))))))))))],[],false,false⟩
def fi186:FI:=⟨codeOf Tryz.f186,[.tmp 4],.pure,[],[(1,.one 0 (.one 2 (.one 5 (.one 7 (.one 1 (.one 3 (.one 6 (.one 8 (.one 4 (.one 9 (.one 10 (.one 11 (.one 12 (.done)))))))))))))),(6,.one 0 (.one 2 (.one 5 (.one 7 (.one 1 (.one 3 (.one 6 (.one 8 (.one 4 (.one 9 (.one 10 (.one 11 (.one 12 (.done))))))))))))))],[],false,false⟩
def fi187:FI:=⟨codeOf Tryz.f187,[.tmp 4],.fresh,[],[],[],true,false⟩
def fi188:FI:=⟨codeOf Tryz.f188,[.tmp 6],.inout,[],[(6,.one 0 (.one 1 (.one 2 (.one 4 (.one 5 (.one 3 (.one 6 (.one 7 (.one 8 (.one 9 (.one 10 (.one 11 (.one 12 (.one 13 (.done)))))))))))))))],[],false,true⟩
def fi189:FI:=⟨codeOf Tryz.f189,[.cell 6 23,.tmp 7],.pure,[],[(10,.one 0 (.one 1 (.one 2 (.one 4 (.one 5 (.one 6 (.one 3 (.one 7 (.one 8 (.one 9 (.one 10 (.one 11 (.one 12 (.one 13 (.one 14 (.done))))))))))))))))],[],false,true⟩
def fi190:FI:=⟨codeOf Tryz.f190,[.tmp 8],.fresh,[([0,1,0,1,1],[9,15,16,17])],[],[([0,1,0,1,1],[9])],true,false⟩
def fi191:FI:=⟨codeOf Tryz.f191,[.tmp 4],.pure,[([0,1,0,1,1],[0,1,4,12,13])],[(6,.one 0 (.one 1 (.one 2 (.one 4 (.one 5 (.one 6 (.one 3 (.one 7 (.one 8 (.done))))))))))],[],false,false⟩
def fi192:FI:=⟨codeOf Tryz.f192,[.tmp 4],.pure,[([0,1,0,1,1],[0,1,4,12,13])],[(6,.one 0 (.one 1 (.one 2 (.one 4 (.one 5 (.one 6 (.one 3 (.one 7 (.one 8 (.done))))))))))],[],false,false⟩
def fi193:FI:=⟨codeOf Tryz.f193,[.tmp 4],.pure,[([0,1,0,1,1],[0,1,4,12,13])],[(6,.one 0 (.one 1 (.one 2 (.one 4 (.one 5 (.one 6 (.one 3 (.one 7 (.one 8 (.done))))))))))],[],false,false⟩
def fi194:FI:=⟨codeOf Tryz.f194,[.tmp 10],.pure,[],[],[],false,false⟩
def fi195:FI:=⟨codeOf Tryz.f195,[],.inout,[([0,1],[0,1,12,13,14])],[(7,.one 0 (.one 1 (.one 2 (.one 3 (.one 7 (.alt 4 (.alt 5 (.two 6 (.one 8 (.one 9 (.one 10 (.one 11 (.one 12 (.one 13 (.one 14 (.done)))))))) 8 (.one 6 (.one 9 (.one 10 (.one 11 (.one 12 (.one 13 (.one 14 (.done))))))))) (.alt 6 (.two 5 (.one 8 (.one 9 (.one 10 (.one 11 (.one 12 (.one 13 (.one 14 (.done)))))))) 8 (.one 5 (.one 9 (.one 10 (.one 11 (.one 12 (.one 13 (.one 14 (.done))))))))) (.one 8 (.one 5 (.one 6 (.one 9 (.one 10 (.one 11 (.one 12 (.one 13 (.one 14 (.done)))))))))))) (.alt 5 (.alt 4 (.two 6 (.one 8 (.one 9 (.one 10 (.one 11 (.one 12 (.one 13 (.one 14 (.done)))))))) 8 (.one 6 (.one 9 (.one 10 (.one 11 (.one 12 (.one 13 (.one 14 (.done))))))))) (.alt 6 (.two 4 (.one 8 (.one 9 (.one 10 (.one 11 (.one 12 (.one 13 (.one 14 (.done)))))))) 8 (.one 4 (.one 9 (.one 10 (.one 11 (.one 12 (.one 13 (.one 14 (.done))))))))) (.one 8 (.one 4 (.one 6 (.one 9 (.one 10 (.one 11 (.one 12 (.one 13 (.one 14 (.done)))))))))))) (.alt 6 (.alt 4 (.two 5 (.one 8 (.one 9 (.one 10 (.one 11 (.one 12 (.one 13 (.one 14 (.done)))))))) 8 (.one 5 (.one 9 (.one 10 (.one 11 (.one 12 (.one 13 (.one 14 (.done))))))))) (.alt 5 (.two 4 (.one 8 (.one 9 (.one 10 (.one 11 (.one 12 (.one 13 (.one 14 (.done)))))))) 8 (.one 4 (.one 9 (.one 10 (.one 11 (.one 12 (.one 13 (.one 14 (.done))))))))) (.one 8 (.one 4 (.one 5 (.one 9 (.one 10 (.one 11 (.one 12 (.one 13 (.one 14 (.done)))))))))))) (.one 8 (.one 4 (.one 5 (.one 6 (.one 9 (.one 10 (.one 11 (.one 12 (.one 13 (.one 14 (.done))))))))))))))))))),(10,.one 0 (.one 1 (.one 2 (.one 4 (.one 5 (.one 6 (.one 8 (.one 3 (.one 7 (.one 9 (.one 11 (.one 10 (.one 12 (.one 13 (.done)))))))))))))))],[],false,false⟩
def fi196:FI:=⟨codeOf Tryz.f196,[],.inout,[([0,1,0,1],[0,2,10,11,12])],[(4,.one 0 (.one 1 (.one 2 (.one 3 (.one 4 (.two 5 (.one 6 (.one 7 (.one 8 (.one 9 (.one 10 (.one 11 (.done))))))) 9 (.one 5 (.one 6 (.one 7 (.one 8 (.one 10 (.one 11 (.done)))))))))))))],[([0,1,0,1],[2])],false,false⟩
def fi197:FI:=⟨codeOf Tryz.f197,[.tmp 4],.fresh,[([0,1,0,1,1],[5,12,13,14]),([0,1,1,0,0,1,1,0,0,1,0,1,1],[5,7,12,13,14,19,20])],[(9,.one 0 (.one 1 (.one 2 (.one 3 (.one 4 (.one 5 (.one 6 (.one 7 (.one 8 (.one 9 (.one 10 (.one 11 (.one 12 (.one 14 (.one 16 (.one 13 (.one 15 (.one 17 (.one 18 (.one 19 (.done)))))))))))))))))))))],[],true,false⟩
def fi198:FI:=⟨codeOf Tryz.f198,[.tmp 2],.fresh,[],[],[],true,false⟩
def fi199:FI:=⟨codeOf Tryz.f199,[.tmp 2],.fresh,[],[],[],true,false⟩
def fi200:FI:=⟨codeOf Tryz.f200,[],.inout,[([0,1],[0,11,12,13]),([0,1,0,1,1,0,0,1,1,0,0,1],[0,3,4,11,12,13,36,37,38])],[(3,.one 0 (.one 1 (.one 2 (.one 4 (.one 5 (.one 6 (.one 8 (.one 3 (.one 7 (.one 9 (.one 10 (.one 11 (.done))))))))))))),(4,.one 0 (.one 1 (.one 2 (.one 4 (.one 5 (.one 6 (.one 10 (.one 3 (.one 7 (.one 8 (.one 9 (.done)))))))))))),(7,.one 0 (.one 1 (.one 2 (.one 3 (.one 4 (.one 6 (.one 7 (.one 8 (.one 5 (.one 9 (.one 10 (.one 11 (.done)))))))))))))],[],false,false⟩
def fi201:FI:=⟨codeOf Tryz.f201,[],.inout,[([0,1,0,1],[0,2,10,11,12])],[(7,.one 0 (.one 1 (.one 2 (.one 3 (.one 4 (.one 6 (.one 7 (.one 8 (.one 10 (.one 11 (.one 12 (.one 5 (.one 9 (.one 13 (.one 14 (.one 15 (.one 16 (.one 17 (.one 18 (.one 19 (.one 20 (.one 21 (.one 22 (.one 23 (.one 24 (.one 25 (.done))))))))))))))))))))))))))),(9,.one 0 (.one 1 (.one 2 (.one 3 (.one 5 (.one 7 (.one 8 (.two 4 (.one 6 (.one 9 (.one 10 (.one 11 (.one 12 (.one 13 (.one 14 (.done)))))))) 6 (.one 9 (.one 4 (.one 10 (.one 11 (.one 12 (.one 13 (.one 14 (.done))))))))))))))))],[],false,false⟩
def fi202:FI:=⟨codeOf Tryz.f202,[],.inout,[([0,1,0,1],[0,2,9,10,11])],[(4,.one 0 (.one 1 (.one 2 (.one 4 (.one 6 (.one 3 (.one 5 (.one 7 (.one 8 (.one 9 (.done)))))))))))],[([0,1,0,1],[2])],false,false⟩
def fi203:FI:=⟨codeOf Tryz.f203,[.tmp 2],.fresh,[],[],[],true,false⟩
def fi204:FI:=⟨codeOf Tryz.f204,[.tmp 4],.fresh,[([0,1,0,1,1,1],[3,4,5,26,27,28])],[],[],true,false⟩
def fi205:FI:=⟨codeOf Tryz.f205,[.tmp 4],.inout,[([0,1,0,1,1,1],[0,1,4,5,38,39,40])],[(1,.one 0 (.one 1 (.one 2 (.one 4 (.one 5 (.one 6 (.one 7 (.one 3 (.one 8 (.one 9 (.one 10 (.done))))))))))))],[],false,false⟩
def fi206:FI:=⟨codeOf Tryz.f206,[.tmp 4],.inout,[],[],[],false,false⟩
def fi214:FI:=⟨codeOf Tryz.f214,[.tmp 4],.pure,[([0,1,0,1],[0,1,4,7,8])],[],[],false,false⟩
def fi215:FI:=⟨codeOf Tryz.f215,[.tmp 6],.pure,[],[],[],false,false⟩
def fi216:FI:=⟨codeOf Tryz.f216,[.tmp 2],.pure,[],[],[],false,false⟩
def fi217:FI:=⟨codeOf Tryz.f217,[.tmp 6],.pure,[],[],[],false,false⟩
def fi218:FI:=⟨codeOf Tryz.f218,[.tmp 2],.pure,[],[],[],false,false⟩
def fi219:FI:=⟨codeOf Tryz.f219,[.tmp 2],.pure,[],[],[],false,false⟩
def fi229:FI:=⟨codeOf Tryz.f229,[.tmp 4],.pure,[([0,1,0,1],[0,1,4,7,8])],[],[],false,false⟩
def fi230:FI:=⟨codeOf Tryz.f230,[.tmp 2],.pure,[([0,1,0,1,1],[2,3,6,7,8])],[],[],false,false⟩
def fi231:FI:=⟨codeOf Tryz.f231,[.tmp 4],.pure,[],[],[],false,false⟩
def fi232:FI:=⟨codeOf Tryz.f232,[.tmp 4],.inout,[([0,1,0,1,1,1],[0,1,5,6])],[],[],true,false⟩
def fi233:FI:=⟨codeOf Tryz.f233,[.tmp 3],.pure,[],[],[],false,false⟩
def fi234:FI:=⟨codeOf Tryz.f234,[.tmp 6,.tmp 7],.fresh,[],[],[],true,true⟩
def fi235:FI:=⟨codeOf Tryz.f235,[.cell 4 23],.pure,[],[],[],false,false⟩
def fi236:FI:=⟨codeOf Tryz.f236,[.tmp 4],.fresh,[([0,1,0,1,1],[5,11,12,13])],[],[([0,1,0,1,1],[5])],true,false⟩
def fi237:FI:=⟨codeOf Tryz.f237,[.tmp 4],.pure,[],[],[],false,false⟩
def fi238:FI:=⟨codeOf Tryz.f238,[.tmp 2],.pure,[],[],[],false,false⟩
def fi239:FI:=⟨codeOf Tryz.f239,[.tmp 5],.pure,[],[],[],false,false⟩
def fi240:FI:=⟨codeOf Tryz.f240,[.cell 4 79,.tmp 5],.pure,[],[(3,.one 0 (.one 3 (.one 1 (.one 2 (.one 6 (.two 4 (.one 5 (.one 7 (.one 8 (.one 9 (.done))))) 7 (.one 4 (.one 5 (.one 8 (.one 9 (.done)))))))))))],[],false,false⟩
def fi241:FI:=⟨codeOf Tryz.f241,[.tmp 2],.pure,[],[],[],false,false⟩
def fi242:FI:=⟨codeOf Tryz.f242,[.cell 6 79],.pure,[],[(1,.one 0 (.one 1 (.one 3 (.one 5 (.one 8 (.one 11 (.one 2 (.one 4 (.one 6 (.one 9 (.one 12 (.two 7 (.two 10 (.one 13 (.one 14 (.one 15 (.done)))) 14 (.one 10 (.one 13 (.one 15 (.done))))) 14 (.one 7 (.one 10 (.one 13 (.one 15 (.done)))))))))))))))))],[],false,false⟩
def fi243:FI:=⟨codeOf Tryz.f243,[.tmp 2],.inout,[],[(2,.one 0 (.one 1 (.one 2 (.one 4 (.one 5 (.one 6 (.one 10 (.one 11 (.one 12 (.one 17 (.one 18 (.one 19 (.one 3 (.one 7 (.one 13 (.one 20 (.one 8 (.one 9 (.one 14 (.one 15 (.one 16 (.one 21 (.one 22 (.one 23 (.done)))))))))))))))))))))))))],[],false,false⟩
def fi244:FI:=⟨codeOf Tryz.f244,[.tmp 4],.pure,[],[],[],false,false⟩
def fi245:FI:=⟨codeOf Tryz.f245,[.cell 4 79,.tmp 5],.pure,[],[(3,.one 0 (.one 2 (.one 6 (.one 8 (.one 1 (.one 3 (.one 7 (.one 9 (.two 4 (.two 5 (.one 10 (.one 11 (.one 12 (.one 13 (.done))))) 10 (.one 5 (.one 11 (.one 12 (.one 13 (.done)))))) 10 (.one 4 (.one 5 (.one 11 (.one 12 (.one 13 (.done))))))))))))))),(8,.one 0 (.one 5 (.one 1 (.one 6 (.one 2 (.one 3 (.one 4 (.one 10 (.one 7 (.one 8 (.one 9 (.one 11 (.one 12 (.one 13 (.done)))))))))))))))],[],false,false⟩
def fi246:FI:=⟨codeOf Tryz.f246,[.tmp 8],.pure,[],[],[],false,false⟩
def fi247:FI:=⟨codeOf Tryz.f247,[.tmp 4],.pure,[],[],[],false,false⟩
def fi248:FI:=⟨codeOf Tryz.f248,[.tmp 10],.fresh,[([0,1,0,1,1,1],[1,4,7,8,11,12,24,25,26]),([0,1,0,1,1,1,1,1],[12,16,55,56,57])],[],[([0,1,0,1,1,1,1,1],[16])],true,false⟩
def fi249:FI:=⟨codeOf Tryz.f249,[.tmp 4],.pure,[],[],[],false,false⟩
def fi250:FI:=⟨codeOf Tryz.f250,[.tmp 2],.pure,[],[],[],false,false⟩
def fi251:FI:=⟨codeOf Tryz.f251,[.tmp 2],.pure,[([0,1,0,1,1],[3,6,7,8])],[],[],false,false⟩
def fi252:FI:=⟨codeOf Tryz.f252,[.tmp 4],.pure,[],[],[],false,false⟩
def fi253:FI:=⟨codeOf Tryz.f253,[.tmp 2],.pure,[],[],[],false,false⟩
def fi254:FI:=⟨codeOf Tryz.f254,[.tmp 2],.inout,[([0,1,0,1,1],[3,6,7,8])],[],[([0,1,0,1,1],[3])],false,false⟩
def fi255:FI:=⟨codeOf Tryz.f255,[],.inout,[],[(1,.one 0 (.one 1 (.one 2 (.one 4 (.one 5 (.one 6 (.one 3 (.one 8 (.two 7 (.one 9 (.one 10 (.one 11 (.done)))) 9 (.one 7 (.one 10 (.one 11 (.done))))))))))))),(2,.one 0 (.one 1 (.one 2 (.one 3 (.one 4 (.one 5 (.one 6 (.one 7 (.one 8 (.one 9 (.one 10 (.done))))))))))))],[],false,false⟩
def fi256:FI:=⟨codeOf Tryz.f256,[.tmp 8,.tmp 9],.pure,[],[(1,.one 0 (.one 1 (.one 2 (.one 4 (.one 5 (.one 6 (.one 3 (.one 7 (.one 8 (.one 9 (.one 10 (.one 11 (.one 12 (.one 13 (.done))))))))))))))),(2,.one 0 (.one 1 (.one 2 (.one 3 (.one 4 (.one 5 (.one 7 (.one 8 (.one 9 (.one 10 (.one 12 (.one 16 (.one 17 (.one 18 (.one 19 (.one 20 (.one 21 (.one 23 (.one 24 (.one 25 (.one 26 (.one 28 (.one 6 (.one 11 (.one 22 (.one 27 (.two 13 (.two 14 (.one 15 (.one 29 (.one 30 (.one 31 (.one 32 (.one 33 (.done))))))) 29 (.one 14 (.one 15 (.one 30 (.one 31 (.one 32 (.one 33 (.done)))))))) 29 (.one 13 (.one 14 (.one 15 (.one 30 (.one 31 (.one 32 (.one 33 (.done)))))))))))))))))))))))))))))))))))],[],false,false⟩
def fi257:FI:=⟨codeOf Tryz.f257,[.tmp 6],.pure,[],[],[],false,false⟩
def fi258:FI:=⟨codeOf Tryz.f258,[.tmp 2],.fresh,[([0,1,0,1,1],[0,3,9,10,11]),([0,1,0,1,1,1,1],[6,25,26,27])],[],[([0,1,0,1,1,1,1],[6])],true,false⟩
def fi259:FI:=⟨codeOf Tryz.f259,[],.inout,[],[],[],false,false⟩
def fi260:FI:=⟨codeOf Tryz.f260,[.tmp 6],.inout,[],[],[],false,false⟩
def fi276:FI:=⟨codeOf Tryz.f276,[.tmp 2],.pure,[],[],[],false,false⟩
def fi277:FI:=⟨codeOf Tryz.f277,[.tmp 3],.pure,[],[],[],false,false⟩
def fi278:FI:=⟨codeOf Tryz.f278,[.tmp 6],.inout,[],[(11,.one 0 (.one 1 (.one 2 (.one 3 (.one 4 (.one 5 (.one 6 (.one 7 (.one 8 (.done)))))))))),(15,.one 0 (.one 1 (.one 2 (.one 3 (.one 4 (.one 5 (.one 6 (.one 7 (.one 8 (.done))))))))))],[],true,false⟩
def fi279:FI:=⟨codeOf Tryz.f279,[.tmp 4],.pure,[([0,1,0,1],[0,1,4,7,8])],[],[],false,false⟩
def fi280:FI:=⟨codeOf Tryz.f280,[.tmp 2],.pure,[],[],[],false,false⟩
def fi281:FI:=⟨codeOf Tryz.f281,[.tmp 3],.pure,[],[],[],false,false⟩
def fi282:FI:=⟨codeOf Tryz.f282,[.tmp 2],.pure,[],[],[],false,false⟩
def fi283:FI:=⟨codeOf Tryz.f283,[.tmp 8],.pure,[],[],[],false,false⟩
def fi284:FI:=⟨codeOf Tryz.f284,[.tmp 2],.pure,[],[],[],false,false⟩
def fi285:FI:=⟨codeOf Tryz.f285,[.tmp 5],.pure,[],[],[],false,false⟩
def fi286:FI:=⟨codeOf Tryz.f286,[.tmp 4,.tmp 5],.pure,[],[(3,.one 0 (.one 1 (.one 2 (.one 6 (.one 7 (.one 8 (.one 3 (.one 4 (.one 5 (.one 12 (.one 9 (.one 10 (.one 11 (.one 13 (.done)))))))))))))))],[],false,false⟩
def fi287:FI:=⟨codeOf Tryz.f287,[.tmp 4],.pure,[([0,1,0,1,1],[5,10,11,12])],[],[],false,false⟩
def fi288:FI:=⟨codeOf Tryz.f288,[.tmp 4],.inout,[],[],[],true,false⟩
def fi289:FI:=⟨codeOf Tryz.f289,[],.inout,[([0,0,1,0,1,0,0,1,1,1,1],[0,1,2,6,7,8]),([0,0,1,1],[0,1,2,6,7,8]),([0,1,1,1,1],[0,1,2,6])],[],[],false,false⟩
def fi296:FI:=⟨codeOf Tryz.f296,[],.inout,[],[],[],false,false⟩
def fi297:FI:=⟨codeOf Tryz.f297,[.tmp 2],.pure,[],[],[],false,false⟩
def fi298:FI:=⟨codeOf Tryz.f298,[.tmp 2],.pure,[],[],[],false,false⟩
def fi299:FI:=⟨codeOf Tryz.f299,[],.inout,[([0,1],[0,1,2,3,8]),([0,1,0,0,1,0,0,1],[0,1,2,3,8,9])],[(4,.one 0 (.one 1 (.one 2 (.one 3 (.one 4 (.one 5 (.one 6 (.one 7 (.one 9 (.one 10 (.one 11 (.one 12 (.one 8 (.one 13 (.one 14 (.one 15 (.one 16 (.done)))))))))))))))))),(6,.one 0 (.one 1 (.one 2 (.one 3 (.one 4 (.one 5 (.one 6 (.one 7 (.one 8 (.one 10 (.one 11 (.one 12 (.one 9 (.one 13 (.one 14 (.one 15 (.one 16 (.one 17 (.done)))))))))))))))))))],[],false,false⟩
def fi300:FI:=⟨codeOf Tryz.f300,[],.inout,[([0,0,1,1,0,1,0],[0,1,4,10,11]),([0,0,1,1,0,1,0,1],[0,2,4,14,15]),([0,0,1,1,1,1,1,1,1],[0,1,2,3,4,18,19,20,21,22]),([0,1,0,1,1,1,0,1,0],[0,10,13]),([0,1,0,1,1,1,0,1,0,1],[0,14,17])],[(5,.one 0 (.one 1 (.one 2 (.one 3 (.one 5 (.one 6 (.one 7 (.one 4 (.one 8 (.one 9 (.one 10 (.done)))))))))))),(11,.one 0 (.one 1 (.one 2 (.one 3 (.one 4 (.one 5 (.one 6 (.one 7 (.one 8 (.one 10 (.one 11 (.one 12 (.one 9 (.one 13 (.one 14 (.one 15 (.one 16 (.one 17 (.done))))))))))))))))))),(17,.one 0 (.one 1 (.one 2 (.one 3 (.one 5 (.one 6 (.one 7 (.one 4 (.one 8 (.one 9 (.one 10 (.one 11 (.done))))))))))))),(23,.one 0 (.one 1 (.one 2 (.one 3 (.one 4 (.one 5 (.one 6 (.one 7 (.one 8 (.one 10 (.one 11 (.one 12 (.one 9 (.one 13 (.one 14 (.one 15 (.one 16 (.one 17 (.done))))))))))))))))))),(35,.one 0 (.one 1 (.one 2 (.one 3 (.one 4 (.one 5 (.one 7 (.one 8 (.one 9 (.one 6 (.one 10 (.one 11 (.one 12 (.one 13 (.done)))))))))))))))],[],false,false⟩
def fi302:FI:=⟨codeOf Tryz.f302,[],.inout,[],[],[],false,false⟩
def fi303:FI:=⟨codeOf Tryz.f303,[],.inout,[([0,0,1,1],[0,2,4,10,11])],[],[],false,false⟩
def fi304:FI:=⟨codeOf Tryz.f304,[],.inout,[([0,1],[0,2,3])],[(3,.one 0 (.one 1 (.one 2 (.one 3 (.one 4 (.one 5 (.one 6 (.one 8 (.one 9 (.one 10 (.one 7 (.one 11 (.one 12 (.one 13 (.one 14 (.one 15 (.done)))))))))))))))))],[],false,false⟩
def fi305:FI:=⟨codeOf Tryz.f305,[],.inout,[([0,1],[0,1,2,3,10])],[(3,.one 0 (.one 1 (.one 2 (.one 3 (.one 4 (.one 5 (.one 6 (.one 7 (.one 8 (.one 9 (.one 10 (.one 11 (.one 12 (.one 14 (.one 15 (.one 16 (.one 17 (.one 18 (.one 13 (.one 19 (.one 20 (.one 21 (.one 22 (.one 23 (.done)))))))))))))))))))))))))],[],false,false⟩
def fns:Tr (Option FI):=
 (.n (.n (.n (.n (.n (.n (.n (.n (.n .z (some fi255) .z) (some fi127) .z) (some fi63) (.n (.n .z none .z) (some fi191) .z)) (some fi31) (.n (.n (.n .z (some fi287) .z) none
 .z) none (.n .z none .z))) (some fi15) (.n (.n (.n (.n .z none .z) none .z) none (.n .z none .z)) none (.n (.n (.n .z (some fi303) .z)
 none .z) (some fi111) (.n .z (some fi239) .z)))) none (.n (.n (.n (.n (.n .z none .z) none .z) (some fi71) (.n .z (some fi199) .z)) none (.n
 (.n (.n .z none .z) none .z) none (.n .z (some fi231) .z))) none (.n (.n (.n (.n .z (some fi279) .z) (some fi151) .z) none (.n .z (some fi215) .z))
 (some fi55) (.n (.n (.n .z none .z) (some fi183) .z) (some fi119) (.n .z (some fi247) .z))))) (some fi3) (.n (.n (.n (.n (.n (.n .z (some fi259) .z) none .z) (some fi67)
 (.n .z (some fi195) .z)) none (.n (.n (.n .z none .z) none .z) none (.n .z none .z))) none (.n (.n (.n (.n .z none .z) none .z) none (.n .z none .z)) (some fi51) (.n (.n (.n .z none .z) (some fi179) .z) (some fi115) (.n .z (some fi243) .z)))) (some fi11) (.n (.n (.n (.n (.n .z
 none .z) none .z) none (.n .z (some fi203) .z)) none (.n (.n (.n .z (some fi299) .z) none .z) none (.n .z (some fi235) .z))) none (.n (.n (.n (.n .z (some fi283) .z) none .z) none (.n .z (some fi219) .z)) (some fi59) (.n (.n (.n .z none .z) (some fi187) .z) (some fi123) (.n .z (some
 fi251) .z)))))) none (.n (.n (.n (.n (.n (.n (.n .z (some fi257) .z) none .z) (some fi65) (.n (.n .z none .z) (some fi193) .z)) none (.n (.n (.n .z (some fi289) .z)
 none .z) none (.n .z none .z))) (some fi17) (.n (.n (.n (.n .z none .z) none .z) none (.n .z none .z)) (some fi49) (.n (.n (.n
 .z (some fi305) .z) none .z) (some fi113) (.n .z (some fi241) .z)))) none (.n (.n (.n (.n (.n .z none .z) none .z) (some fi73) (.n .z (some fi201)
 .z)) none (.n (.n (.n .z (some fi297) .z) none .z) none (.n .z (some fi233) .z))) none (.n (.n (.n (.n .z (some fi281) .z) (some fi153) .z) none (.n .z (some fi217) .z)) (some fi57) (.n (.n (.n .z none .z) (some fi185) .z) (some fi121) (.n .z (some fi249) .z))))) none (.n (.n (.n (.n (.n (.n .z none .z)
 none .z) (some fi69) (.n .z (some fi197) .z)) none (.n (.n (.n .z none .z) none .z) none (.n .z (some fi229) .z))) (some fi21) (.n (.n (.n
 (.n .z (some fi277) .z) (some fi149) .z) none (.n .z none .z)) (some fi53) (.n (.n (.n .z none .z) (some fi181) .z) (some fi117) (.n .z (some fi245) .z)))) (some
 fi13) (.n (.n (.n (.n (.n .z none .z) none .z) none (.n .z (some fi205) .z)) none (.n (.n (.n .z none .z) none .z) none (.n .z (some
 fi237) .z))) none (.n (.n (.n (.n .z (some fi285) .z) (some fi157) .z) none (.n .z none .z)) (some fi61) (.n (.n (.n .z none .z) (some fi189) .z) (some fi125)
 (.n .z (some fi253) .z))))))) none (.n (.n (.n (.n (.n (.n (.n (.n .z (some fi256) .z) none .z) (some fi64) (.n (.n .z none .z) (some fi192) .z)) none (.n (.n (.n .z
 (some fi288) .z) (some fi160) .z) none (.n .z none .z))) (some fi16) (.n (.n (.n (.n .z none .z) none .z) (some fi80) (.n .z none .z)) none (.n (.n (.n .z (some fi304) .z) none .z) (some fi112) (.n .z (some fi240) .z)))) none (.n (.n (.n (.n (.n .z none .z) none .z) none (.n
 .z (some fi200) .z)) none (.n (.n (.n .z (some fi296) .z) none .z) none (.n .z (some fi232) .z))) none (.n (.n (.n (.n .z (some fi280) .z) (some
 fi152) .z) none (.n .z (some fi216) .z)) (some fi56) (.n (.n (.n .z none .z) (some fi184) .z) (some fi120) (.n .z (some fi248) .z))))) none (.n (.n (.n (.n (.n (.n .z
 (some fi260) .z) none .z) none (.n .z (some fi196) .z)) none (.n (.n (.n .z none .z) none .z) none (.n .z none .z))) none (.n (.n (.n (.n .z (some fi276) .z) (some fi148) .z) none (.n .z none .z)) (some fi52) (.n (.n (.n .z none .z) (some fi180) .z) (some fi116) (.n .z (some
 fi244) .z)))) (some fi12) (.n (.n (.n (.n (.n .z none .z) none .z) none (.n .z (some fi204) .z)) none (.n (.n (.n .z (some fi300) .z) none .z)
 none (.n .z (some fi236) .z))) none (.n (.n (.n (.n .z (some fi284) .z) none .z) none (.n .z none .z)) (some fi60) (.n (.n (.n .z none .z)
 (some fi188) .z) (some fi124) (.n .z (some fi252) .z)))))) none (.n (.n (.n (.n (.n (.n (.n .z (some fi258) .z) none .z) (some fi66) (.n (.n .z none .z) (some fi194) .z))
 none (.n (.n (.n .z none .z) none .z) none (.n .z none .z))) (some fi18) (.n (.n (.n (.n .z none .z) none .z) none (.n
 .z none .z)) (some fi50) (.n (.n (.n .z none .z) none .z) (some fi114) (.n .z (some fi242) .z)))) none (.n (.n (.n (.n (.n .z none .z) none
 .z) none (.n .z (some fi202) .z)) none (.n (.n (.n .z (some fi298) .z) none .z) none (.n .z (some fi234) .z))) none (.n (.n (.n (.n .z (some
 fi282) .z) none .z) (some fi90) (.n .z (some fi218) .z)) (some fi58) (.n (.n (.n .z none .z) (some fi186) .z) (some fi122) (.n .z (some fi250) .z))))) none (.n (.n
 (.n (.n (.n (.n .z none .z) none .z) none (.n .z (some fi198) .z)) none (.n (.n (.n .z none .z) none .z) none (.n .z (some
 fi230) .z))) none (.n (.n (.n (.n .z (some fi278) .z) (some fi150) .z) none (.n .z (some fi214) .z)) (some fi54) (.n (.n (.n .z none .z) (some fi182) .z) (some fi118)
 (.n .z (some fi246) .z)))) (some fi14) (.n (.n (.n (.n (.n .z none .z) none .z) (some fi78) (.n .z (some fi206) .z)) none (.n (.n (.n .z (some fi302) .z)
 none .z) none (.n .z (some fi238) .z))) (some fi30) (.n (.n (.n (.n .z (some fi286) .z) none .z) none (.n .z none .z)) (some fi62) (.n (.n
 (.n .z none .z) (some fi190) .z) (some fi126) (.n .z (some fi254) .z))))))))
def cx:Cx:=⟨tis,fns,[(295,.overlaps 40),(77,.keys [157])],[(186,8),(33,17),(262,15),(266,26)],[(24,15,[0,6]),(31,12,[0]),(61,23,[0]),(61,26,[0]),(61,31,[0,3]),(61,36,[0,1]),(61,50,[0,2]),(61,67,[0]),(63,46,[0,4,25]),(64,63,[0]),(66,26,[0,3]),(67,8,[0]),(67,11,[0,6]),(67,23,[0,6,8]),(67,25,[0]),(69,17,[0,2]),(69,37,[0,6]),(74,29,[0,1,2,3,5,8,10,11,12,18,19,20,24,25,26,27,28]),(74,58,[0,5,38,39,40,41,44,45,46,47,49,52,53,54,55,56,57]),(78,9,[0]),(109,16,[0]),(116,22,[0,2,17]),(116,141,[0,1,15,90,130,131,132,134,136,137,138,139,142,143,144]),(124,8,[0]),(124,10,[0]),(124,11,[0,6]),(124,16,[0,3]),(126,40,[0,3,25,26,27,28,29,31,32,33,34,35,37,38,39,41,42]),(126,76,[0,3,9,12,23,71,72,73,74,75,78,79,80,81]),(127,8,[0]),(153,15,[0,1,3,7,10,11,12,13,19,24,29,30,31]),(153,16,[0]),(153,17,[0]),(188,37,[0,2,26,32]),(206,11,[0])],[(64,[1],[0,1],[4],[90,91,92])]⟩
end Go.Eva.S8
end
namespace Go.Eva
structure Entity where
 id:Int
 kind:Int
 x:Int
 y:Int
 vx:Int
 vy:Int
 health:Int
 age:Int
 owner:Int
deriving DecidableEq,Inhabited
def Entity.enc (e:Entity):T:= .agg [ti e.id,ti e.kind,ti e.x,ti e.y,ti e.vx,ti e.vy,ti e.health,ti e.age,ti e.owner]
structure Config where
 cols:Int
 rows:Int
 players:Int
 window:Int
 seed:Int
deriving DecidableEq,Inhabited
def Config.enc (c:Config):T:= .agg [ti c.cols,ti c.rows,ti c.players,ti c.window,.int .u64 c.seed]
structure Input where
 dx:Int
 dy:Int
 fire:Bool
deriving DecidableEq,Inhabited
def Input.enc (i:Input):T:= .agg [ti i.dx,ti i.dy,.bool i.fire]
structure Cross where
 kind:Int
 frm:Int
 to:Int
 frame:Int
 ent:Entity
 x:Int
 y:Int
deriving DecidableEq,Inhabited
def Cross.enc (c:Cross):T:= .agg [ti c.kind,ti c.frm,ti c.to,ti c.frame,ti c.ent.id,ti c.ent.kind,ti c.ent.x,ti c.ent.y,ti c.ent.vx,ti c.ent.vy,ti c.ent.health,ti c.ent.age,ti c.ent.owner,ti c.x,ti c.y]
structure Region where
 frame:Int
 ents:List Entity
deriving DecidableEq,Inhabited
def Region.enc (s:Region):T:= .agg [ti s.frame,.sl 9 (s.ents.map Entity.enc)]
theorem Entity.enc_inj {a b:Entity}:a.enc=b.enc↔a=b:=by
 constructor
 ·intro h;cases a;cases b;simp only [enc,T.agg.injEq,ko,T.int.injEq,true_and,and_true] at h;simpa using h
 ·intro h;rw [h]
theorem Input.enc_inj {a b:Input}:a.enc=b.enc↔a=b:=by
 constructor
 ·intro h;cases a;cases b;simp only [enc,T.agg.injEq,ko,T.int.injEq,T.bool.injEq,true_and,and_true] at h;simpa using h
 ·intro h;rw [h]
theorem Cross.enc_inj {a b:Cross}:a.enc=b.enc↔a=b:=by
 constructor
 ·intro h;obtain ⟨_,_,_,_,⟨_,_,_,_,_,_,_,_,_⟩,_,_⟩:=a;obtain ⟨_,_,_,_,⟨_,_,_,_,_,_,_,_,_⟩,_,_⟩:=b;simp only [enc,T.agg.injEq,ko,T.int.injEq,true_and,and_true] at h;simp only [Cross.mk.injEq,Entity.mk.injEq];simp_all
 ·intro h;rw [h]
theorem Config.enc_inj {a b:Config}:a.enc=b.enc↔a=b:=by
 constructor
 ·intro h;cases a;cases b;simp only [enc,T.agg.injEq,ko,T.int.injEq,true_and,and_true] at h;simpa using h
 ·intro h;rw [h]
theorem teqIff {x y:T}:teq x y=true↔x=y:=Ael
end Go.Eva
namespace Go.Eva
def within (v lo hi:Int):Bool:=decide (lo≤v)&&decide (v≤hi)
def Config.right (c:Config):Bool:=within c.cols 1 4&&within c.rows 1 4&&within c.players 1 6&&within c.window 1 16
def Config.zero:Config:=⟨0,0,0,0,0⟩
def Config.grid (c:Config):Config:=if c.right=true then c else Config.zero
def Config.err (c:Config):Int:=if c.right=true then 0 else 10
def Config.regions (c:Config):Int:=if c.right=true then c.cols*c.rows else 0
def Config.width (c:Config):Int:=if c.right=true then c.cols*1024 else 0
def Config.height (c:Config):Int:=if c.right=true then c.rows*1024 else 0
def Config.inside (c:Config) (x y:Int):Bool:=within x 0 (c.width-1)&&within y 0 (c.height-1)
def clamp (v lo hi:Int):Int:=if v<lo then lo else if v>hi then hi else v
def Config.of (c:Config) (x y:Int):Int:=if c.right=true then (clamp y 0 (c.height-1)).tdiv 1024*c.cols+(clamp x 0 (c.width-1)).tdiv 1024 else 0
def Config.is (c:Config) (r:Int):Bool:=within r 0 (c.regions-1)
def Config.cornerX (c:Config) (r:Int):Int:=if c.is r=true then r.tmod c.cols*1024 else 0
def Config.cornerY (c:Config) (r:Int):Int:=if c.is r=true then r.tdiv c.cols*1024 else 0
def i64 (n:Int):Prop:= -9223372036854775808≤n∧n≤9223372036854775807
def Config.ok (c:Config):Prop:=i64 c.cols∧i64 c.rows∧i64 c.players∧i64 c.window∧0≤c.seed∧c.seed≤18446744073709551615
theorem Aah {v lo hi:Int}:within v lo hi=true↔lo≤v∧v≤hi:=by simp [within]
theorem Config.right_iff {c:Config}:c.right=true↔(1≤c.cols∧c.cols≤4)∧(1≤c.rows∧c.rows≤4)∧(1≤c.players∧c.players≤6)∧1≤c.window∧c.window≤16:=by
 simp [Config.right,Aah,and_assoc]
theorem Config.regions_le {c:Config}:0≤c.regions∧c.regions≤16:=by
 unfold Config.regions;split
 ·rename_i h;obtain ⟨h1,h2,_⟩:=Config.right_iff.1 h;have h3:c.cols=1∨c.cols=2∨c.cols=3∨c.cols=4:=by omega
  rcases h3 with h3|h3|h3|h3<;>rw [h3]<;>omega
 ·omega
theorem Config.width_le {c:Config}:0≤c.width∧c.width≤4096:=by
 unfold Config.width;split
 ·rename_i h;have:=Config.right_iff.1 h;omega
 ·omega
theorem Config.height_le {c:Config}:0≤c.height∧c.height≤4096:=by
 unfold Config.height;split
 ·rename_i h;have:=Config.right_iff.1 h;omega
 ·omega
theorem Config.mul_le {c:Config} (h:c.right=true):1≤c.cols*c.rows∧c.cols*c.rows≤16:=by
 obtain ⟨h1,h2,_⟩:=Config.right_iff.1 h;have h3:c.cols=1∨c.cols=2∨c.cols=3∨c.cols=4:=by omega
 rcases h3 with h3|h3|h3|h3<;>rw [h3]<;>omega
theorem Ads {v lo hi:Int} (h:lo≤hi):lo≤clamp v lo hi∧clamp v lo hi≤hi:=by unfold clamp;split<;>(try split)<;>omega
theorem Ac5 {v k m:Int} (hk:0<k) (h:0≤v) (h2:v<k*m):0≤v.tdiv k∧v.tdiv k<m:=by
 rw [Int.tdiv_eq_ediv_of_nonneg h];refine ⟨Int.ediv_nonneg h (by omega),?_⟩;exact Int.ediv_lt_of_lt_mul hk (by rw [Int.mul_comm];exact h2)
theorem AbX {v k:Int} (hk:0<k) (h:0≤v):0≤v.tmod k∧v.tmod k<k:=by
 rw [Int.tmod_eq_emod_of_nonneg h];exact ⟨Int.emod_nonneg _ (by omega),Int.emod_lt_of_pos _ hk⟩
theorem mul4 {a b:Int} (ha:0≤a∧a≤4) (hb:0≤b∧b≤4):0≤a*b∧a*b≤16:=by
 obtain ⟨h1,h2⟩:=ha;have h3:a=0∨a=1∨a=2∨a=3∨a=4:=by omega
 rcases h3 with h3|h3|h3|h3|h3<;>subst h3<;>omega
end Go.Eva