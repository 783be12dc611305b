/- A reading of the program, proved sound against the model, and what its functions answer by it: part 1. -/
import Derived.Test.YtjkeffbjjepgdaaGreatEva0
import Derived.Laws.Tables
set_option linter.unusedSimpArgs false
set_option linter.unusedVariables false
open List renaming getElem?_eq_some_iff → zh, replicate → zn, getElem?_eq_getElem → zt, getElem?_append_left → qq, getElem?_set_ne → qy, getElem?_append_right → qg, mem_cons → qf, getElem?_map → qb, drop_zero → qr, eq_nil_of_length_eq_zero → qi, append_assoc → ql, map_cons → qo, mem_cons_of_mem → qu, range → jq, length_append → jx, mem_flatMap → jv, mem_append → jp, mem_of_getElem? → jt, getElem?_take → ji, length_cons → j5, length_nil → xk, getElem?_drop → xh, getElem_of_mem → xn, take_of_length_le → vz, nodup_cons → vw, length_pos_iff → vp, length_set → vm, length_map → wj, getElem?_range → wd, getElem_mem → wm, getElem?_cons_succ → yv, getElem?_replicate → yk, getElem?_toArray → ym, append_nil → ye, getElem?_of_mem → ub, mem_of_mem_take → uc, take_zero → un, flatMap_cons → ut, getElem?_set → ue, mem_of_mem_drop → dq, nodup_nil → cw, size_toArray → cf
open Bool renaming and_eq_true → zf, false_eq_true → xq
open Nat renaming eq_of_beq_eq_true → zp, mul_le_mul_right → qj, le_refl → qn, zero_add → jk, le_of_ble_eq_true → jf, add_mul → jc, one_mul → xu, zero_mul → wq, eq_zero_or_pos → wh, add_assoc → wr, lt_or_ge → wo, le_trans → yp, mul_comm → yi, add_zero → y7, eq_of_mul_eq_mul_right → kp, zero_le → d8, div_eq_of_lt → fa, mod_eq_of_lt → fe, mul_add_div → bf, mul_add_mod → bp, sub_zero → b9, mod_lt → cv, sub_mul → mi
open Option.some renaming inj → ze, injEq → j0
open Array renaming getElem?_eq_some_iff → zu, getElem?_eq_getElem → qp, getElem?_toList → xg, getElem?_append_left → yy, toList_zipIdx → y9, getD → ux, range → u3, mem_of_getElem? → km, length_toList → gn, getElem?_extract → py
open Option renaming map_eq_some_iff → qa, getD_none → wc, getD_some → ug, map_some → ul, bind_eq_some_iff → d9
open Go.Eva.T renaming deep → jz
open Go.Eva.Ob renaming arr → jy, isDead → vt, isMap → gj, re → fh
open Go.Builtin renaming zeroCells → je, append_ → xf, lenOf → fo, clear_ → mb, copy_ → m0, len_ → nq
open Go.Sem renaming run_bind → xy
open Ne renaming symm → vf
open List.Sublist renaming refl → wy
open Go.Calls renaming mono → y3
open Go.Eva.Io renaming sh_self → gy
open Go renaming sizeOf → pq
open Go.Instr renaming sliceAt → pc, storeAt → fu, indexAt → cr, fill → m7
open Go.IntKind renaming wrap_i64 → fb
open Int renaming toNat_of_nonneg → bc, natCast_mul → mh
open Go.Addr renaming add_lit → m9
namespace Go.Eva
open Go.RowKit
section
variable {P:Program} {cx:Cx} {S:Task→(Res→Prop)→Prop} {w:World} {ι:Io} {F:Nat→Prop} {H:Heap}
theorem Aej (hg:Good ι F w H) {id b:Nat} {o o':Ob} {cur new:Array Value} {e:TypeId} (fp:List Nat) (hfp:fp.Sublist (ι.hid id)) (ho:H[id]?=some o) (hr:o.ro=false) (hb:ι id=some b) (_hh:w.heap[b]?=some (.cells cur e (0,0)))
  (hlike:Like ι (ι.sh id fp) w (w.setRow b new) id o o') (hro:o'.isDead=false→o'.ro=o.ro)
  (hob:(∀i oi,H[i]?=some oi→ ∃o'',(H.set id o')[i]?=some o''∧Like ι (ι.sh id fp) w (w.setRow b new) i oi o'')→(∀b',(F b'∨b'∈ι.hid id)→(w.setRow b new).heap[b']?=w.heap[b']?)→ObR (ι.sh id fp) F (w.setRow b new) (H.set id o') id o'):
  Good (ι.sh id fp) F (w.setRow b new) (H.set id o')∧Step ι F H w (ι.sh id fp) F (H.set id o') (w.setRow b new):=by
 refine AfZ hg fp ho (fun _=>hfp) rfl rfl rfl (by simp) ?_ hlike hro (fun hl=>hob hl ?_)
 ·intro b' hb';refine setRow_other w b b' new ?_;intro e;subst e;rcases hb' with h|h
  ·rw [hr] at h;contradiction
  ·exact h hb
 ·intro b' hf;refine setRow_other w b b' new ?_;intro e;subst e;rcases hf with hf|hf
  ·exact hg.sep b' ⟨id,o,ho,hr,.inl hb⟩ hf
  ·exact (hg.nd id o ho (Aa4 hr)).2 b' hb hf
theorem AhS (hg:Good ι F w H) {id b:Nat} {o o':Ob} {cur new:Array Value} {e:TypeId} (ho:H[id]?=some o) (hr:o.ro=false) (hb:ι id=some b) (hh:w.heap[b]?=some (.cells cur e (0,0)))
  (hlike:Like ι ι w (w.setRow b new) id o o') (hro:o'.isDead=false→o'.ro=o.ro)
  (hob:(∀i oi,H[i]?=some oi→ ∃o'',(H.set id o')[i]?=some o''∧Like ι ι w (w.setRow b new) i oi o'')→(∀b',F b'→(w.setRow b new).heap[b']?=w.heap[b']?)→ObR ι F (w.setRow b new) (H.set id o') id o'):
  Good ι F (w.setRow b new) (H.set id o')∧Step ι F H w ι F (H.set id o') (w.setRow b new):=by
 have:=Aej hg (ι.hid id) (wy _) ho hr hb hh (by rw [gy];exact hlike) hro (by rw [gy];exact fun hl hf=>hob hl fun b' h=>hf b' (.inl h))
 rwa [gy] at this
theorem Ai1 {f g:Nat→List Nat} (h: ∀k,g k= []∨g k=f k): ∀l:List Nat,(l.flatMap g).Sublist (l.flatMap f)
 | []=>wy _
 |x::r=>by
  rw [ut,ut];refine List.Sublist.append ?_ (Ai1 h r);rcases h x with h|h<;>rw [h]
  ·exact List.nil_sublist _
  ·exact wy _
theorem Ajm {f g:Nat→List Nat} (h: ∀k,(g k).Sublist (f k)): ∀l:List Nat,(l.flatMap g).Sublist (l.flatMap f)
 | []=>wy _
 |x::r=>by
  rw [ut,ut];exact (h x).append (Ajm h r)
def cutF (fp:Nat→List Nat) (j n:Nat):Nat→List Nat:=fun k=>if j≤k∧k<j+n then [] else fp k
theorem AkS (fp:Nat→List Nat) (j n:Nat) (l:List Nat):(l.flatMap (cutF fp j n)).Sublist (l.flatMap fp):=by
 refine Ai1 (fun k=> ?_) l;unfold cutF;split
 ·exact .inl rfl
 ·exact .inr rfl
theorem AhA {ι':Io} {w':World} {H':Heap} {old v v':V} {u:Value} {cur new:Array Value} {k0 j s:Nat} {fp:Nat→List Nat} (hl: ∀id o,H[id]?=some o→ ∃o',H'[id]?=some o'∧Like ι ι' w w' id o o') (hF: ∀b,F b→w'.heap[b]?=w.heap[b]?)
  (hh: ∀k,k<s→ ∀b∈fp k,w'.heap[b]?=w.heap[b]?) (hv':v'.cells=over old.cells j v.cells) (hos:old.cells.length=s) (hfit:j+v.cells.length≤s) (hv:VR ι F w H v u) (hvn:v≠ .t .any) (hvl:v.cells.length=u.cells.size)
  (hnew: ∀k:Nat,new[k]?=if k0+j≤k∧k<k0+j+u.cells.size then u.cells[k-(k0+j)]? else cur[k]?)
  (hold: ∀(m:Nat) x c,old.cells[m]?=some x→cur[k0+m]?=some c→HC ι F w H x c (fp m)):
  ∀(m:Nat) x c,v'.cells[m]?=some x→new[k0+m]?=some c→HC ι' F w' H' x c (cutF fp j u.cells.size m):=by
 intro m x c hx hc;rw [hv',AbI _ _ _ (by omega)] at hx;rw [hnew] at hc;by_cases hin:j≤m∧m<j+v.cells.length
 ·rw [if_pos hin] at hx;rw [if_pos (by omega),show k0+m-(k0+j)=m-j by omega] at hc;unfold cutF;rw [if_pos (by omega)];exact .v _ _ ((hv.cells hvn (m-j) x c hx hc).mono (fun _ h=>h) hF hl)
 ·rw [if_neg hin] at hx;rw [if_neg (by omega)] at hc;have hm:m<s:=by have:=(zh.1 hx).1;omega
  unfold cutF;rw [if_neg (by omega)];exact (hold m x c hx hc).mono (fun _ h=>h) hF hl (hh m hm)
theorem Abc {α:Type} {b:Bool} {q:Q α} {R:α→Prop} (h:wpQ S (onlyIf b q) R):b=true∧wpQ S q R:=by
 cases b with
 |true=>exact ⟨rfl,h⟩
 |false=>exact h.elim
theorem AnQ {v:V} (h:notAny v=true):v≠ .t .any:=by rintro rfl;simp [notAny] at h
theorem Ald {size s j:Nat} {v:V} (h:fitsV size s j v=true):v.size=size∧j+v.size≤s∧v≠ .t .any:=by
 simp only [fitsV,zf] at h;exact ⟨zp h.1.1,jf h.1.2,AnQ h.2⟩
theorem Alc {size s j:Nat} {x:T} (h:fitsT size s j x=true):x.cells.length=size∧j+x.cells.length≤s∧x≠ .any:=by
 simp only [fitsT,zf] at h;refine ⟨zp h.1.1,jf h.1.2,?_⟩;rintro rfl;simp [notAny] at h
theorem AmG (hc:CxTy P cx) (hg:Good ι F w H) {t:Nat} {i:TI} (hi:cx.ti.get t=some i) {a v:V} {av u:Value} {R:Heap→Prop} (h:wpQ S (storeAt cx t a v H) R) (ha:VR ι F w H a av) (hv:VR ι F w H v u):
  ∃H' ι' F' w',R H'∧Good ι' F' w' H'∧Step ι F H w ι' F' H' w'∧(fu t av u).run P w= .ok () w':=by
 unfold storeAt at h;split at h
 ·rename_i id k j;rw [Aae] at h;split at h
  ·rename_i s old ho;split at h
   ·split at h
    ·rename_i hal;obtain ⟨hsz,hfit,hne⟩:=Ald (Abc h).1;replace h:=(Abc h).2;obtain ⟨h1,h2,_,b,cur,e,fp,h3,h4,h5,h6,h7,h8⟩:=hg.obj id _ ho;cases ha with
     |ptr _ _ _ _ hp=>
     unfold OwnPtr at hp;rw [ho] at hp;obtain ⟨b',hb',rfl⟩:=hp;rw [h3] at hb';obtain rfl:=ze hb';obtain ⟨g1,g2⟩:=hv.shape hne hal;have hvl:v.cells.length=v.size:=rfl;have hol:old.cells.length=old.size:=rfl;have huz:u.cells.size=sizeOf cx t:=by rw [←g1,←hsz];rfl
     obtain ⟨v',k1,k3,k4⟩:=Aof (Aaa _ _ _ h) h2 hne hsz hfit (by
      intro i y hy;rw [AbI _ _ _ (by omega)] at hy;split at hy
      ·have hlt:=(zh.1 hy).1;have hc:u.cells[i-j]?=some (u.cells[i-j]'(by omega)):=by simp
       exact (hv.cells hne _ _ _ hy hc).single (g2 _ _ hc)
      ·have hlt:=(zh.1 hy).1;have hc:cur[i]?=some (cur[i]'(by omega)):=by simp
       exact (h7 i y _ hy hc).single (h6 i _ hc))
     obtain ⟨hid,k1⟩:=Aap k1;have hrun:=Ac1 (P:=P) hc hi h4 huz (by omega) g2 (o:=j);have hget:=Ad1 cur j u.cells.toList (by simp;omega);have hsize:=Ac4 cur j u.cells.toList (by simp;omega);generalize hnew:(cur.toList.take j++u.cells.toList++cur.toList.drop (j+u.cells.toList.length)).toArray=new at*;obtain ⟨q1,q2⟩:=Aej hg (o':= .one s v' false) (new:=new) ((jq s).flatMap (cutF fp j u.cells.size)) (by rw [h8];exact AkS fp j _ _) ho rfl h3 h4 (.inr ⟨rfl,v',false,rfl⟩) (fun _=>rfl) (fun hl hf=>by
      refine ⟨k3,?_,by simp,b,new,e,cutF fp j u.cells.size,h3,setRow_heap w b _ _ _ _ h4,by omega,?_,?_,Io.sh_eq.2⟩
      ·show v'.cells.length=s;rw [k4,Acv _ _ _ (by omega)];exact h2
      ·intro i c hci;rw [hget] at hci;split at hci
       ·exact g2 _ c (by simpa using hci)
       ·exact h6 i c hci
      ·intro m x c hx hcc;exact AhA (k0:=0) (s:=s) (cur:=cur) hl (fun b hb=>hf b (.inl hb)) (fun k hk b hb=>hf b (.inr (by rw [h8];exact jv.2 ⟨k,by simpa using hk,hb⟩))) k4 (by omega) (by omega) hv hne (by omega)
        (fun k=>by rw [hget];simp) (fun m x c hx hc=>h7 m x c hx (by simpa using hc)) m x c hx (by simpa using hcc))
     exact ⟨_,_,F,_,k1,q1,q2,hrun⟩
    ·exact h.elim
   ·exact h.elim
  ·rename_i s xs0 sp0 ho;obtain ⟨x,H1,F1,t1,t2,t3,t4,t5⟩:=Aia hg (Aaa _ _ _ h) hv;simp only [Aae] at t1;split at t1
   ·rename_i s' xs sp ho1;obtain ⟨hsz,hfit,hne⟩:=Alc (Abc t1).1;replace t1:=(Abc t1).2;have ha1:=t3.vr hg ha;cases ha1 with
    |ptr _ _ _ _ hp=>
    unfold OwnPtr at hp;rw [ho1] at hp;obtain ⟨hlt,b,hb,rfl⟩:=hp;obtain ⟨o'',hl1,hl2⟩:=t3.like id _ ho;rw [ho1] at hl1;obtain rfl:=ze hl1;have hss:s'=s:=by
     rcases hl2 with h|⟨_,_,xs',sp',ro',he,_⟩
     ·contradiction
     ·injection he
    subst hss;obtain ⟨h0,hhid,hblk⟩:=t2.obj id _ ho1;rcases hblk with ⟨hi0,rfl,_⟩|⟨b',cs,e,hi1,hh,h3,h4,⟨m,hm⟩,h6,c,g1,g2,g3⟩
    ·simp at hlt
    ·rw [hb] at hi1;obtain rfl:=ze hi1;obtain ⟨kc1,kc2⟩:=t4.cells hne;have huz:u.cells.size=sizeOf cx t:=by rw [←kc1,hsz]
     have hu1: ∀(i:Nat) c,u.cells[i]?=some c→c.oneCell'=true:=by
      intro i d hd;cases t4 with
      |any=>exact absurd rfl hne
      |agg vs ds hl ho hc=>exact ho i d hd
      |pin _ h=>
       have e1:u.cells= #[u]:=(TR.pin (F:=F) (w:=w) u h).one (by simp) (by simp);rw [e1] at hd;cases i<;>simp at hd;subst hd;exact h
      |_=>cases i<;>simp [Value.cells] at hd;subst hd;rfl
     have hk:(k+1)*s'≤xs.length*s':=qj _ hlt;rw [jc,xu] at hk;have hrun:=Ac1 (P:=P) hc hi hh huz (by omega) hu1 (o:=k*s'+j);have hget:=Ad1 cs (k*s'+j) u.cells.toList (by simp;omega);have hsize:=Ac4 cs (k*s'+j) u.cells.toList (by simp;omega);generalize hnew:(cs.toList.take (k*s'+j)++u.cells.toList++cs.toList.drop (k*s'+j+u.cells.toList.length)).toArray=new at*;have fin: ∀y,y≠ .any→y.cells.length=s'→(∀(i:Nat) t,y.cells[i]?=some t→TR F1 w t (if j≤i∧i<j+u.cells.size then u.cells.getD (i-j) undef else c k i))→
       Good ι F1 (w.setRow b new) (H1.set id (.arr s' (xs.set k y) sp false))∧Step ι F1 H1 w ι F1 (H1.set id (.arr s' (xs.set k y) sp false)) (w.setRow b new):=by
      intro y hyn hyl hyc;refine AhS t2 ho1 rfl hb hh (.inr ⟨rfl,fun b' hb'=> ?_,xs.set k y,sp,false,rfl,by simp⟩) (fun _=>rfl) (fun hl hf=> ?_)
      ·rw [hb] at hb';obtain rfl:=ze hb';unfold blk;rw [setRow_heap w b _ _ _ _ hh,hh];exact hsize
      ·have hnc: ∀n,(w.setRow b new).cell? ⟨b,n,none⟩=new[n]?:=fun n=>cell_of_row _ b n _ e _ (setRow_heap w b _ _ _ _ hh);have hoc: ∀n,w.cell? ⟨b,n,none⟩=cs[n]?:=fun n=>cell_of_row _ b n _ e _ hh;have div: ∀i j',i<xs.length→j'<s'→(k*s'+j≤i*s'+j'∧i*s'+j'<k*s'+j+u.cells.size↔i=k∧j≤j'∧j'<j+u.cells.size):=by
        intro i j' hi hj';constructor
        ·rintro ⟨h1,h2⟩;have hik:i=k:=by
          rcases Nat.lt_trichotomy i k with hlt|rfl|hgt
          ·have:=qj s' (show i+1≤k from hlt);rw [jc,xu] at this;omega
          ·rfl
          ·have:=qj s' (show k+1≤i from hgt);rw [jc,xu] at this;omega
         subst hik;omega
        ·rintro ⟨rfl,h1,h2⟩;omega
       refine ⟨h0,hhid,.inr ⟨b,new,e,hb,setRow_heap w b _ _ _ _ hh,by simp;omega,by simpa [hsize] using h4,⟨m,by omega⟩,?_,fun i j'=>if i=k∧j≤j'∧j'<j+u.cells.size then u.cells.getD (j'-j) undef else c i j',?_,?_,?_⟩⟩
       ·intro n d hd;rw [hget] at hd;split at hd
        ·exact hu1 _ d (by simpa using hd)
        ·exact h6 n d hd
       ·intro i j' hi hj';simp at hi;rw [hnc,hget];simp only [gn];by_cases hin:i=k∧j≤j'∧j'<j+u.cells.size
        ·rw [if_pos ((div i j' hi hj').2 hin),if_pos hin];have hlt':j'-j<u.cells.size:=by omega
         have hgg:u.cells[j'-j]?=some u.cells[j'-j]:=by simp
         have hidx:i*s'+j'-(k*s'+j)=j'-j:=by obtain ⟨rfl,_⟩:=hin;omega
         rw [hidx];have ed:u.cells.getD (j'-j) undef=u.cells[j'-j]:=by unfold ux;rw [dif_pos hlt'];rfl
         rw [ed];exact ⟨by simp [hgg],hu1 _ _ hgg⟩
        ·rw [if_neg (fun hh=>hin ((div i j' hi hj').1 hh)),if_neg hin,←hoc];exact g1 i j' hi hj'
       ·intro i x' hx' hne';rw [ue] at hx';split at hx'
        ·rename_i hik;subst hik;simp at hx';subst hx';exact hyl
        ·exact g2 i x' hx' hne'
       ·intro i j' x' t' hx' hne' ht';rw [ue] at hx';split at hx'
        ·rename_i hik;subst hik;simp at hx';subst hx';have:=(hyc j' t' ht').mono (F':=F1) (w':=w.setRow b new) (fun _ h=>h) hf;simpa using this
        ·rename_i hik;have:=(g3 i j' x' t' hx' hne' ht').mono (F':=F1) (w':=w.setRow b new) (fun _ h=>h) hf;show TR F1 _ t' (if i=k∧j≤j'∧j'<j+u.cells.size then u.cells.getD (j'-j) undef else c i j');rw [if_neg (fun hh=>hik hh.1.symm)];exact this
     split at t1
     ·rename_i hw;simp only [zf,Bool.not_eq_true'] at hw;have hj:=zp hw.1.1.2;have hs:=zp hw.1.2;subst hj;obtain ⟨_,t1⟩:=t1;obtain ⟨_,t1⟩:=Aap t1;obtain ⟨q1,q2⟩:=fin x hne (by omega) (by
       intro i t' ht';have hlt':i<u.cells.size:=by rw [←kc1];exact (zh.1 ht').1
       rw [if_pos (by omega)];have hgg:u.cells[i]?=some u.cells[i]:=by simp
       have:=kc2 i t' _ ht' hgg;simpa [hlt'] using this)
      exact ⟨_,_,F1,_,t1,q1,t3.trans q2,hrun⟩
     ·obtain ⟨old,hold,hon,t1⟩:=t1;obtain ⟨y,r1,r2,r3,r4⟩:=Aoe (c:=c k) (Aaa _ _ _ t1) hon (g2 k old hold hon) h0 (fun i t' ht'=>g3 k i old t' hold hon ht') (fun i hi=>(g1 k i hlt hi).2) t4 hne hsz huz hu1 hfit;obtain ⟨_,r1⟩:=Aap r1;obtain ⟨q1,q2⟩:=fin y r2 r3 r4;exact ⟨_,_,F1,_,r1,q1,t3.trans q2,hrun⟩
   ·exact t1.elim
  ·rename_i s xs ps ho;split at h
   ·rename_i hal;obtain ⟨hsz,hfit,hne⟩:=Ald (Abc h).1;replace h:=(Abc h).2;cases ha with
    |ptr _ _ _ _ hp=>
    unfold OwnPtr at hp;rw [ho] at hp;obtain ⟨hk,b',hb',rfl⟩:=hp;obtain ⟨h0,ht,hob⟩:=hg.obj id _ ho;rcases hob with ⟨h3,_⟩|⟨b,cur,e,fp,h3,h4,h5,h6,h7,h9,h10,h8⟩
    ·rw [hb'] at h3;contradiction
    rw [h3] at hb';obtain rfl:=ze hb';obtain ⟨g1,g2⟩:=hv.shape hne hal;have hvl:v.cells.length=v.size:=rfl;have huz:u.cells.size=sizeOf cx t:=by rw [←g1,←hsz];rfl
    have hle:k*s+s≤cur.size:=by
     have:(k+1)*s≤xs.length*s:=qj s (by omega);rw [jc,xu] at this;omega
    obtain ⟨r,h,n1,n2,n3⟩:=Ab7 h ht.1;have key: ∀old,memP ps xs k=some old→wpQ S ((putV cx t s old j v).bind fun v=>laidV id s xs r k v H) R→
      ∃H' ι' F' w',R H'∧Good ι' F' w' H'∧Step ι F H w ι' F' H' w'∧(fu t (.pointer (some ⟨b,k*s+j,none⟩)) u).run P w= .ok () w':=by
     intro old hold h;obtain ⟨hon,hos⟩:=h9 k old hold;have hol:old.cells.length=s:=hos;obtain ⟨v',k1,k3,k4⟩:=Aof (Aaa _ _ _ h) hos hne hsz hfit (by
      intro i y hy;rw [AbI _ _ _ (by omega)] at hy;split at hy
      ·have hlt:=(zh.1 hy).1;have hc:u.cells[i-j]?=some (u.cells[i-j]'(by omega)):=by simp
       exact (hv.cells hne _ _ _ hy hc).single (g2 _ _ hc)
      ·have hlt:=(zh.1 hy).1;have hc:cur[k*s+i]?=some (cur[k*s+i]'(by omega)):=by simp
       exact (h10 k i old y _ hold hy hc).single (h7 _ _ hc))
     have hvs:v'.cells.length=s:=by rw [k4,Acv _ _ _ (by omega)];exact hol
     have hrun:=Ac1 (P:=P) hc hi h4 huz (by omega) g2 (o:=k*s+j);have hget:=Ad1 cur (k*s+j) u.cells.toList (by simp;omega);have hsize:=Ac4 cur (k*s+j) u.cells.toList (by simp;omega);generalize hnew:(cur.toList.take (k*s+j)++u.cells.toList++cur.toList.drop (k*s+j+u.cells.toList.length)).toArray=new at*
     let fp':Nat→Nat→List Nat:=fun i=>if i=k then cutF (fp k) j u.cells.size else fp i
     have hmem: ∀(i:Nat) (y:V),memP ((k,v')::r) xs i=some y→(i=k∧y=v')∨(i≠k∧memP ps xs i=some y):=by
      intro i y hy;by_cases hik:i=k
      ·subst hik;rw [AaB] at hy;exact .inl ⟨rfl,(ze hy).symm⟩
      ·rw [AaJ hik,Adv (n3 i hik)] at hy;exact .inr ⟨hik,hy⟩
     obtain ⟨q1,q2⟩:=Aej hg (o':= .vec s xs ((k,v')::r)) (new:=new) ((jq xs.length).flatMap fun i=>(jq s).flatMap (fp' i)) (by
      rw [h8];refine Ajm (fun i=> ?_) _;by_cases hik:i=k
      ·subst hik;simp only [fp',if_true];exact AkS _ _ _ _
      ·simp only [fp',hik,if_false];exact wy _) ho rfl h3 h4 (.inr ⟨rfl,fun b hb=>by
       unfold blk;rw [h3] at hb;obtain rfl:=ze hb;rw [setRow_heap w b _ _ _ _ h4,h4];exact hsize,xs,_,rfl,rfl⟩) (fun _=>rfl) (fun hl hf=>by
      refine ⟨h0,AeQ ht hk n1 n2,.inr ⟨b,new,e,fp',h3,setRow_heap w b _ _ _ _ h4,by omega,by obtain ⟨m,hm⟩:=h6;exact ⟨m,by omega⟩,?_,?_,?_,Io.sh_eq.2⟩⟩
      ·intro i c hci;rw [hget] at hci;split at hci
       ·exact g2 _ c (by simpa using hci)
       ·exact h7 i c hci
      ·intro i y hy;rcases hmem i y hy with ⟨rfl,rfl⟩|⟨_,hy⟩
       ·exact ⟨k3,hvs⟩
       ·exact h9 i y hy
      ·intro i m y x c hy hx hcc;have hfp: ∀i'<xs.length,∀m'<s,∀b∈fp i' m',(w.setRow _ new).heap[b]?=w.heap[b]?:=fun i' hi' m' hm' b hb=>hf b (.inr (by
        rw [h8];exact jv.2 ⟨i',by simpa using hi',jv.2 ⟨m',by simpa using hm',hb⟩⟩))
       rcases hmem i y hy with ⟨rfl,rfl⟩|⟨hik,hy⟩
       ·simp only [fp',if_true];exact AhA (k0:=i*s) (s:=s) (cur:=cur) hl (fun b hb=>hf b (.inl hb)) (fun m hm b hb=>hfp i hk m hm b hb) k4 (by omega) (by omega) hv hne (by omega)
         (fun k=>by rw [hget];simp) (fun m x c hx hc=>h10 i m old x c hold hx hc) m x c hx hcc
       ·simp only [fp',hik,if_false];have hm:m<s:=by have h1:=(zh.1 hx).1;have h2:=(h9 i y hy).2;have h3:y.cells.length=y.size:=rfl;omega
        have hi':=Abv ht hy;have hne': ¬(k*s+j≤i*s+m∧i*s+m<k*s+j+u.cells.toList.length):=by
         intro hh;rcases Nat.lt_trichotomy i k with hlt|rfl|hgt
         ·have:=qj s (show i+1≤k from hlt);rw [jc,xu] at this;omega
         ·exact hik rfl
         ·have:=qj s (show k+1≤i from hgt);rw [jc,xu] at this;simp at hh;omega
        rw [hget,if_neg hne'] at hcc;exact (h10 i m y x c hy hx hcc).mono (fun _ h=>h) (fun b hb=>hf b (.inl hb)) hl (hfp i hi' m hm))
     unfold laidV at k1;split at k1
     ·rename_i x;replace k1:wpQ S (setH H id (.vec s (xs.set k x) r)) R:=k1;obtain ⟨hid,k1⟩:=Aap k1;obtain ⟨q3,q4⟩:=AeM q1 (List.getElem?_set_self hid);rw [List.set_set] at q3 q4;exact ⟨_,_,F,_,k1,q3,q2.trans q4,hrun⟩
     ·obtain ⟨hid,k1⟩:=Aap k1;exact ⟨_,_,F,_,k1,q1,q2,hrun⟩
    split at h
    ·rename_i old hf;exact key old (by unfold memP;rw [hf]) h
    ·rename_i hf;obtain ⟨x,hx,_,h⟩:=h;exact key (.t x) (by unfold memP;rw [hf,hx];rfl) h
   ·exact h.elim
  ·exact h.elim
 ·rename_i b j;obtain rfl:=ha.pin_inv;obtain ⟨x,H1,F1,t1,t2,t3,t4,t5⟩:=Aia hg (Aaa _ _ _ h) hv;obtain ⟨id,bs,xs,k,ho1,hb,t1⟩:=AlA t1;obtain ⟨old,hold,hon,t1⟩:=t1;obtain ⟨hsz,hfit,hne⟩:=Alc (Abc t1).1;replace t1:=(Abc t1).2;obtain ⟨⟨p1,p0,p2⟩,p3⟩:=t2.obj id _ ho1;obtain ⟨⟨_,hpos⟩,cs,e,hh,hcs,h6,h7⟩:=p3 k old b hold hb;obtain ⟨kc1,kc2⟩:=t4.cells hne;have huz:u.cells.size=sizeOf cx t:=by rw [←kc1,hsz]
  have hu1: ∀(i:Nat) c,u.cells[i]?=some c→c.oneCell'=true:=by
   intro i d hd;cases t4 with
   |any=>exact absurd rfl hne
   |agg vs ds hl ho hc=>exact ho i d hd
   |pin _ h=>
    have e1:u.cells= #[u]:=(TR.pin (F:=F) (w:=w) u h).one (by simp) (by simp);rw [e1] at hd;cases i<;>simp at hd;subst hd;exact h
   |_=>cases i<;>simp [Value.cells] at hd;subst hd;rfl
  have hrun:=Ac1 (P:=P) hc hi hh huz (by omega) hu1 (o:=j);have hget:=Ad1 cs j u.cells.toList (by simp;omega);have hsize:=Ac4 cs j u.cells.toList (by simp;omega);generalize hnew:(cs.toList.take j++u.cells.toList++cs.toList.drop (j+u.cells.toList.length)).toArray=new at*;have hcg: ∀i,i<cs.size→cs[i]?=some (cs.getD i undef):=fun i hi=>by simp [hi]
  obtain ⟨y,r1,r2,r3,r4⟩:=Aoe (c:=fun i=>cs.getD i undef) (Aaa _ _ _ t1) hon rfl hpos (fun i t' ht'=>h7 i t' _ ht' (hcg i (by have:=(zh.1 ht').1;omega))) (fun i hi=>h6 i _ (hcg i (by omega))) t4 hne hsz huz hu1 hfit;replace r1:wpQ S (setH H1 id (.pool bs (xs.set k y))) R:=r1;obtain ⟨_,r1⟩:=Aap r1;have hnd:=(t2.nd id _ ho1 rfl).1;have hB:Blk ι id b:= .inr (by rw [p0];exact jt hb);have hFb: ∀b',F1 b'→b'≠b:=fun b' hf e'=>t2.sep b ⟨id,_,ho1,rfl,hB⟩ (e' ▸ hf);obtain ⟨q1,q2⟩:=AiJ (w':=w.setRow b new) (o':= .pool bs (xs.set k y)) t2 (ι.hid id) ho1 (fun _=>wy _) rfl rfl rfl (by simp) (fun b' hb'=>setRow_other w b b' new (fun e'=>by
    subst e';rcases hb' with h|h
    ·simp [Ob.ro] at h
    ·exact h hB)) (.inr ⟨by rw [gy],_,_,rfl⟩) (fun _=>rfl) (fun hl=>by
   rw [gy];refine ⟨⟨p1,p0,by simpa using p2⟩,fun i x' b' hx' hb'=> ?_⟩;rw [ue] at hx';split at hx'
   ·rename_i hik;subst hik;split at hx'
    ·simp only [j0] at hx';subst hx';rw [hb] at hb';obtain rfl:=ze hb';refine ⟨⟨r2,by omega⟩,new,e,setRow_heap w b _ _ _ _ hh,by omega,fun i c hci=> ?_,fun i t' c ht' hc'=> ?_⟩
     ·rw [hget] at hci;split at hci
      ·exact hu1 _ c (by simpa using hci)
      ·exact h6 i c hci
     ·have h1:=(r4 i t' ht').mono (F':=F1) (w':=w.setRow b new) (fun _ h=>h) (fun b' hb'=>setRow_other w b b' new (hFb b' hb'));rw [hget] at hc';simp only [gn] at hc';by_cases hin:j≤i∧i<j+u.cells.size
      ·rw [if_pos hin] at h1 hc';have hlt':i-j<u.cells.size:=by omega
       simp [hlt'] at h1 hc';rw [←hc'];exact h1
      ·rw [if_neg hin] at h1 hc';rw [hcg i (zu.1 hc').1] at hc';rw [←ze hc'];exact h1
    ·simp at hx'
   ·rename_i hik;obtain ⟨m1,cs',e',m2,m3,m4,m5⟩:=p3 i x' b' hx' hb';have hbb:b'≠b:=fun e'=>hik (by
     subst e';exact (AgH hnd (by rw [p0];exact hb) (by rw [p0];exact hb')))
    exact ⟨m1,cs',e',by rw [setRow_other w b b' new hbb];exact m2,m3,m4,fun i t' c ht' hc'=>(m5 i t' c ht' hc').mono (fun _ h=>h) (fun b' hb'=>setRow_other w b b' new (hFb b' hb'))⟩)
  rw [gy] at q1 q2;exact ⟨_,_,F1,_,r1,q1,t3.trans q2,hrun⟩
 ·exact h.elim
end
end Go.Eva
namespace Go.Eva
open Go.RowKit
section
variable {P:Program} {cx:Cx} {S:Task→(Res→Prop)→Prop} {w:World} {ι:Io} {F:Nat→Prop} {H:Heap}
variable {o:Oper} {e:Env} {a:Act} {R:V×Heap→Prop} {Q:Exit→Act→World→Prop}
theorem Api (hc:CxTy P cx) (hg:Good ι F w H) (hs:Sim ι F w H e a) (t:Nat) (x y:Operand) (ho:o.op= .store t x y) (ht: ∃i,cx.ti.get t=some i) (h:wpQ S (opQ cx o e H) R):
  o.wp P a w (OpPost R o ι F H w a) Q:=by
 unfold opQ at h;rw [ho] at h;simp only at h;obtain ⟨i,hi⟩:=ht;obtain ⟨v,h1,h2⟩:=AbN (Aaa _ _ _ h) (Aaj hs y);obtain ⟨H',ι',F',w',k1,k2,k3,k4⟩:=AmG hc hg hi (Aaa _ _ _ h1) (Aaj hs x) h2;have hrun:(execOp a.eval o).run P w= .ok .skip w':=by
  unfold execOp;rw [ho];show ((fu t (a.eval x) (a.eval y))>>=fun _=>pure Next.skip).run P w=_;rw [xy,k4];rfl
 unfold Oper.wp;rw [hrun];exact ⟨_,H',ι',F',undef,k1,rfl,k2,k3,.tup [] #[] rfl (by simp)⟩
theorem AqA {id s b:Nat} {v:V} {u:Value} {e:TypeId} {ro:Bool} (hne:v≠ .t .any) (hsz:v.size=s) (hb:ι id=some b) (hid:ι.hid id= []) (hh:w.heap[b]?=some (.cells u.cells e (0,0))) (hv:VR ι F w H v u) (hs:u.cells.size=s)
  (h1: ∀(i:Nat) c,u.cells[i]?=some c→c.oneCell'=true):ObR ι F w H id (.one s v ro):=
 ⟨hne,hsz,fun _=>hid,b,u.cells,e,fun _=> [],hb,hh,hs,h1,fun j x c hx hc=> .v _ _ (hv.cells hne j x c hx hc),by rw [hid];simp⟩
theorem Aj2 (hg:Good ι F w H) {t:Nat} {v:V} {u:Value} (h:wpQ S (newOne cx t v H) R) (hv:VR ι F w H v u):
  ∃ι' H' v',R (v',H')∧Good ι' F (w.alloc (.cells u.cells t)) H'∧Step ι F H w ι' F H' (w.alloc (.cells u.cells t))∧VR ι' F (w.alloc (.cells u.cells t)) H' v' (.pointer (some ⟨w.heap.size,0,none⟩)):=by
 unfold newOne at h;split at h
 ·exact h.elim
 ·rename_i v0 _ bb hna hb;simp only [zf] at hb;have hsz:=zp hb.1;have hne:v0≠ .t .any:=fun e=>hna e;have h1:=AaU (Aaa _ _ _ h);have h2:=Aar (Aaa _ _ _ h1);obtain ⟨g1,g2⟩:=hv.shape hne hb.2;have hl:=Adc (ob:= .one (sizeOf cx t) v0 false) (o:= .cells u.cells t (0,0)) (b:=some w.heap.size) hg.lt;obtain ⟨q1,q2⟩:=AbY hg (.one (sizeOf cx t) v0 false) u.cells t rfl
   (AqA hne hsz Aak.1 Aak.2 Aau (hv.mono (fun _ h=>h) (fun b hb=>Aai (hg.fin b hb)) hl) (by rw [←g1,←hsz];rfl) g2)
  refine ⟨_,_,_,h2,q1,q2,.ptr _ _ _ _ ?_⟩;unfold OwnPtr;simp only [qg (qn _),Nat.sub_self,List.getElem?_cons_zero];exact ⟨w.heap.size,Aak.1,rfl⟩
 ·exact h.elim
theorem Ap8 (hg:Good ι F w H) (hs:Sim ι F w H e a) (t:Nat) (x:Operand) (ho:o.op= .box t x) (h:wpQ S (opQ cx o e H) R):
  o.wp P a w (fun a' w'=>OpPost R o ι F H w a a' w'∧OldSame w w') Q:=by
 unfold opQ at h;rw [ho] at h;simp only at h;obtain ⟨v,h1,h2⟩:=AbN (Aaa _ _ _ h) (Aaj hs x);obtain ⟨ι',H',v',k1,k2,k3,k4⟩:=Aj2 hg h1 h2;refine Aaw ?_ ⟨⟨v',H',ι',F,_,k1,rfl,k2,k3,k4⟩,.alloc w _⟩;simp [execOp,ho,Instr.box,newVar,newRow]
theorem Alz (hc:CxTy P cx) (hg:Good ι F w H) (t:Nat) (ho:o.op= .alloc t) (h:wpQ S (opQ cx o e H) R):
  o.wp P a w (fun a' w'=>OpPost R o ι F H w a a' w'∧OldSame w w') Q:=by
 unfold opQ at h;rw [ho] at h;simp only at h;split at h
 ·rename_i z hz;have h1:=Aav (Aaa _ _ _ h);have: ∃i,cx.ti.get t=some i:=by
   cases hq:cx.ti.get t with
   |some i=>exact ⟨i,rfl⟩
   |none=>unfold depth zeroV at hz;simp [hq] at hz
  obtain ⟨i,hi⟩:=this;obtain ⟨inf,d,c1,c2,c3,c4,c5,c6,c7⟩:=hc.ty t i hi;obtain ⟨zv,d1,d2⟩:=c7;have d2:=d2 z hz;obtain ⟨ι',H',v',k1,k2,k3,k4⟩:=Aj2 hg h1 (d2.1 ι F w H);refine Aaw ?_ ⟨⟨v',H',ι',F,_,k1,rfl,k2,k3,k4⟩,.alloc w _⟩;simp [execOp,ho,Instr.alloc,newVar,newRow,zeroValue,typeInfo,c1,d1]
 ·exact h.elim
theorem AgA {α:Type} {v:V} {u:Value} {k:Nat→Eva.Q α} {R:α→Prop} (h:wpQ S (idx v k) R) (hv:VR ι F w H v u): ∃kd n,u= .int kd n∧0≤n∧wpQ S (k n.toNat) R:=by
 unfold idx at h;split at h
 ·rename_i kd n;exact ⟨kd,n,hv.t_inv.int_inv,h.1,h.2⟩
 ·exact h.elim
theorem Ac0 {t el:Nat} (hc:CxTy P cx) (he:elemTy cx t=some el) {p:Addr} {len cap:Nat} {kd:IntKind} {n:Int} (h0:0≤n) (hn:n.toNat<len):
  (cr t (.slice (some p) len cap) (.int kd n)).run P w= .ok (.pointer (some (p.add (n.toNat*sizeOf cx el)))) w:=by
 obtain ⟨h1,i,inf,h2,h3,h4,h5,h6,h7,h8⟩:=AbA hc he;have hs:=Aa8 hc h2 w;have hnn:n<len:=by omega
 simp [cr,run_underlying h1,asIntOf,h0,hnn,hs]
theorem An5 (hc:CxTy P cx) (hg:Good ι F w H) {t el:Nat} (he:elemTy cx t=some el) {v iv:V} {u iu:Value} {R:V→Prop} (h:wpQ S (indexV (sizeOf cx el) v iv H) R) (hv:VR ι F w H v u) (hiv:VR ι F w H iv iu):
  ∃r val,R r∧VR ι F w H r val∧ ∀w,(cr t u iu).run P w= .ok val w:=by
 have tree: ∀(s:Nat) (xs:List T) (len cap:Nat) (p:Option Addr),TR F w (.sl s xs) (.slice p len cap)→Nat.beq s (sizeOf cx el)=true→wpQ S (idx iv fun i=> .get xs i fun x=> .ret (.t (.ip s x 0))) R→
   ∃r val,R r∧VR ι F w H r val∧ ∀w,(cr t (.slice p len cap) iu).run P w= .ok val w:=by
  intro s xs len cap p ht hs h;have hs:=zp hs;subst hs;obtain ⟨kd,n,rfl,h0,x,hx,hne,h⟩:=AgA h hiv;have hlt:n.toNat<xs.length:=(zh.1 hx).1;cases ht with
  |slN=>simp at hx
  |slC _ _ b oo _ c hn hcap hF hcc hl hr=>
   refine ⟨_,_,h,.t _ _ ?_,fun _=>Ac0 hc he h0 hlt⟩;rw [AaW];have:=TR.ip (F:=F) (w:=w) (sizeOf cx el) x 0 b (oo+n.toNat*sizeOf cx el) (c n.toNat) hF hne (fun j hj=>by have:=hcc n.toNat j hlt hj;simpa [wr] using this) (hl _ x hx hne) (fun j t ht=>hr _ j x t hx hne ht);simpa using this
 unfold indexV at h;split at h
 ·rename_i s xs;split at h
  ·rename_i hs;have ht:=hv.t_inv;cases ht with
   |slN=>exact tree _ _ _ _ _ (.slN _ _ _) hs h
   |slC _ _ b oo cap c hn hcap hF hcc hl hr=>exact tree _ _ _ _ _ (.slC _ _ b oo _ c hn hcap hF hcc hl hr) hs h
  ·exact h.elim
 ·rename_i s xs;split at h
  ·rename_i hs;cases hv with
   |fit _ _ p ht=>exact tree _ _ _ _ _ ht hs h
  ·exact h.elim
 ·rename_i id lim;rw [Aae] at h;split at h
  ·rename_i s xs sp ro hob;split at h
   ·rename_i hs;have hs:=zp hs;subst hs;obtain ⟨kd,n,rfl,h0,hlt,h⟩:=AgA h hiv;cases hv with
    |all _ _ _ ho=>
    unfold OwnSl at ho;rw [hob] at ho;obtain ⟨p,cap,rfl,hcap,hoff,hcase⟩:=ho;simp only [wc] at*;obtain ⟨h00,_,hblk⟩:=hg.obj id _ hob;rcases hblk with ⟨hi,rfl,_⟩|⟨b,cs,ee,hi,_⟩
    ·simp at hlt
    ·rw [hi] at hcase;have hp:p=some ⟨b,0*sizeOf cx el,none⟩:=hcase.1.resolve_left (by omega);subst hp;refine ⟨_,_,h,.ptr _ _ _ _ ?_,fun _=>Ac0 hc he h0 hlt⟩;unfold OwnPtr;rw [hob,AaW];exact ⟨hlt,b,hi,by simp⟩
   ·exact h.elim
  ·rename_i s xs ps hob;split at h
   ·rename_i hs;have hs:=zp hs;subst hs;obtain ⟨kd,n,rfl,h0,hlt,h⟩:=AgA h hiv;cases hv with
    |all _ _ _ ho=>
    unfold OwnSl at ho;rw [hob] at ho;obtain ⟨p,cap,rfl,hcap,hoff,hcase⟩:=ho;simp only [wc] at*;obtain ⟨h00,_,hblk⟩:=hg.obj id _ hob;rcases hblk with ⟨hi,rfl,_⟩|⟨b,cs,ee,fp,hi,_⟩
    ·simp at hlt
    ·rw [hi] at hcase;have hp:p=some ⟨b,0*sizeOf cx el,none⟩:=hcase.1.resolve_left (by omega);subst hp;refine ⟨_,_,h,.ptr _ _ _ _ ?_,fun _=>Ac0 hc he h0 hlt⟩;unfold OwnPtr;rw [hob,AaW];exact ⟨hlt,b,hi,by simp⟩
   ·exact h.elim
  ·exact h.elim
 ·rename_i id off len lim;rw [Aae] at h;split at h
  ·rename_i s xs sp ro hob;split at h
   ·rename_i hs;have hs:=zp hs;subst hs;obtain ⟨kd,n,rfl,h0,hlt,h⟩:=AgA h hiv;cases hv with
    |sl _ _ _ _ _ ho=>
    unfold OwnSl at ho;rw [hob] at ho;obtain ⟨p,cap,rfl,hcap,hoff,hcase⟩:=ho;simp only [ug] at*;obtain ⟨h00,_,hblk⟩:=hg.obj id _ hob;rcases hblk with ⟨hi,rfl,_⟩|⟨b,cs,ee,hi,_⟩
    ·simp at hoff;omega
    ·rw [hi] at hcase;have hp:p=some ⟨b,off*sizeOf cx el,none⟩:=hcase.1.resolve_left (by omega);subst hp;refine ⟨_,_,h,.ptr _ _ _ _ ?_,fun _=>Ac0 hc he h0 hlt⟩;unfold OwnPtr;rw [hob,AaW];exact ⟨by omega,b,hi,by simp [jc]⟩
   ·exact h.elim
  ·exact h.elim
 ·exact h.elim
theorem Af4 (hc:CxTy P cx) (hg:Good ι F w H) (hs:Sim ι F w H e a) (t:Nat) (x i:Operand) (ho:o.op= .indexAddr t x i) (h:wpQ S (opQ cx o e H) R):
  Still (Any) P R o ι F H w a:=by
 unfold opQ at h;rw [ho] at h;simp only at h;split at h
 ·rename_i el he;obtain ⟨v,h1,h2⟩:=AbN (Aaa _ _ _ h) (Aaj hs x);obtain ⟨r,val,k1,k2,k3⟩:=An5 (P:=P) hc hg he (Aaa _ _ _ h1) h2 (Aaj hs i);refine Aao hg k1 k2 fun w=> ?_;simp [execOp,ho,k3]
 ·exact h.elim
theorem Aqc {v:V} {u:Value} {n:Nat} (h:lenV v H=some n) (hv:VR ι F w H v u):(∃p c,u= .slice p n c)∨ ∃s,v= .t (.str s)∧u= .string s∧s.size=n:=by
 unfold lenV at h;split at h
 ·simp at h;subst h;have ht:=hv.t_inv;cases ht with
  |slN=>exact .inl ⟨_,_,rfl⟩
  |slC=>exact .inl ⟨_,_,rfl⟩
 ·simp at h;subst h;cases hv with
  |fit _ _ p ht=>exact .inl ⟨_,_,rfl⟩
 ·rw [Aae] at h;split at h
  ·rename_i hob;simp at h;subst h;cases hv with
   |all _ _ _ ho=>
   unfold OwnSl at ho;rw [hob] at ho;obtain ⟨p,cap,rfl,_⟩:=ho;exact .inl ⟨_,_,rfl⟩
  ·rename_i hob;simp at h;subst h;cases hv with
   |all _ _ _ ho=>
   unfold OwnSl at ho;rw [hob] at ho;obtain ⟨p,cap,rfl,_⟩:=ho;exact .inl ⟨_,_,rfl⟩
  ·contradiction
 ·rw [Aae] at h;split at h
  ·rename_i hob;simp at h;subst h;cases hv with
   |sl _ _ _ _ _ ho=>
   unfold OwnSl at ho;rw [hob] at ho;obtain ⟨p,cap,rfl,_⟩:=ho;exact .inl ⟨_,_,rfl⟩
  ·contradiction
 ·simp at h;subst h;exact .inr ⟨_,rfl,hv.t_inv.str_inv,rfl⟩
 ·contradiction
end
end Go.Eva
namespace Go.Eva
open Go.RowKit
section
variable {P:Program} {cx:Cx} {S:Task→(Res→Prop)→Prop} {w:World} {ι:Io} {F:Nat→Prop} {H:Heap}
variable {o:Oper} {e:Env} {a:Act} {R:V×Heap→Prop} {Q:Exit→Act→World→Prop}
theorem Al9 (hc:CxTy P cx) {ft off:Nat} {i:TI} (hi:cx.ti.get ft=some i) {vs:List V} {cs:Array Value} {R:V→Prop} (h:wpQ S (partV cx ft vs off) R) (hl:vs.length=cs.size) (h1: ∀(i:Nat) c,cs[i]?=some c→c.oneCell'=true)
  (hcc: ∀(i:Nat) y c,vs[i]?=some y→cs[i]?=some c→VR ι F w H y c): ∃r val,R r∧VR ι F w H r val∧ ∀w,(part ft cs off).run P w= .ok val w:=by
 unfold partV at h;split at h
 ·rename_i hst;have fin: ∀l,l=(vs.drop off).take (sizeOf cx ft)→l.length=sizeOf cx ft→wpQ S (force (mkAgg l)) R→ ∃r val,R r∧VR ι F w H r val∧ ∀w,(part ft cs off).run P w= .ok val w:=by
   intro l he hll h;refine ⟨_,_,Aav h,AfV (cs:=cs.extract off (off+sizeOf cx ft)) ?_ ?_ ?_,fun _=>Af8 hc hi hst cs off⟩
   ·subst he;simp at hll⊢;omega
   ·intro k c hk;rw [py] at hk;split at hk
    ·exact h1 _ c hk
    ·contradiction
   ·intro k x c hx hk;rw [py] at hk;split at hk
    ·subst he;rw [ji] at hx;split at hx
     ·rw [xh] at hx;exact hcc _ x c hx hk
     ·contradiction
    ·contradiction
  rcases Afx (Aaa _ _ _ h) with ⟨k1,k2⟩|⟨k1,k2⟩
  ·exact fin _ rfl (by simp;omega) k1
  ·exact fin [] (by simp [k1]) (by simp [k1]) k2
 ·rename_i hst;rcases Afx (Aaa _ _ _ h) with ⟨k1,k2⟩|⟨k1,_⟩
  ·have hj:off<vs.length:=by omega
   have ee:(vs.drop off).take 1= [vs[off]]:=by rw [List.drop_eq_getElem_cons hj];rfl
   rw [ee] at k1;have hj':off<cs.size:=by omega
   have hcv:cs[off]?=some cs[off]:=by simp
   exact ⟨_,_,k1,hcc off _ _ (zt hj) hcv,fun _=>Adk hc hi hst cs off hcv⟩
  ·omega
theorem Al1 (hc:CxTy P cx) (hg:Good ι F w H) (hs:Sim ι F w H e a) (t:Nat) (x:Operand) (f:Nat) (ho:o.op= .field t x f) (h:wpQ S (opQ cx o e H) R):
  Still (Any) P R o ι F H w a:=by
 unfold opQ at h;rw [ho] at h;simp only at h;have hx:=Aaj hs x;split at h
 ·rename_i off ft hf;obtain ⟨fields,fd,h1,h2,h3,h4,i,h5⟩:=AkZ hc hf;have hrun: ∀cs val,a.eval x= .agg cs→(∀w,(part ft cs off).run P w= .ok val w)→ ∀w,(execOp a.eval o).run P w= .ok (.value val) w:=by
   intro cs val hq hp w;simp [execOp,ho,hq,Instr.field,run_underlying h1,h2,asAgg,h4,h3,hp]
  split at h
  ·rename_i vs hv;rw [hv] at hx;have hx:=hx.t_inv;generalize hq:a.eval x=u at hx;cases hx with
   |agg _ cs hl ho1 hcc=>
    obtain ⟨r,val,k1,k2,k3⟩:=Al9 (P:=P) (ι:=ι) (F:=F) (w:=w) (H:=H) hc h5 (Aaa _ _ _ h) (by simpa using hl) ho1 (by
     intro i y c hy hc;simp at hy;obtain ⟨z,hz,rfl⟩:=hy;exact .t _ _ (hcc i z c hz hc))
    exact Aao hg k1 k2 (hrun cs val hq k3)
  ·rename_i vs hv;rw [hv] at hx;generalize hq:a.eval x=u at hx;cases hx with
   |agg _ cs hl ho1 hcc=>
    obtain ⟨r,val,k1,k2,k3⟩:=Al9 (P:=P) (ι:=ι) (F:=F) (w:=w) (H:=H) hc h5 (Aaa _ _ _ h) hl ho1 hcc;exact Aao hg k1 k2 (hrun cs val hq k3)
  ·exact h.elim
 ·exact h.elim
theorem Aff: ∀(l:List Value) (j:Nat) (off:Nat) (cs:Array Value),off+j+l.length≤cs.size→
  ((l.zipIdx j).foldl (fun cs (c,j)=>cs.setIfInBounds (off+j) c) cs).size=cs.size∧
  ∀i:Nat,((l.zipIdx j).foldl (fun cs (c,j)=>cs.setIfInBounds (off+j) c) cs)[i]?=if off+j≤i∧i<off+j+l.length then l[i-(off+j)]? else cs[i]?
 | [],j,off,cs,_=>by
  refine ⟨rfl,fun i=> ?_⟩;simp only [List.zipIdx_nil,List.foldl_nil,xk,y7];rw [if_neg (by omega)]
 |x::l,j,off,cs,h=>by
  simp only [j5] at h;obtain ⟨h1,h2⟩:=Aff l (j+1) off (cs.setIfInBounds (off+j) x) (by simp;omega);simp only [List.zipIdx_cons,List.foldl_cons];refine ⟨by rw [h1];simp,fun i=> ?_⟩;rw [h2];by_cases hi:i=off+j
  ·subst hi;rw [if_neg (by omega),if_pos (by simp),Array.getElem?_setIfInBounds_self_of_lt (by omega)];simp
  ·by_cases hin:off+(j+1)≤i∧i<off+(j+1)+l.length
   ·rw [if_pos hin,if_pos (by simp;omega)];have:i-(off+j)=(i-(off+(j+1)))+1:=by omega
    rw [this];simp
   ·rw [if_neg hin,if_neg (by simp;omega),Array.getElem?_setIfInBounds_ne (by omega)]
theorem Anq (hc:CxTy P cx) (hs:Sim ι F w H e a) {fs:List (Nat×Nat)} {place:Nat→Option (Nat×Nat)} (hpl: ∀i off t,nth fs i=some (off,t)→place i=some (off,sizeOf cx t)):
  ∀ {parts:List (Nat×Operand)} {cs:List V} {vc:Array Value} {R:List V→Prop},wpQ S (fill cx e H fs parts cs) R→cs.length=vc.size→(∀(i:Nat) c,vc[i]?=some c→c.oneCell'=true)→
   (∀(i:Nat) y c,cs[i]?=some y→vc[i]?=some c→VR ι F w H y c)→
   ∃cs' vc',R cs'∧m7 place vc (parts.map fun p=>(p.1,a.eval p.2))=some vc'∧cs'.length=vc'.size∧vc'.size=vc.size∧(∀(i:Nat) c,vc'[i]?=some c→c.oneCell'=true)∧
    (∀(i:Nat) y c,cs'[i]?=some y→vc'[i]?=some c→VR ι F w H y c)
 | [],cs,vc,R,h,hl,h1,hcc=>⟨cs,vc,h,rfl,hl,rfl,h1,hcc⟩
 |(i,x)::r,cs,vc,R,h,hl,h1,hcc=>by
  unfold fill at h;split at h
  ·rename_i off t hn;obtain ⟨v,k1,k2⟩:=AbN (Aaa _ _ _ h) (Aaj hs x);split at k1
   ·rename_i hb;simp only [zf] at hb;have hsz:=zp hb.1.1;have hfit:off+v.size≤cs.length:=jf hb.1.2;split at k1
    ·exact k1.elim
    ·rename_i hna;have hne:v≠ .t .any:=fun e=>hna e;obtain ⟨g1,g2⟩:=k2.shape hne hb.2;have hgc:=k2.cells hne;have hsz':(a.eval x).cells.size=v.size:=g1.symm;obtain ⟨f1,f2⟩:=Aff (a.eval x).cells.toList 0 off vc (by simp;omega);simp only [y7,gn] at f2;have hov:=AbI cs off v.cells (by have:v.cells.length=v.size:=rfl;omega);have hol:=Acv cs off v.cells (by have:v.cells.length=v.size:=rfl;omega);obtain ⟨cs',vc',q1,q2,q3,q4,q5,q6⟩:=Anq hc hs hpl (vc:=((a.eval x).cells.zipIdx.toList).foldl (fun cs (c,j)=>cs.setIfInBounds (off+j) c) vc) k1 (by rw [hol,hl];rw [y9];exact f1.symm) (by
      intro i c hci;rw [y9,f2] at hci;split at hci
      ·exact g2 _ c (by simpa using hci)
      ·exact h1 i c hci) (by
      intro i y c hy hci;rw [hov] at hy;rw [y9,f2] at hci;have hvl:v.cells.length=v.size:=rfl;by_cases hin:off≤i∧i<off+v.cells.length
      ·rw [if_pos hin] at hy;rw [if_pos (by omega)] at hci;exact hgc (i-off) y c hy (by simpa using hci)
      ·rw [if_neg hin] at hy;rw [if_neg (by omega)] at hci;exact hcc i y c hy hci)
     refine ⟨cs',vc',q1,?_,q3,by rw [q4];rw [y9];exact f1,q5,q6⟩;simp only [qo,m7,hpl i off t hn];rw [if_neg (by simp;omega)];rw [←q2,Array.foldl_toList]
   ·exact k1.elim
  ·exact h.elim
theorem Ajw {α β:Type} (f:α→Option β) (g:α→β): ∀(l:List α),(∀x∈l,f x=some (g x))→l.mapM f=some (l.map g)
 | [],_=>by simp
 |x::r,h=>by
  rw [List.mapM_cons,h x (by simp),Ajw f g r (fun y hy=>h y (by simp [hy]))];rfl
theorem Al0 (hc:CxTy P cx) (hg:Good ι F w H) (hs:Sim ι F w H e a) (t:Nat) (parts:Array (Nat×Operand)) (ho:o.op= .build t parts) (h:wpQ S (opQ cx o e H) R):
  Still (Any) P R o ι F H w a:=by
 unfold opQ at h;rw [ho] at h;simp only at h;split at h
 ·rename_i z fs sz by_ eq hz hget;obtain ⟨inf,d,c1,c2,c3,c4,c5,c6,c7⟩:=hc.ty t _ hget;obtain ⟨zv,d1,d2⟩:=c7;obtain ⟨d2,d3,d4,d5,d6⟩:=d2 z hz;simp only [TyR] at c5;obtain ⟨fields,rfl,hm,hall⟩:=c5;have hpl: ∀i off t',nth fs i=some (off,t')→((fields.map fun f=>(f.offset,sizeOf cx f.type))[i]?)=some (off,sizeOf cx t'):=by
   intro i off t' hn;rw [Aae,←hm] at hn;simp at hn⊢;obtain ⟨fd,h1,h2,h3⟩:=hn;exact ⟨fd,h1,h2,by rw [h3]⟩
  have hzr:=d2 ι F w H;have hzc:=hzr.cells d4;obtain ⟨cs',vc',q1,q2,q3,q4,q5,q6⟩:=Anq (P:=P) hc hs hpl (vc:=zv.cells) (Aaa _ _ _ h) (by rw [d6];exact d5) d3 hzc;have hplaces:fields.toList.mapM (fun f=>(P.info? f.type).map fun i=>(f.offset,i.size))=some (fields.toList.map fun f=>(f.offset,sizeOf cx f.type)):=by
   refine Ajw _ _ _ (fun f hf=> ?_);obtain ⟨_,i,hi⟩:=hall f hf;obtain ⟨inf',d',k1,k2,k3,_⟩:=hc.ty _ _ hi;simp [k1,k3,sizeOf,hi]
  have hbuilt:P.built t (parts.map fun (i,x)=>(i,a.eval x)).toList=some vc':=by
   unfold Program.built;simp only [c1,c2,d1,hplaces];rw [←q2];congr 1
   ·funext i;simp
   ·simp
  have hrun:=fun w=>run_build (P:=P) w t (parts.map fun (i,x)=>(i,a.eval x)) vc' hbuilt;rcases Afx (Aaa _ _ _ q1) with ⟨k1,k2⟩|⟨k1,k2⟩
  ·have hlen:cs'.length=sizeOf cx t:=by
    have:sizeOf cx t=sz:=by simp [sizeOf,hget]
    rw [q3,q4,d6,this]
   rw [qr,vz (by omega)] at k1;exact Aao hg (Aav (Aaa _ _ _ k1)) (AfV q3 q5 q6) (fun w=>by simp [execOp,ho,hrun w])
  ·have hlen:cs'.length=0:=by
    have:sizeOf cx t=sz:=by simp [sizeOf,hget]
    rw [q3,q4,d6,←this,k1]
   have hnil:cs'= []:=qi hlen;subst hnil;exact Aao hg (Aav (Aaa _ _ _ k2)) (AfV q3 q5 q6) (fun w=>by simp [execOp,ho,hrun w])
 ·exact h.elim
end
end Go.Eva
namespace Go.Eva
open Go.RowKit
section
variable {P:Program} {cx:Cx} {S:Task→(Res→Prop)→Prop} {w:World} {ι:Io} {F:Nat→Prop} {H:Heap}
variable {o:Oper} {e:Env} {a:Act} {R:V×Heap→Prop} {Q:Exit→Act→World→Prop}
theorem Ao2: ∀ {vs:List V} {us:List Value} {F:Nat→Prop} {H:Heap} {R:List T×Heap→Prop},Good ι F w H→wpQ S (toTs vs H) R→vs.length=us.length→(∀(i:Nat) v u,vs[i]?=some v→us[i]?=some u→VR ι F w H v u)→
  ∃xs H' F',R (xs,H')∧Good ι F' w H'∧Step ι F H w ι F' H' w∧xs.length=vs.length∧ ∀(i:Nat) x u,xs[i]?=some x→us[i]?=some u→TR F' w x u∧(∀v,vs[i]?=some v→v≠ .t .any→x≠ .any)
 | [],us,F,H,R,hg,h,hl,hv=>⟨[],H,F,h,hg,.refl ι F H w,rfl,by simp⟩
 |v::r,[],F,H,R,hg,h,hl,hv=>by simp at hl
 |v::r,u::us,F,H,R,hg,h,hl,hv=>by
  obtain ⟨x,H1,F1,k1,k2,k3,k4,k5⟩:=Aia hg (Aaa _ _ _ h) (hv 0 v u rfl rfl);obtain ⟨xs,H2,F2,q1,q2,q3,q4,q5⟩:=Ao2 (us:=us) k2 (Aaa _ _ _ k1) (by simpa using hl) (fun i v' u' h1 h2=>k3.vr hg (hv (i+1) v' u' (by simpa using h1) (by simpa using h2)));refine ⟨x::xs,H2,F2,q1,q2,k3.trans q3,by simp [q4],?_⟩;intro i y z hy hz;cases i with
  |zero=>simp at hy hz;subst hy;subst hz;exact ⟨k4.mono q3.fsub (fun _ _=>rfl),fun v' hv'=>by simp at hv';subst hv';exact k5⟩
  |succ i=>
   simp at hy hz;obtain ⟨p1,p2⟩:=q5 i y z hy hz;exact ⟨p1,fun v' hv'=>p2 v' (by simpa using hv')⟩
theorem Ala {s:Nat}: ∀ {us:List Value} {k:Nat} {cs:Array Value},(k+us.length)*s≤cs.size→(∀u∈us,u.cells.size=s)→
  ∃cs',m7 (fun i=>some (i*s,s)) cs ((us.zipIdx k).map fun p=>(p.2,p.1))=some cs'∧cs'.size=cs.size∧
   ∀i:Nat,cs'[i]?=if k*s≤i∧i<(k+us.length)*s then (us[i/s-k]?).bind fun u=>u.cells[i%s]? else cs[i]?
 | [],k,cs,h,hu=>⟨cs,rfl,rfl,fun i=>by rw [if_neg (by simp)]⟩
 |u::us,k,cs,h,hu=>by
  have hus:=hu u (by simp);have hks:(k+1)*s≤(k+(u::us).length)*s:=qj _ (by simp);rw [jc,xu] at hks;obtain ⟨f1,f2⟩:=Aff u.cells.toList 0 (k*s) cs (by simp;omega);simp only [y7,gn] at f2;obtain ⟨cs',q1,q2,q3⟩:=Ala (us:=us) (k:=k+1) (cs:=(u.cells.zipIdx.toList).foldl (fun cs (c,j)=>cs.setIfInBounds (k*s+j) c) cs) (by rw [y9,f1];simp at h;rw [show k+1+us.length=k+(us.length+1) by omega];exact h) (fun v hv=>hu v (by simp [hv]));refine ⟨cs',?_,by rw [q2,y9,f1],?_⟩
  ·simp only [List.zipIdx_cons,qo,m7];rw [if_neg (by simp [hus];omega),←q1,Array.foldl_toList]
  ·intro i;rw [q3,y9,f2,hus];have hk1:(k+1)*s=k*s+s:=by rw [jc,xu]
   have hlen:(k+(u::us).length)*s=(k+1+us.length)*s:=by congr 1;simp;omega
   by_cases h1:(k+1)*s≤i∧i<(k+1+us.length)*s
   ·rw [if_pos h1,if_pos (by rw [hlen];omega)];have hs0:0<s:=by
     rcases wh s with h0|h0
     ·subst h0;simp at h1
     ·exact h0
    have:k+1≤i/s:=by rw [Nat.le_div_iff_mul_le hs0];exact h1.1
    have e:i/s-k=(i/s-(k+1))+1:=by omega
    rw [e];simp
   ·rw [if_neg h1];by_cases h2:k*s≤i∧i<k*s+s
    ·rw [if_pos h2,if_pos (by rw [hlen];constructor;exact h2.1;have:(k+1)*s≤(k+1+us.length)*s:=qj _ (by omega);omega)];have hs0:0<s:=by omega
     have e:i/s=k:=by
      rw [Nat.div_eq_iff hs0];constructor<;>omega
     have e2:i%s=i-k*s:=by
      have:=Nat.div_add_mod i s;rw [e,yi] at this;omega
     rw [e,e2];simp
    ·rw [if_neg h2,if_neg (by rw [hlen];omega)]
theorem AhU: ∀ {vs:List V} {s:Nat},sizesOk H s vs=true→ ∀v∈vs,v.size=s∧alive H v=true∧v≠ .t .any
 | [],s,h,v,hv=>by simp at hv
 |x::r,s,h,v,hv=>by
  simp only [sizesOk,zf] at h;obtain ⟨⟨⟨h1,h2⟩,h3⟩,h4⟩:=h;simp at hv;rcases hv with rfl|hv
  ·exact ⟨zp h1,h2,fun e=>by rw [e] at h3;simp [notAny] at h3⟩
  ·exact AhU h4 v hv
theorem AhK: ∀ {ps:List (Nat×Operand)} {k:Nat} {xs:List Operand},partsAt k ps=some xs→ps=(xs.zipIdx k).map fun p=>(p.2,p.1)
 | [],k,xs,h=>by simp [partsAt] at h;subst h;rfl
 |(i,x)::r,k,xs,h=>by
  simp only [partsAt] at h;split at h
  ·rename_i l hb hl;simp at h;subst h;rw [AhK hl,zp hb];rfl
  ·contradiction
theorem Apn {cs:Array Value} {el:Nat} {s:Nat} {xs:List T} {us:List Value} (hg:Good ι F w H) (hl:xs.length=us.length) (hsz: ∀u∈us,u.cells.size=s) (h1: ∀u∈us,∀(i:Nat) c,u.cells[i]?=some c→c.oneCell'=true)
  (hx: ∀(i:Nat) x u,xs[i]?=some x→us[i]?=some u→TR F w x u∧x≠ .any) (hcs: ∀i:Nat,i<us.length*s→cs[i]?=(us[i/s]?).bind fun u=>u.cells[i%s]?) (cap:Nat) (hcap:xs.length≤cap):
  TR (fun b=>F b∨b=w.heap.size) (w.alloc (.cells cs el)) (.sl s xs) (.slice (some ⟨w.heap.size,0,none⟩) xs.length cap):=by
 by_cases hn:xs= []
 ·subst hn;exact .slN _ _ _
 ·have get: ∀i j,i<us.length→j<s→ ∃u,us[i]?=some u∧cs[i*s+j]?=u.cells[j]?∧j<u.cells.size:=by
   intro i j hi hj;have hu:us[i]?=some us[i]:=zt hi;have hlt:i*s+j<us.length*s:=by
    have:=qj s (show i+1≤us.length from hi);rw [jc,xu] at this;omega
   have e1:(i*s+j)/s=i:=by rw [yi,bf (by omega),fa hj];simp
   have e2:(i*s+j)%s=j:=by rw [yi,bp,fe hj]
   have:=hcs (i*s+j) hlt;rw [e1,e2,hu] at this;exact ⟨us[i],hu,this,by rw [hsz us[i] (wm hi)];exact hj⟩
  refine .slC s xs w.heap.size 0 cap (fun i j=>(us.getD i undef).cells.getD j undef) hn hcap (.inr rfl) ?_ ?_ ?_
  ·intro i j hi hj;obtain ⟨u,hu,hc,hlt⟩:=get i j (by omega) hj;have hud:us.getD i undef=u:=by simp [hu]
   have hgg:u.cells[j]?=some u.cells[j]:=by simp
   rw [hud];have ed:u.cells.getD j undef=u.cells[j]:=by unfold ux;rw [dif_pos hlt];rfl
   rw [ed];refine ⟨?_,h1 u (jt hu) j _ hgg⟩;rw [cell_of_row _ w.heap.size _ cs el _ Aau];simp only [jk];rw [hc,hgg]
  ·intro i x hxi hne;have hi:i<us.length:=by rw [←hl];exact (zh.1 hxi).1
   obtain ⟨ht,_⟩:=hx i x _ hxi (zt hi);rw [(ht.cells hne).1,hsz _ (wm hi)]
  ·intro i j x t hxi hne ht;have hi:i<us.length:=by rw [←hl];exact (zh.1 hxi).1
   obtain ⟨hxu,_⟩:=hx i x _ hxi (zt hi);obtain ⟨c1,c2⟩:=hxu.cells hne;have hj:j<us[i].cells.size:=by rw [←c1];exact (zh.1 ht).1
   have hgg:us[i].cells[j]?=some us[i].cells[j]:=by simp
   have:=c2 j t _ ht hgg;have hud:us.getD i undef=us[i]:=by simp [hi]
   rw [hud];have ed:us[i].cells.getD j undef=us[i].cells[j]:=by unfold ux;rw [dif_pos hj];rfl
   rw [ed];exact this.mono (fun _ h=> .inl h) (fun b hb=>Aai (hg.fin b hb))
theorem Aok {cs:Array Value} {el:Nat} {s:Nat} {xs:List T} {us:List Value} (hg:Good ι F w H) (hl:xs.length=us.length) (hsz: ∀u∈us,u.cells.size=s) (h1: ∀u∈us,∀(i:Nat) c,u.cells[i]?=some c→c.oneCell'=true)
  (hx: ∀(i:Nat) x u,xs[i]?=some x→us[i]?=some u→TR F w x u∧x≠ .any) (hcs: ∀i:Nat,i<us.length*s→cs[i]?=(us[i/s]?).bind fun u=>u.cells[i%s]?):
  CellsR F (w.alloc (.cells cs el)) w.heap.size s xs:=by
 have get: ∀i j,i<us.length→j<s→ ∃u,us[i]?=some u∧cs[i*s+j]?=u.cells[j]?∧j<u.cells.size:=by
  intro i j hi hj;have hu:us[i]?=some us[i]:=zt hi;have hlt:i*s+j<us.length*s:=by
   have:=qj s (show i+1≤us.length from hi);rw [jc,xu] at this;omega
  have e1:(i*s+j)/s=i:=by rw [yi,bf (by omega),fa hj];simp
  have e2:(i*s+j)%s=j:=by rw [yi,bp,fe hj]
  have:=hcs (i*s+j) hlt;rw [e1,e2,hu] at this;exact ⟨us[i],hu,this,by rw [hsz us[i] (wm hi)];exact hj⟩
 refine ⟨fun i j=>(us.getD i undef).cells.getD j undef,?_,?_,?_⟩
 ·intro i j hi hj;obtain ⟨u,hu,hc,hlt⟩:=get i j (by omega) hj;have hud:us.getD i undef=u:=by simp [hu]
  have hgg:u.cells[j]?=some u.cells[j]:=by simp
  simp only [];rw [hud];have ed:u.cells.getD j undef=u.cells[j]:=by unfold ux;rw [dif_pos hlt];rfl
  rw [ed];refine ⟨?_,h1 u (jt hu) j _ hgg⟩;rw [cell_of_row _ w.heap.size _ cs el _ Aau,hc,hgg]
 ·intro i x hxi hne;have hi:i<us.length:=by rw [←hl];exact (zh.1 hxi).1
  obtain ⟨ht,_⟩:=hx i x _ hxi (zt hi);rw [(ht.cells hne).1,hsz _ (wm hi)]
 ·intro i j x t hxi hne ht;have hi:i<us.length:=by rw [←hl];exact (zh.1 hxi).1
  obtain ⟨hxu,_⟩:=hx i x _ hxi (zt hi);obtain ⟨c1,c2⟩:=hxu.cells hne;have hj:j<us[i].cells.size:=by rw [←c1];exact (zh.1 ht).1
  have hgg:us[i].cells[j]?=some us[i].cells[j]:=by simp
  have:=c2 j t _ ht hgg;have hud:us.getD i undef=us[i]:=by simp [hi]
  simp only [];rw [hud];have ed:us[i].cells.getD j undef=us[i].cells[j]:=by unfold ux;rw [dif_pos hj];rfl
  rw [ed];exact this.mono (fun _ h=>h) (fun b hb=>Aai (hg.fin b hb))
theorem AkD {id s b:Nat} {xs:List T} {ps:List (Nat×V)} {cs:Array Value} {e:TypeId} (h0:0<s) (ht:Told ps xs.length) (hb:ι id=some b) (hid:ι.hid id= []) (hh:w.heap[b]?=some (.cells cs e (0,0))) (hle:xs.length*s≤cs.size) (hm: ∃m,cs.size=m*s)
  (h1: ∀(i:Nat) (c:Value),cs[i]?=some c→c.oneCell'=true) (hmem: ∀(i:Nat) (v:V),memP ps xs i=some v→v≠ .t .any∧v.size=s∧ ∀(j:Nat) x c,v.cells[j]?=some x→cs[i*s+j]?=some c→VR ι F w H x c):ObR ι F w H id (.vec s xs ps):=
 ⟨h0,ht,.inr ⟨b,cs,e,fun _ _=> [],hb,hh,hle,hm,h1,fun i v hv=>⟨(hmem i v hv).1,(hmem i v hv).2.1⟩,fun i j v x c hv hx hc=> .v _ _ ((hmem i v hv).2.2 j x c hx hc),by rw [hid];simp⟩⟩
theorem Ah2 {i:Nat}: ∀ {vs:List V} {k:Nat},findP i (enumP k vs)=if k≤i then vs[i-k]? else none
 | [],k=>by simp [enumP,findP]
 |v::r,k=>by
  simp only [enumP,findP];by_cases e:i=k
  ·subst e;simp
  ·rw [if_neg e,Ah2];by_cases h:k+1≤i
   ·rw [if_pos h,if_pos (by omega),show i-k=(i-(k+1))+1 by omega];rfl
   ·rw [if_neg h,if_neg (by omega)]
theorem Ahz: ∀(vs:List V) (k:Nat),keysP (enumP k vs)=List.range' k vs.length
 | [],k=>rfl
 |v::r,k=>by
  have:=Ahz r (k+1);simp only [keysP,enumP,qo,j5,List.range'_succ] at this⊢;rw [this]
theorem Amj (vs:List V):Told (enumP 0 vs) vs.length:=by
 unfold Told;rw [Ahz];exact ⟨List.nodup_range',fun i hi=>by simpa using hi⟩
theorem AeJ (hc:CxTy P cx) (hg:Good ι F w H) (hs:Sim ι F w H e a) (t len:Nat) (parts:Array (Nat×Operand)) (ho:o.op= .buildSlice t len parts) (h:wpQ S (opQ cx o e H) R):
  o.wp P a w (fun a' w'=>OpPost R o ι F H w a a' w'∧OldSame w w') Q:=by
 unfold opQ at h;rw [ho] at h;simp only at h;split at h
 ·rename_i el xs hel hps;split at h
  ·rename_i hb;simp only [zf] at hb;have hlen:=zp hb.1;have hmax:len*sizeOf cx el≤16777216:=jf hb.2;have h:=AaU (Aaa _ _ _ h);obtain ⟨vs,k1,k2,k3⟩:=Agd hs (Aaa _ _ _ h);obtain ⟨e1,i,inf,e2,e3,e4,e5,e6,e7,e8⟩:=AbA hc hel;obtain ⟨inf',d',c1,c2,c3,c4,c5,c6,c7⟩:=hc.ty el i e2;rw [e4] at c1;obtain rfl:=ze c1;split at k1
   ·rename_i hok;have hok:=AhU hok;have hul:vs.length=(xs.map a.eval).length:=by simp [k2]
    have hvu: ∀(i:Nat) v u,vs[i]?=some v→(xs.map a.eval)[i]?=some u→VR ι F w H v u:=by
     intro i v u hv hu;simp at hu;obtain ⟨x,hx,rfl⟩:=hu;exact k3 i v x hv hx
    have hu1: ∀u∈xs.map a.eval,u.cells.size=sizeOf cx el∧ ∀(i:Nat) c,u.cells[i]?=some c→c.oneCell'=true:=by
     intro u hu;obtain ⟨i,hi,rfl⟩:=xn hu;have hi':i<vs.length:=by omega
     have hv:=hvu i _ _ (zt hi') (zt hi);obtain ⟨g0,g1,g2⟩:=hok _ (wm hi');obtain ⟨p1,p2⟩:=hv.shape g2 g1;exact ⟨by rw [←p1,←g0];rfl,p2⟩
    obtain ⟨zv,hz,_⟩:=c7;generalize hcs0:(if len*sizeOf cx el=0 then #[] else (u3 (len*sizeOf cx el)).map (zv.cells[· %zv.cells.size]!))=cs0;have hcs0s:cs0.size=len*sizeOf cx el:=by rw [←hcs0];split<;>simp_all
    obtain ⟨cs,q1,q2,q3⟩:=Ala (s:=sizeOf cx el) (us:=xs.map a.eval) (k:=0) (cs:=cs0) (by rw [hcs0s];simp [hlen]) (fun u hu=>(hu1 u hu).1);have hparts:(parts.map fun (i,x)=>(i,a.eval x)).toList=(((xs.map a.eval).zipIdx 0).map fun p=>(p.2,p.1)):=by
     have:=AhK hps;simp only [Array.toList_map,this,List.map_map,List.zipIdx_map];rfl
    have hrun:(execOp a.eval o).run P w= .ok (.value (.slice (some ⟨w.heap.size,0,none⟩) len len)) (w.alloc (.cells cs el)):=by
     have hns: ¬(16777216<len*sizeOf cx el):=by omega
     have hs1:=Aa8 hc e2 w;by_cases h0:len*sizeOf cx el=0
     ·rw [if_pos h0] at hcs0;subst hcs0;simp [execOp,ho,Instr.buildSlice,run_underlying e1,hs1,h0,newRow,show u3 0= #[] from rfl];have hq:=q1;rw [←hparts] at hq;simp at hq;rw [hq];simp
     ·rw [if_neg h0] at hcs0;subst hcs0;have hq:=q1;rw [←hparts] at hq;simp only [execOp,ho,Instr.buildSlice,xy,run_underlying e1,Result.andThen_ok,hs1,Sem.run_ite,h0,if_false,zeroValue,typeInfo,run_program,e4,Sem.run_pure,hz,newRow];rw [if_neg (by omega)];simp at hq;simp [hq]
    have fin: ∀(ys:List T) (H':Heap) (F':Nat→Prop),wpQ S (litSl (made cx t o.dst) (sizeOf cx el) ys H') R→Good ι F' w H'→Step ι F H w ι F' H' w→ys.length=vs.length→(∀(i:Nat) y u,ys[i]?=some y→(xs.map a.eval)[i]?=some u→TR F' w y u∧y≠ .any)→
      o.wp P a w (fun a' w'=>OpPost R o ι F H w a a' w'∧OldSame w w') Q:=by
     intro ys H' F' hR hg' hst hyl hy;have hyl':ys.length=len:=by rw [hyl,k2,hlen]
     have hcsx: ∀i:Nat,i<(xs.map a.eval).length*sizeOf cx el→cs[i]?=((xs.map a.eval)[i/sizeOf cx el]?).bind fun u=>u.cells[i%sizeOf cx el]?:=by
      intro i hi;rw [q3,if_pos (by simpa using hi)];simp
     unfold litSl at hR;split at hR
     ·replace hR:=Aar (Aaa _ _ _ hR);have hrc:=Aok (cs:=cs) (el:=el) (s:=sizeOf cx el) (xs:=ys) (us:=xs.map a.eval) hg' (by rw [hyl];exact hul) (fun u hu=>(hu1 u hu).1) (fun u hu=>(hu1 u hu).2) hy hcsx;have hcss:cs.size=len*sizeOf cx el:=by rw [q2,hcs0s]
      have hcone: ∀(i:Nat) (c:Value),cs[i]?=some c→c.oneCell'=true:=by
       intro i c hc';have hi:i<(xs.map a.eval).length*sizeOf cx el:=by
        have:=(zu.1 hc').1;simp only [wj];rw [←hlen];omega
       rw [hcsx i hi] at hc';obtain ⟨u,hu,huc⟩:=d9.1 hc';exact (hu1 u (jt hu)).2 _ c huc
      obtain ⟨g1,g2⟩:=AbY hg' (.arr (sizeOf cx el) ys (some 0) false) cs el rfl (by
       refine ⟨by rw [e7];exact e3,Aak.2,.inr ⟨w.heap.size,cs,el,Aak.1,Aau,?_,fun k hk=> ?_,⟨len,hcss⟩,hcone,hrc⟩⟩
       ·rw [hyl',hcss];exact qn _
       ·cases hk;rw [hyl',hcss];rfl)
      refine Aaw hrun ⟨⟨_,_,_,F',_,hR,rfl,g1,hst.trans g2,.all _ _ _ ?_⟩,.alloc w _⟩;unfold OwnSl;rw [show (H'++ [jy (sizeOf cx el) ys (some 0) false])[H'.length]?=some (.arr (sizeOf cx el) ys (some 0) false) by simp];refine ⟨some ⟨w.heap.size,0,none⟩,len,by simp [hyl'],by simp [hyl'],by simp,?_⟩;rw [show upd ι H'.length (some w.heap.size) H'.length=some w.heap.size from Aak.1];refine ⟨.inr (by simp),?_⟩;simp only;unfold blk;rw [Aau];simp [hcss]
     obtain ⟨g1,g2⟩:=AlW hg' (.cells cs el);have ht:=Apn (cs:=cs) (el:=el) (s:=sizeOf cx el) (xs:=ys) (us:=xs.map a.eval) hg' (by rw [hyl];exact hul) (fun u hu=>(hu1 u hu).1) (fun u hu=>(hu1 u hu).2) hy (by
      intro i hi;rw [q3,if_pos (by simpa using hi)];simp) len (by omega)
     refine Aaw hrun ⟨⟨_,H',ι,_,_,hR,rfl,g1,hst.trans g2,?_⟩,.alloc w _⟩;rw [←hyl'] at ht⊢;exact .fit _ _ _ ht
    split at k1
    ·split at k1
     ·rename_i ts hts;have:=Ab9 hts;subst this;refine fin ts H F k1 hg (.refl ι F H w) (by simp) ?_;intro i y u hy hu;have hv:(ts.map V.t)[i]?=some (.t y):=by simp [hy]
      refine ⟨(hvu i _ u hv hu).t_inv,fun e=> ?_⟩;subst e;exact (hok _ (jt hv)).2.2 rfl
     ·exact k1.elim
    ·split at k1
     ·rename_i hmv;simp only [madeVec,zf] at hmv;have hes:0<sizeOf cx el:=by have:=hmv.1.2;rwa [Nat.blt_eq] at this
      generalize hsz:sizeOf cx el=s at*;have hcss:cs.size=len*s:=by rw [q2,hcs0s]
      have hvl:vs.length=len:=by rw [hul,wj,hlen]
      have hcsx: ∀(k:Nat) (c:Value),cs[k]?=some c→ ∃u,(xs.map a.eval)[k/s]?=some u∧u.cells[k%s]?=some c:=by
       intro k c hc';have hi:k<(xs.map a.eval).length*s:=by
        have:=(zu.1 hc').1;rw [←hul,hvl,←hcss];exact this
       rw [q3,if_pos (by simpa using hi)] at hc';simp only [b9] at hc';obtain ⟨u,hu,huc⟩:=d9.1 hc';exact ⟨u,hu,huc⟩
      replace k1:=Aar (Aaa _ _ _ k1);have hxl:(vs.map fun _=>T.nilp).length=len:=by rw [wj];exact hvl
      obtain ⟨g1,g2⟩:=AbY hg (.vec s (vs.map fun _=> .nilp) (enumP 0 vs)) cs el rfl (by
       refine AkD hes (by rw [hxl,←hvl];exact Amj vs) Aak.1 Aak.2 Aau (by rw [hxl,hcss];exact qn _) ⟨len,hcss⟩ (fun i c hc'=> ?_) (fun i v hv=> ?_)
       ·obtain ⟨u,hu,huc⟩:=hcsx i c hc';exact (hu1 u (jt hu)).2 _ c huc
       ·have hv:vs[i]?=some v:=by
         unfold memP at hv;rw [Ah2] at hv;simp only [d8,if_true,b9] at hv;cases hq:vs[i]? with
         |some y=>rw [hq] at hv;exact hv
         |none=>rw [hq] at hv;simp [hq] at hv
        have hm:=jt hv;have hvs:v.cells.length=s:=(hok v hm).1;refine ⟨(hok v hm).2.2,(hok v hm).1,fun j x c hx hc'=> ?_⟩;have hj:j<s:=by rw [←hvs];exact (zh.1 hx).1
        obtain ⟨u,hu,huc⟩:=hcsx _ c hc';rw [show (i*s+j)/s=i by rw [yi,bf hes,fa hj];rfl] at hu;rw [show (i*s+j)%s=j by rw [yi,bp,fe hj]] at huc;exact ((hvu i v u hv hu).cells (hok v hm).2.2 j x c hx huc).mono (fun _ h=>h) (fun b hb=>Aai (hg.fin b hb)) (Adc hg.lt))
      refine Aaw hrun ⟨⟨_,_,_,F,_,k1,rfl,g1,g2,.all _ _ _ ?_⟩,.alloc w _⟩;unfold OwnSl;rw [show (H++ [Ob.vec s (vs.map fun _=>T.nilp) (enumP 0 vs)])[H.length]?=some (.vec s (vs.map fun _=> .nilp) (enumP 0 vs)) by simp];refine ⟨some ⟨w.heap.size,0,none⟩,len,by simp [hvl],by simp [hvl],by simp,?_⟩;rw [show upd ι H.length (some w.heap.size) H.length=some w.heap.size from Aak.1];refine ⟨.inr (by simp),?_⟩;simp only;unfold blk;rw [Aau];simp [hcss]
     ·obtain ⟨ts,H',F',p1,p2,p3,p4,p5⟩:=Ao2 hg (Aaa _ _ _ k1) hul hvu;refine fin ts H' F' p1 p2 p3 p4 ?_;intro i y u hy hu;have hi:i<vs.length:=by rw [←p4];exact (zh.1 hy).1
      obtain ⟨r1,r2⟩:=p5 i y u hy hu;exact ⟨r1,r2 _ (zt hi) (hok _ (wm hi)).2.2⟩
   ·exact k1.elim
  ·exact h.elim
 ·exact h.elim
end
end Go.Eva
namespace Go.Eva
open Go.RowKit
section
variable {P:Program} {cx:Cx} {S:Task→(Res→Prop)→Prop} {w:World} {ι:Io} {F:Nat→Prop} {H:Heap}
theorem AbH (hg:Good ι F w H) {id:Nat} {o:Ob} (ho:H[id]?=some o):Good ι F w (H.set id .dead)∧Step ι F H w ι F (H.set id .dead) w:=
 Adn hg ho rfl rfl rfl rfl (fun _ _=>rfl) (.inl rfl) (fun h=>by simp [vt] at h) (fun _=>trivial)
theorem AhN {w':World} (hg:Good ι F w H) {id:Nat} {o o':Ob} (fp:List Nat) (hfp:fp.Sublist (ι.hid id)) (ho:H[id]?=some o) (hr:o.ro=false) (hr':o'.ro=false)
  (hos:w'.os=w.os) (htape:w'.tape=w.tape) (hout:w'.output=w.output) (hsize:w'.heap.size=w.heap.size)
  (hother: ∀b,ι id≠some b→w'.heap[b]?=w.heap[b]?)
  (hob:(∀i oi,H[i]?=some oi→ ∃o'',(H.set id .dead++ [o'])[i]?=some o''∧Like ι (updH ι H.length (ι id) fp) w w' i oi o'')→(∀b,F b→w'.heap[b]?=w.heap[b]?)→ObR (updH ι H.length (ι id) fp) F w' (H.set id .dead++ [o']) H.length o'):
  Good (updH ι H.length (ι id) fp) F w' (H.set id .dead++ [o'])∧Step ι F H w (updH ι H.length (ι id) fp) F (H.set id .dead++ [o']) w':=by
 have hd:=Aa4 hr;have hid:=(zh.1 ho).1;have hlen:(H.set id .dead).length=H.length:=by simp
 have old: ∀i,i<H.length→updH ι H.length (ι id) fp i=ι i∧(updH ι H.length (ι id) fp).hid i=ι.hid i:=fun i h=>Ac6 (by omega);have oldB: ∀i b,i<H.length→Blk (updH ι H.length (ι id) fp) i b→Blk ι i b:=fun i b h hb=>(Aby (old i h)).1 hb;have newB: ∀b,Blk (updH ι H.length (ι id) fp) H.length b→Blk ι id b:=by
  intro b hb;unfold Blk at hb⊢;rw [AaK.1,AaK.2] at hb;exact hb.imp (fun h=>h) fun h=>hfp.subset h
 have get: ∀i oi,(H.set id .dead++ [o'])[i]?=some oi→(i≠id∧H[i]?=some oi)∨(i=id∧oi= .dead)∨(i=H.length∧oi=o'):=by
  intro i oi h;rcases Aan h with h|⟨h1,h2⟩
  ·by_cases e:i=id
   ·subst e;simp [hid] at h;exact .inr (.inl ⟨rfl,h.symm⟩)
   ·rw [qy (vf e)] at h;exact .inl ⟨e,h⟩
  ·exact .inr (.inr ⟨by rw [hlen] at h1;exact h1,h2⟩)
 have hblk: ∀i oi b,i≠id→H[i]?=some oi→oi.isDead=false→Blk ι i b→w'.heap[b]?=w.heap[b]?:=by
  intro i oi b hne hi hdi hb;exact hother b (fun e=>hne (hg.inj i id oi o b hi ho hdi hd hb (.inl e)))
 have hl: ∀i oi,H[i]?=some oi→ ∃o'',(H.set id .dead++ [o'])[i]?=some o''∧Like ι (updH ι H.length (ι id) fp) w w' i oi o'':=by
  intro i oi hi;have hil:=(zh.1 hi).1;by_cases e:i=id
  ·subst e;exact ⟨.dead,by rw [qq (by simpa using hil)];simp [hil],.inl rfl⟩
  ·exact ⟨oi,by rw [qq (by simpa using hil),qy (vf e)];exact hi,Like.of (old i hil).1 fun hd b hb=>hblk i oi b e hi hd (.inl hb)⟩
 have back: ∀(i b:Nat) (oi:Ob),(H.set id .dead++ [o'])[i]?=some oi→oi.isDead=false→Blk (updH ι H.length (ι id) fp) i b→i≠id∧ ∃(j:Nat) (oj:Ob),H[j]?=some oj∧oj.isDead=false∧Blk ι j b∧oj.ro=oi.ro∧(i=j∨(i=H.length∧j=id)):=by
  intro i b oi h hd' hb;rcases get i oi h with ⟨hne,h⟩|⟨rfl,rfl⟩|⟨rfl,rfl⟩
  ·exact ⟨hne,i,oi,h,hd',oldB i b (zh.1 h).1 hb,rfl,.inl rfl⟩
  ·simp [vt] at hd'
  ·exact ⟨by omega,id,o,ho,hd,newB b hb,hr.trans hr'.symm,.inr ⟨rfl,rfl⟩⟩
 have hown: ∀b,Own (updH ι H.length (ι id) fp) (H.set id .dead++ [o']) b→Own ι H b:=by
  rintro b ⟨i,oi,h1,h2,h3⟩;obtain ⟨_,j,oj,k1,k2,k3,k4,_⟩:=back i b oi h1 (Aa4 h2) h3;exact ⟨j,oj,k1,k4.trans h2,k3⟩
 have hlive: ∀b,Live (updH ι H.length (ι id) fp) (H.set id .dead++ [o']) b→Live ι H b:=by
  rintro b ⟨i,oi,h1,h2,h3⟩;obtain ⟨_,j,oj,k1,k2,k3,k4,_⟩:=back i b oi h1 h2 h3;exact ⟨j,oj,k1,k2,k3⟩
 have hsame: ∀b,b<w.heap.size→ ¬Own ι H b→w'.heap[b]?=w.heap[b]?:=fun b _ hn=>hother b (fun e=>hn ⟨id,o,ho,hr,.inl e⟩);have hfs: ∀b,F b→w'.heap[b]?=w.heap[b]?:=fun b hb=>hsame b (hg.fin b hb) (fun h=>hg.sep b h hb);refine ⟨⟨fun b hb=>by rw [hsize];exact hg.fin b hb,?_,?_,fun b h hf=>hg.sep b (hown b h) hf,?_,?_⟩,
  ⟨hos,htape,hout,by omega,hsame,fun b _ h=>hown b h,fun _ h=>h,fun _ _ h=> .inl h,hl,fun b _ h=>hlive b h⟩⟩
 ·intro i oi hi;rcases get i oi hi with ⟨hne,h⟩|⟨rfl,rfl⟩|⟨rfl,rfl⟩
  ·exact (hg.obj i oi h).mono (fun _ h=>h) hfs hl (fun _=>old i (zh.1 h).1) (fun hd b hb=>hblk i oi b hne h hd hb)
  ·trivial
  ·exact hob hl hfs
 ·intro i j oi oj b hi hj hdi hdj bi bj;obtain ⟨ni,i',oi',k1,k2,k3,_,k4⟩:=back i b oi hi hdi bi;obtain ⟨nj,j',oj',q1,q2,q3,_,q4⟩:=back j b oj hj hdj bj;have e0:=hg.inj i' j' oi' oj' b k1 q1 k2 q2 k3 q3;rcases k4 with e1|⟨e1,e2⟩<;>rcases q4 with f1|⟨f1,f2⟩<;>omega
 ·intro i oi b hi hdi hri hb;obtain ⟨_,j,oj,k1,k2,k3,k4,_⟩:=back i b oi hi hdi hb;exact hg.rof j oj b k1 k2 (k4.trans hri) k3
 ·intro i oi hi hdi;rcases get i oi hi with ⟨hne,h⟩|⟨rfl,rfl⟩|⟨rfl,rfl⟩
  ·have e:=old i (zh.1 h).1;rw [e.1,e.2];exact hg.nd i oi h hdi
  ·simp [vt] at hdi
  ·rw [AaK.1,AaK.2];obtain ⟨n1,n2⟩:=hg.nd id o ho hd;exact ⟨n1.sublist hfp,fun b hb hm=>n2 b hb (hfp.subset hm)⟩
theorem Aj0 {w':World} (hg:Good ι F w H) {id:Nat} {o o':Ob} (ho:H[id]?=some o) (hr:o.ro=false) (hr':o'.ro=false)
  (hos:w'.os=w.os) (htape:w'.tape=w.tape) (hout:w'.output=w.output) (hsize:w.heap.size<w'.heap.size) (hsame: ∀b,b<w.heap.size→w'.heap[b]?=w.heap[b]?)
  (hob:(∀i oi,H[i]?=some oi→ ∃o'',(H.set id .dead++ [o'])[i]?=some o''∧Like ι (updH ι H.length (some w.heap.size) (ι.hid id)) w w' i oi o'')→ObR (updH ι H.length (some w.heap.size) (ι.hid id)) F w' (H.set id .dead++ [o']) H.length o'):
  Good (updH ι H.length (some w.heap.size) (ι.hid id)) F w' (H.set id .dead++ [o'])∧Step ι F H w (updH ι H.length (some w.heap.size) (ι.hid id)) F (H.set id .dead++ [o']) w':=by
 have hd:=Aa4 hr;have hid:=(zh.1 ho).1;have hlen:(H.set id .dead).length=H.length:=by simp
 generalize hι:updH ι H.length (some w.heap.size) (ι.hid id)=ι' at*;have old: ∀i,i<H.length→ι' i=ι i∧ι'.hid i=ι.hid i:=fun i h=>by rw [←hι];exact Ac6 (by omega)
 have new:ι' H.length=some w.heap.size∧ι'.hid H.length=ι.hid id:=by rw [←hι];exact AaK
 have oldB: ∀i b,i<H.length→Blk ι' i b→Blk ι i b:=fun i b h hb=>(Aby (old i h)).1 hb;have newB: ∀b,b<w.heap.size→Blk ι' H.length b→Blk ι id b:=by
  intro b hlt hb;unfold Blk at hb⊢;rw [new.1,new.2] at hb;rcases hb with hb|hb
  ·simp at hb;omega
  ·exact .inr hb
 have get: ∀i oi,(H.set id .dead++ [o'])[i]?=some oi→(i≠id∧H[i]?=some oi)∨(i=id∧oi= .dead)∨(i=H.length∧oi=o'):=by
  intro i oi h;rcases Aan h with h|⟨h1,h2⟩
  ·by_cases e:i=id
   ·subst e;simp [hid] at h;exact .inr (.inl ⟨rfl,h.symm⟩)
   ·rw [qy (vf e)] at h;exact .inl ⟨e,h⟩
  ·exact .inr (.inr ⟨by rw [hlen] at h1;exact h1,h2⟩)
 have hl: ∀i oi,H[i]?=some oi→ ∃o'',(H.set id .dead++ [o'])[i]?=some o''∧Like ι ι' w w' i oi o'':=by
  intro i oi hi;have hil:=(zh.1 hi).1;by_cases e:i=id
  ·subst e;exact ⟨.dead,by rw [qq (by simpa using hil)];simp [hil],.inl rfl⟩
  ·exact ⟨oi,by rw [qq (by simpa using hil),qy (vf e)];exact hi,Like.of (old i hil).1 fun hd b hb=>hsame b (hg.lt i oi b hi hd hb)⟩
 have back: ∀(i b:Nat) (oi:Ob),(H.set id .dead++ [o'])[i]?=some oi→oi.isDead=false→Blk ι' i b→(b=w.heap.size∧i=H.length)∨(b<w.heap.size∧i≠id∧ ∃(j:Nat) (oj:Ob),H[j]?=some oj∧oj.isDead=false∧Blk ι j b∧oj.ro=oi.ro∧(i=j∨(i=H.length∧j=id))):=by
  intro i b oi h hd' hb;rcases get i oi h with ⟨hne,h⟩|⟨rfl,rfl⟩|⟨rfl,rfl⟩
  ·have:=oldB i b (zh.1 h).1 hb;exact .inr ⟨hg.ltB i oi b h hd' this,hne,i,oi,h,hd',this,rfl,.inl rfl⟩
  ·simp [vt] at hd'
  ·have hb':=hb;unfold Blk at hb';rw [new.1,new.2] at hb';rcases hb' with hb'|hb'
   ·exact .inl ⟨by simpa using hb'.symm,rfl⟩
   ·exact .inr ⟨hg.ltB id o b ho hd (.inr hb'),by omega,id,o,ho,hd,.inr hb',hr.trans hr'.symm,.inr ⟨rfl,rfl⟩⟩
 have hown: ∀b,b<w.heap.size→Own ι' (H.set id .dead++ [o']) b→Own ι H b:=by
  rintro b hlt ⟨i,oi,h1,h2,h3⟩;rcases back i b oi h1 (Aa4 h2) h3 with ⟨e,_⟩|⟨_,_,j,oj,k1,k2,k3,k4,_⟩
  ·omega
  ·exact ⟨j,oj,k1,k4.trans h2,k3⟩
 have hlive: ∀b,b<w.heap.size→Live ι' (H.set id .dead++ [o']) b→Live ι H b:=by
  rintro b hlt ⟨i,oi,h1,h2,h3⟩;rcases back i b oi h1 h2 h3 with ⟨e,_⟩|⟨_,_,j,oj,k1,k2,k3,k4,_⟩
  ·omega
  ·exact ⟨j,oj,k1,k2,k3⟩
 have hfs: ∀b,F b→w'.heap[b]?=w.heap[b]?:=fun b hb=>hsame b (hg.fin b hb);refine ⟨⟨fun b hb=>Nat.lt_trans (hg.fin b hb) hsize,?_,?_,fun b h hf=>hg.sep b (hown b (hg.fin b hf) h) hf,?_,?_⟩,
  ⟨hos,htape,hout,by omega,fun b hb _=>hsame b hb,hown,fun _ h=>h,fun _ _ h=> .inl h,hl,hlive⟩⟩
 ·intro i oi hi;rcases get i oi hi with ⟨hne,h⟩|⟨rfl,rfl⟩|⟨rfl,rfl⟩
  ·exact (hg.obj i oi h).mono (fun _ h=>h) hfs hl (fun _=>old i (zh.1 h).1) (fun hd b hb=>hsame b (hg.ltB i oi b h hd hb))
  ·trivial
  ·exact hob hl
 ·intro i j oi oj b hi hj hdi hdj bi bj;rcases back i b oi hi hdi bi with ⟨e1,e2⟩|⟨e1,ni,i',oi',k1,k2,k3,_,k4⟩<;>rcases back j b oj hj hdj bj with ⟨f1,f2⟩|⟨f1,nj,j',oj',q1,q2,q3,_,q4⟩
  ·omega
  ·omega
  ·omega
  ·have e0:=hg.inj i' j' oi' oj' b k1 q1 k2 q2 k3 q3;rcases k4 with e1|⟨e1,e2⟩<;>rcases q4 with f1|⟨f1,f2⟩<;>omega
 ·intro i oi b hi hdi hri hb;rcases back i b oi hi hdi hb with ⟨_,e2⟩|⟨_,_,j,oj,k1,k2,k3,k4,_⟩
  ·rcases get i oi hi with ⟨hne,h⟩|⟨rfl,rfl⟩|⟨e3,rfl⟩
   ·have:=(zh.1 h).1;omega
   ·omega
   ·rw [hr'] at hri;contradiction
  ·exact hg.rof j oj b k1 k2 (k4.trans hri) k3
 ·intro i oi hi hdi;rcases get i oi hi with ⟨hne,h⟩|⟨rfl,rfl⟩|⟨rfl,rfl⟩
  ·have e:=old i (zh.1 h).1;rw [e.1,e.2];exact hg.nd i oi h hdi
  ·simp [vt] at hdi
  ·rw [new.1,new.2];obtain ⟨n1,n2⟩:=hg.nd id o ho hd;refine ⟨n1,fun b hb hm=> ?_⟩;have:=hg.ltB id o b ho hd (.inr hm);simp at hb;omega
theorem AgQ {w':World} (hg:Good ι F w H) {id:Nat} {o o':Ob} (ho:H[id]?=some o) (_hd:o.isDead=false) (hr:o.ro=false) (hr':o'.ro=false)
  (hos:w'.os=w.os) (htape:w'.tape=w.tape) (hout:w'.output=w.output) (hsize:w'.heap.size=w.heap.size)
  (hother: ∀b,ι id≠some b→w'.heap[b]?=w.heap[b]?)
  (hob:(∀i oi,H[i]?=some oi→ ∃o'',(H.set id .dead++ [o'])[i]?=some o''∧Like ι (upd ι H.length (ι id)) w w' i oi o'')→(∀b,F b→w'.heap[b]?=w.heap[b]?)→ObR (upd ι H.length (ι id)) F w' (H.set id .dead++ [o']) H.length o'):
  Good (upd ι H.length (ι id)) F w' (H.set id .dead++ [o'])∧Step ι F H w (upd ι H.length (ι id)) F (H.set id .dead++ [o']) w':=
 AhN hg [] (List.nil_sublist _) ho hr hr' hos htape hout hsize hother hob
def Bd (u:Option Value) (d n:Nat):Prop:=match u with
 |none=>n=d
 |some u=> ∃kd z,u= .int kd z∧0≤z∧z.toNat=n
theorem Ach {e:Env} {a:Act} (hs:Sim ι F w H e a) {α:Type} {v:Option Operand} {d:Nat} {k:Nat→Eva.Q α} {R:α→Prop} (h:wpQ S (optIdx (v.map (evalO e)) d k) R): ∃n,Bd (v.map a.eval) d n∧wpQ S (k n) R:=by
 cases v with
 |none=>exact ⟨d,rfl,h⟩
 |some v=>
  obtain ⟨kd,z,h1,h2,h3⟩:=AgA h (Aaj hs v);exact ⟨z.toNat,⟨kd,z,h1,h2,rfl⟩,h3⟩
theorem Aba {y n:Nat} {kd:IntKind} {z:Int} (code:BoundsCode) (h0:0≤z) (hn:z.toNat=n) (hle:n≤y):(Instr.sliceBound (.int kd z) y code).run P w= .ok n w:=by
 have:z≤y:=by omega
 simp [Instr.sliceBound,asIntOf,h0,this,hn]
theorem Afn {t el:Nat} (hc:CxTy P cx) (he:elemTy cx t=some el) {p:Option Addr} {len cap:Nat} {lo hi mx:Option Value} {l h m:Nat} (hmx:Bd mx cap m) (hhi:Bd hi len h) (hlo:Bd lo 0 l) (hmh:mx.isSome=true→hi.isSome=true)
  (h1:l≤h) (h2:h≤m) (h3:m≤cap):(pc t (.slice p len cap) lo hi mx).run P w= .ok (.slice (if m=l then p else p.map (·.add (l*sizeOf cx el))) (h-l) (m-l)) w:=by
 obtain ⟨e1,i,inf,e2,e3,e4,e5,e6,e7,e8⟩:=AbA hc he;have hsz:=Aa8 hc e2 w;have hb:(Instr.sliceBounds true len cap lo hi mx).run P w= .ok (l,h,m) w:=by
  unfold Instr.sliceBounds;cases mx with
  |none=>
   simp only [Bd] at hmx;subst hmx;cases hi with
   |none=>
    simp only [Bd] at hhi;subst hhi;cases lo with
    |none=>simp only [Bd] at hlo;subst hlo;simp
    |some lo=>obtain ⟨kd,z,rfl,hz,hn⟩:=hlo;simp [Aba (P:=P) (w:=w) _ hz hn h1]
   |some hi=>
    obtain ⟨kd',z',rfl,hz',hn'⟩:=hhi;cases lo with
    |none=>simp only [Bd] at hlo;subst hlo;simp [Aba (P:=P) (w:=w) _ hz' hn' h2]
    |some lo=>obtain ⟨kd,z,rfl,hz,hn⟩:=hlo;simp [Aba (P:=P) (w:=w) _ hz hn h1,Aba (P:=P) (w:=w) _ hz' hn' h2]
  |some mx=>
   obtain ⟨kd'',z'',rfl,hz'',hn''⟩:=hmx;cases hi with
   |none=>simp at hmh
   |some hi=>
    obtain ⟨kd',z',rfl,hz',hn'⟩:=hhi;cases lo with
    |none=>simp only [Bd] at hlo;subst hlo;simp [Aba (P:=P) (w:=w) _ hz' hn' h2,Aba (P:=P) (w:=w) _ hz'' hn'' h3]
    |some lo=>obtain ⟨kd,z,rfl,hz,hn⟩:=hlo;simp [Aba (P:=P) (w:=w) _ hz hn h1,Aba (P:=P) (w:=w) _ hz' hn' h2,Aba (P:=P) (w:=w) _ hz'' hn'' h3]
 simp [pc,Instr.slice,run_underlying e1,hb,hsz]
theorem Aii {s:Nat} {xs:List T} {p:Option Addr} {len cap l h m:Nat} (ht:TR F w (.sl s xs) (.slice p len cap)) (h1:l≤h) (h2:h≤xs.length) (h3:h≤m) (_:m≤cap):
  TR F w (.sl s ((xs.drop l).take (h-l))) (.slice (if m=l then p else p.map (·.add (l*s))) (h-l) (m-l))∧((xs.drop l).take (h-l)).length=h-l:=by
 have hlen:((xs.drop l).take (h-l)).length=h-l:=by simp;omega
 refine ⟨?_,hlen⟩;by_cases hz:h-l=0
 ·rw [hz];simp only [un];exact .slN _ _ _
 ·cases ht with
  |slN=>simp at h2;omega
  |slC _ _ b oo _ c hn hcap hF hcc hl hr=>
   rw [if_neg (by omega)];simp only [ul,AaW];have:=TR.slC (F:=F) (w:=w) s ((xs.drop l).take (h-l)) b (oo+l*s) (m-l) (fun i j=>c (l+i) j) (by intro e;rw [e] at hlen;simp at hlen;omega) (by rw [hlen];omega) hF ?_ ?_ ?_
   ·rw [hlen] at this;exact this
   ·intro i j hi hj;rw [hlen] at hi;have:=hcc (l+i) j (by omega) hj;rw [jc] at this;simpa [wr] using this
   ·intro i x hx hne;rw [ji] at hx;split at hx
    ·rw [xh] at hx;exact hl _ x hx hne
    ·contradiction
   ·intro i j x t hx hne ht;rw [ji] at hx;split at hx
    ·rw [xh] at hx;exact hr _ j x t hx hne ht
    ·contradiction
theorem Af9 {e:Env} {a:Act} (hs:Sim ι F w H e a) {t el:Nat} (hc:CxTy P cx) (he:elemTy cx t=some el) {s:Nat} {xs:List T} {p:Option Addr} {len cap:Nat} {lo hi mx:Option Operand} {R:V→Prop} (hmh:mx.isSome=true→hi.isSome=true)
  (ht:TR F w (.sl s xs) (.slice p len cap)) (hss:s=sizeOf cx el) (h:wpQ S (sliceTree s xs (lo.map (evalO e)) (hi.map (evalO e)) (mx.map (evalO e))) R):
  ∃r val,R r∧VR ι F w H r val∧ ∀w,(pc t (.slice p len cap) (lo.map a.eval) (hi.map a.eval) (mx.map a.eval)).run P w= .ok val w:=by
 subst hss;have hlen:len=xs.length∧len≤cap:=by
  cases ht with
  |slN=>exact ⟨rfl,d8 _⟩
  |slC _ _ b oo _ c hn hcap=>exact ⟨rfl,hcap⟩
 obtain ⟨rfl,hcap⟩:=hlen;unfold sliceTree at h;obtain ⟨l,hl,h⟩:=Ach hs h;obtain ⟨h',hh,h⟩:=Ach hs h;cases mx with
 |none=>
  obtain ⟨⟨c1,c2⟩,h⟩:=h;obtain ⟨k1,k2⟩:=Aii ht c1 c2 (yp c2 hcap) (qn cap);exact ⟨_,_,h,.t _ _ k1,fun _=>Afn hc he (mx:=none) rfl hh hl (by simp) c1 (yp c2 hcap) (qn _)⟩
 |some mo=>
  simp only [ul] at h;obtain ⟨kd,z,q1,q2,⟨c1,c2,c3⟩,h⟩:=AgA h (Aaj hs mo);obtain ⟨k1,k2⟩:=Aii (m:=h') ht c1 c3 (qn _) (yp c3 hcap);refine ⟨_,_,h,?_,fun _=>Afn hc he (mx:=some (a.eval mo)) (m:=h') ⟨kd,z,q1,q2,c2.symm⟩ hh hl (by simpa using hmh) c1 (qn _) (yp c3 hcap)⟩;generalize (xs.drop l).take (h'-l)=ys at k1 k2⊢;rw [←k2] at k1⊢;exact .fit _ _ _ k1
theorem Ak8 {e:Env} {a:Act} (hs:Sim ι F w H e a) {t el:Nat} (hc:CxTy P cx) (he:elemTy cx t=some el) {s:Nat} {xs:List T} {p:Option Addr} {lo hi mx:Option Operand} {R:V→Prop} (hmh:mx.isSome=true→hi.isSome=true)
  (ht:TR F w (.sl s xs) (.slice p xs.length xs.length)) (hss:s=sizeOf cx el) (h:wpQ S (sliceFit s xs (lo.map (evalO e)) (hi.map (evalO e)) (mx.map (evalO e))) R):
  ∃r val,R r∧VR ι F w H r val∧ ∀w,(pc t (.slice p xs.length xs.length) (lo.map a.eval) (hi.map a.eval) (mx.map a.eval)).run P w= .ok val w:=by
 cases mx with
 |some mo=>exact Af9 hs hc he hmh ht hss h
 |none=>
  subst hss;unfold sliceFit at h;obtain ⟨l,hl,h⟩:=Ach hs h;obtain ⟨h',hh,h⟩:=Ach hs h;obtain ⟨⟨c1,c2⟩,h⟩:=h;obtain ⟨k1,k2⟩:=Aii ht c1 c2 c2 (qn xs.length);by_cases hq:h'=xs.length
  ·replace h:wpQ S (Q.ret (V.fit (sizeOf cx el) ((xs.drop l).take (h'-l)))) R:=by
    simp only [wpQ] at h;rw [decide_eq_true hq] at h;exact h
   refine ⟨_,_,h,?_,fun _=>Afn hc he (mx:=none) rfl hh hl (by simp) c1 c2 (qn _)⟩;rw [←hq] at k1⊢;generalize (xs.drop l).take (h'-l)=ys at k1 k2⊢;rw [←k2] at k1⊢;exact .fit _ _ _ k1
  ·replace h:wpQ S (Q.ret (V.t (.sl (sizeOf cx el) ((xs.drop l).take (h'-l))))) R:=by
    simp only [wpQ] at h;rw [decide_eq_false hq] at h;exact h
   exact ⟨_,_,h,.t _ _ k1,fun _=>Afn hc he (mx:=none) rfl hh hl (by simp) c1 c2 (qn _)⟩
end
end Go.Eva
namespace Go.Eva
open Go.RowKit
section
variable {P:Program} {cx:Cx} {S:Task→(Res→Prop)→Prop} {w:World} {ι:Io} {F:Nat→Prop} {H:Heap}
def CapR (ι:Io) (w:World) (id off:Nat) (lim:Option Nat) (s:Nat) (p:Option Addr) (cap:Nat):Prop:=match ι id with
 |none=>cap=0
 |some b=>(cap=0∨p=some ⟨b,off*s,none⟩)∧(match lim with
  |some l=>off+cap=l∧l*s≤blk w b
  |none=>(off+cap)*s=blk w b)
theorem Anb {ι':Io} {H':Heap} {id id' off cap l h m:Nat} {lim lim':Option Nat} {s:Nat} {xs':List T} {sp':Option Nat} {ro':Bool} {p:Option Addr}
  (ho':H'[id']?=some (.arr s xs' sp' ro')) (hι:ι' id'=ι id)
  (hv:CapR ι w id off lim s p cap)
  (h1:l≤h) (h2:h≤m) (h3:m≤cap) (h4:off+h≤xs'.length) (hlim:lim'=some (off+m)∨(lim'=lim∧m=cap)):
  OwnSl ι' w H' id' (off+l) (some (h-l)) lim' (.slice (if m=l then p else p.map (·.add (l*s))) (h-l) (m-l)):=by
 unfold OwnSl;rw [ho'];simp only [SlAt];rw [hι];simp only [ug];refine ⟨_,_,rfl,by omega,by omega,?_⟩;unfold CapR at hv;cases hb:ι id with
 |none=>rw [hb] at hv;simp only at hv⊢;omega
 |some b=>
  rw [hb] at hv;simp only at hv⊢;obtain ⟨k1,k2⟩:=hv;refine ⟨?_,?_⟩
  ·by_cases e:m=l
   ·left;omega
   ·right;rcases k1 with k1|rfl
    ·omega
    ·rw [if_neg e];simp [AaW,jc]
  ·rcases hlim with rfl|⟨rfl,rfl⟩
   ·refine ⟨by omega,?_⟩;cases lim with
    |none=>
     simp only at k2;have:(off+m)*s≤(off+cap)*s:=qj s (by omega);omega
    |some t=>
     simp only at k2;have:(off+m)*s≤t*s:=qj s (by omega);omega
   ·cases lim' with
    |none=>simp only at k2⊢;rw [show off+l+(m-l)=off+m by omega];exact k2
    |some t=>simp only at k2⊢;refine ⟨by omega,k2.2⟩
theorem Aeg {id off:Nat} {n lim:Option Nat} {v:Value} {s:Nat} {xs:List T} {sp:Option Nat} {ro:Bool} (ho:H[id]?=some (.arr s xs sp ro)) (h:OwnSl ι w H id off n lim v):
  ∃a cap,v= .slice a (n.getD xs.length) cap∧n.getD xs.length≤cap∧off+n.getD xs.length≤xs.length∧CapR ι w id off lim s a cap:=by
 unfold OwnSl at h;rw [ho] at h;exact h
theorem AnR (hg:Good ι F w H) {id:Nat} {s:Nat} {xs:List T} {sp:Option Nat} {ro:Bool} (ho:H[id]?=some (.arr s xs sp ro)):
  0<s∧((ι id=none∧xs= []∧ ∀k,sp=some k→k=0)∨ ∃b cs e,ι id=some b∧w.heap[b]?=some (.cells cs e (0,0))∧blk w b=cs.size∧
   xs.length*s≤cs.size∧(∀k,sp=some k→(xs.length+k)*s=cs.size)∧(∃m,cs.size=m*s)∧(∀(i:Nat) (c:Value),cs[i]?=some c→c.oneCell'=true)∧CellsR F w b s xs):=by
 obtain ⟨h0,_,h⟩:=hg.obj id _ ho;refine ⟨h0,?_⟩;rcases h with h|⟨b,cs,e,h1,h2,h3⟩
 ·exact .inl h
 ·refine .inr ⟨b,cs,e,h1,h2,?_,h3⟩;unfold blk;rw [h2]
theorem AgV {e:Env} {a:Act} (hg:Good ι F w H) (hs:Sim ι F w H e a) {t el:Nat} (hc:CxTy P cx) (he:elemTy cx t=some el) {id off len:Nat} {lim:Option Nat} {u:Value} {lo hi mx:Option Operand} {R:V×Heap→Prop}
  (hmh:mx.isSome=true→hi.isSome=true) {n:Option Nat} (hlen: ∀s xs sp ro,H[id]?=some (.arr s xs sp ro)→n.getD xs.length=len) (hv:OwnSl ι w H id off n lim u)
  (h:wpQ S (sliceOwn (sizeOf cx el) id off len lim H (lo.map (evalO e)) (hi.map (evalO e)) (mx.map (evalO e))) R):
  ∃v H' ι' val,R (v,H')∧Good ι' F w H'∧Step ι F H w ι' F H' w∧VR ι' F w H' v val∧ ∀w,(pc t u (lo.map a.eval) (hi.map a.eval) (mx.map a.eval)).run P w= .ok val w:=by
 unfold sliceOwn at h;rw [Aae] at h;split at h
 ·rename_i s xs sp ro ho;split at h
  ·exact h.elim
  ·rename_i hbeq;have hss:=zp hbeq;obtain ⟨p,cap,rfl,q1,q2,q3⟩:=Aeg ho hv;rw [hlen _ _ _ _ ho] at q1 q2⊢;obtain ⟨hs0,hob⟩:=AnR hg ho;obtain ⟨l,hl,hA⟩:=Ach hs h;clear h;obtain ⟨h',hh,h⟩:=Ach hs hA;clear hA;have plain: ∀(m:Nat) (lim':Option Nat),Bd (mx.map a.eval) cap m→l≤h'→h'≤m→m≤cap→off+h'≤xs.length→(lim'=some (off+m)∨(lim'=lim∧m=cap))→R (.sl id (off+l) (h'-l) lim',H)→
     ∃v H' ι' val,R (v,H')∧Good ι' F w H'∧Step ι F H w ι' F H' w∧VR ι' F w H' v val∧ ∀w,(pc t (.slice p len cap) (lo.map a.eval) (hi.map a.eval) (mx.map a.eval)).run P w= .ok val w:=by
    intro m lim' hmx c1 c2 c3 c4 c5 hR;refine ⟨_,_,ι,_,hR,hg,.refl ι F H w,.sl _ _ _ _ _ (Anb ho rfl q3 c1 c2 c3 c4 c5),fun w=> ?_⟩;have:=Afn hc he hmx hh hl (by simpa using hmh) c1 c2 c3 (P:=P) (w:=w) (p:=p);rw [hss];exact this
   cases mx with
   |some mo=>
    simp only [ul] at h;obtain ⟨kd,z,z1,z2,⟨c1,c2,c3⟩,h⟩:=AgA h (Aaj hs mo);exact plain z.toNat _ ⟨kd,z,z1,z2,rfl⟩ c1 c2 (by omega) (by omega) (.inl rfl) h
   |none=>
    simp only [Option.map_none] at h;obtain ⟨rm,hq,hrm⟩:=ApE h;clear h;have h:=hq;clear hq;split at h
    ·rename_i k;obtain ⟨rfl,hk⟩:=hrm;obtain ⟨k,rfl⟩:=Nat.exists_eq_succ_of_ne_zero hk;simp only [Nat.succ_eq_add_one] at*;obtain ⟨⟨c1,c2⟩,h⟩:=h;rcases hob with ⟨_,_,hsp⟩|⟨b,cs,ty,b1,b2,b3,b4,b5,b6,b7,b8⟩
     ·have:=hsp _ rfl;omega
     have q3':=q3;unfold CapR at q3;rw [b1] at q3;simp only at q3;have hcap:off+cap=xs.length+(k+1):=by
      have:=b5 _ rfl;rw [b3,←this] at q3;exact kp hs0 q3.2
     simp only [wpQ] at h;split at h
     ·rename_i hd;exact plain cap _ rfl c1 (by omega) (qn _) (by simpa using hd) (.inr ⟨rfl,rfl⟩) h
     ·rename_i hd;split at h
      ·exact h.elim
      ·obtain ⟨hid,h⟩:=Aap (Aaa _ _ _ h);have h:=Aar (Aaa _ _ _ h);have hsz:(xs.length+(k+1))*s=cs.size:=b5 _ rfl;have hxl:xs.length*s≤(xs.length+(k+1))*s:=qj s (by omega);obtain ⟨k1,k2⟩:=AgQ (w':=w) hg ho rfl rfl (o':= .arr s (xs++zn (k+1) .any) (some 0) false) rfl rfl rfl rfl rfl (fun _ _=>rfl) (fun _ _=>⟨hs0,Aak.2,.inr ⟨b,cs,ty,Aak.1.trans b1,b2,by simp;omega,
        by simpa using hsz,b6,b7,by
        obtain ⟨c,d1,d2,d3⟩:=b8;have hcell: ∀n,n<cs.size→w.cell? ⟨b,n,none⟩=some (cs.getD n undef)∧(cs.getD n undef).oneCell'=true:=by
         intro n hn;rw [cell_of_row w b n cs ty _ b2];have hget:cs[n]?=some cs[n]:=by simp [hn]
         simp [hn];exact b7 n _ hget
        refine ⟨fun i j=>cs.getD (i*s+j) undef,?_,?_,?_⟩
        ·intro i j hi hj;refine hcell _ ?_;simp at hi;have:(i+1)*s≤(xs.length+(k+1))*s:=qj s (by omega);rw [jc,xu] at this;omega
        ·intro i x hx hne;rcases wo i xs.length with hi|hi
         ·rw [qq hi] at hx;exact d2 i x hx hne
         ·rw [qg hi,yk] at hx;split at hx<;>simp_all
        ·intro i j x t hx hne ht;rcases wo i xs.length with hi|hi
         ·rw [qq hi] at hx;have hj:j<s:=by
           have:=d2 i x hx hne;have:=(zh.1 ht).1;omega
          have h5:=d3 i j x t hx hne ht;have h6:=(d1 i j hi hj).1;have h7:=(hcell (i*s+j) (by
           have:(i+1)*s≤(xs.length+(k+1))*s:=qj s (by omega);rw [jc,xu] at this;omega)).1
          rw [h6] at h7;show TR F w t (cs.getD (i*s+j) undef);rw [←ze h7];exact h5
         ·rw [qg hi,yk] at hx;split at hx<;>simp_all⟩⟩)
       have hlen':(H.set id .dead).length=H.length:=by simp
       rw [hlen'] at h;have hnew:(H.set id .dead++ [jy s (xs++zn (k+1) .any) (some 0) false])[H.length]?=some (.arr s (xs++zn (k+1) .any) (some 0) false):=by
        rw [qg (by omega)];simp
       refine ⟨_,_,_,_,h,k1,k2,.sl _ _ _ _ _ (Anb (id:=id) (m:=cap) (ι:=ι) (p:=p) hnew Aak.1 q3' c1 (by omega) (qn _) (by simp;omega) (.inr ⟨rfl,rfl⟩)),fun w=> ?_⟩;have:=Afn (mx:=none) hc he rfl hh hl (by simp) c1 (by omega) (qn cap) (P:=P) (w:=w) (p:=p);rw [hss];exact this
    ·rename_i tt sp';obtain ⟨⟨c1,c2,c3⟩,h⟩:=h;have:h'≤cap:=by
      unfold CapR at q3;rcases hob with ⟨b1,b2,_⟩|⟨b,cs,ty,b1,b2,b3,b4,b5,b6,b7,b8⟩
      ·subst b2;simp at c3;omega
      ·rw [b1] at q3;simp only at q3;omega
     exact plain cap _ rfl c1 this (qn _) (by omega) (.inr ⟨rfl,rfl⟩) h
    ·have hrm:sp=some 0:=hrm;subst hrm;obtain ⟨⟨c1,c2⟩,h⟩:=h;rcases hob with ⟨b1,b2,b3⟩|⟨b,cs,ty,b1,b2,b3,b4,b5,b6,b7,b8⟩
     ·subst b2;have hz:h'=0:=by simp at c2;omega
      exact plain cap _ rfl c1 (by omega) (qn _) (by simpa using c2) (.inr ⟨rfl,rfl⟩) h
     ·have q3':=q3;unfold CapR at q3;rw [b1] at q3;simp only at q3;have hcap:off+cap=xs.length:=by
       have:=b5 _ rfl;rw [b3,←this] at q3;exact kp hs0 q3.2
      exact plain cap _ rfl c1 (by omega) (qn _) (by omega) (.inr ⟨rfl,rfl⟩) h
    ·obtain ⟨⟨c1,c2⟩,h⟩:=h;exact plain cap _ rfl c1 (by omega) (qn _) (by omega) (.inr ⟨rfl,rfl⟩) h
 ·exact h.elim
theorem Aor {e:Env} {a:Act} (hg:Good ι F w H) (hs:Sim ι F w H e a) {t el:Nat} (hc:CxTy P cx) (he:elemTy cx t=some el) {v:V} {u:Value} {lo hi mx:Option Operand} {R:V×Heap→Prop}
  (hmh:mx.isSome=true→hi.isSome=true) (hv:VR ι F w H v u)
  (h:wpQ S (sliceV (sizeOf cx el) v H (lo.map (evalO e)) (hi.map (evalO e)) (mx.map (evalO e))) R):
  ∃v H' ι' val,R (v,H')∧Good ι' F w H'∧Step ι F H w ι' F H' w∧VR ι' F w H' v val∧ ∀w,(pc t u (lo.map a.eval) (hi.map a.eval) (mx.map a.eval)).run P w= .ok val w:=by
 unfold sliceV at h;split at h
 ·split at h
  ·rename_i hbeq;have ht:=hv.t_inv;have hsl: ∃p n c,u= .slice p n c:=by cases ht<;>exact ⟨_,_,_,rfl⟩
   obtain ⟨p,n,c,rfl⟩:=hsl;obtain ⟨r,val,h1,h2,h3⟩:=Af9 hs hc he hmh ht (zp hbeq) (Aaa _ _ _ h);exact ⟨r,H,ι,val,h1,hg,.refl ι F H w,h2,h3⟩
  ·exact h.elim
 ·split at h
  ·rename_i hbeq;cases hv with
   |fit _ _ p ht=>
   obtain ⟨r,val,h1,h2,h3⟩:=Ak8 hs hc he hmh ht (zp hbeq) (Aaa _ _ _ h);exact ⟨r,H,ι,val,h1,hg,.refl ι F H w,h2,h3⟩
  ·exact h.elim
 ·split at h
  ·rename_i id lim s xs sp ro ho;rw [Aae] at ho;cases hv with
   |all _ _ _ hv=>
   exact AgV hg hs hc he hmh (n:=none) (fun s' xs' sp' ro' h=>by rw [ho] at h;simp at h;simp [h.2.1]) hv h
  ·exact h.elim
 ·cases hv with
  |sl _ _ _ _ _ hv=>
  exact AgV hg hs hc he hmh (n:=some _) (fun _ _ _ _ _=>rfl) hv h
 ·exact h.elim
end
section
variable {P:Program} {cx:Cx} {S:Task→(Res→Prop)→Prop} {o:Oper} {e:Env} {H:Heap} {a:Act} {w:World} {ι:Io} {F:Nat→Prop} {R:V×Heap→Prop} {Q:Exit→Act→World→Prop}
theorem Al3 (hc:CxTy P cx) (hg:Good ι F w H) (hs:Sim ι F w H e a) (t:Nat) (x:Operand) (lo hi mx:Option Operand) (ho:o.op= .slice t x lo hi mx) (h:wpQ S (opQ cx o e H) R):
  Still Any P R o ι F H w a:=by
 unfold opQ at h;rw [ho] at h;simp only at h;split at h
 ·exact h.elim
 ·rename_i hmh;split at h
  ·rename_i el he;obtain ⟨v,h,hv⟩:=AbN (Aaa _ _ _ h) (Aaj hs x);obtain ⟨v',H',ι',val,k1,k2,k3,k4,k5⟩:=Aor hg hs hc he (by cases mx<;>cases hi<;>simp_all) hv h;refine ⟨v',H',ι',F,val,k1,k2,k3,k4,fun w _=> ?_⟩;simp [execOp,ho,k5 w]
  ·exact h.elim
end
end Go.Eva
namespace Go.Eva
open Go.RowKit
structure Row (F:Nat→Prop) (w:World) (s:Nat) (xs:List T) (vs:List Value):Prop where
 len:vs.length=xs.length*s
 one: ∀v∈vs,v.oneCell'=true
 size: ∀(i:Nat) (x:T),xs[i]?=some x→x≠ .any→x.cells.length=s
 rel: ∀(i j:Nat) (x t:T) (v:Value),xs[i]?=some x→x≠ .any→x.cells[j]?=some t→vs[i*s+j]?=some v→TR F w t v
section
variable {P:Program} {cx:Cx} {S:Task→(Res→Prop)→Prop} {w:World} {ι:Io} {F:Nat→Prop} {H:Heap} {s:Nat}
theorem Row.mono {F':Nat→Prop} {w':World} {xs:List T} {vs:List Value} (hF: ∀b,F b→F' b) (hw: ∀b,F b→w'.heap[b]?=w.heap[b]?) (h:Row F w s xs vs):Row F' w' s xs vs:=
 ⟨h.len,h.one,h.size,fun i j x t v h1 h2 h3 h4=>(h.rel i j x t v h1 h2 h3 h4).mono hF hw⟩
theorem Row.nil:Row F w s [] []:=⟨by simp,by simp,by simp,by simp⟩
theorem Row.append {xs ys:List T} {us vs:List Value} (h:Row F w s xs us) (k:Row F w s ys vs):Row F w s (xs++ys) (us++vs):=by
 refine ⟨by simp [h.len,k.len,jc],?_,?_,?_⟩
 ·intro v hv;rcases jp.1 hv with hv|hv
  ·exact h.one v hv
  ·exact k.one v hv
 ·intro i x hx hne;rcases wo i xs.length with hi|hi
  ·rw [qq hi] at hx;exact h.size i x hx hne
  ·rw [qg hi] at hx;exact k.size _ x hx hne
 ·intro i j x t v hx hne ht hv;rcases wo i xs.length with hi|hi
  ·rw [qq hi] at hx;have hj:j<s:=by
    have:=h.size i x hx hne;have:=(zh.1 ht).1;omega
   have:(i+1)*s≤xs.length*s:=qj s hi;rw [jc,xu] at this;rw [qq (by rw [h.len];omega)] at hv;exact h.rel i j x t v hx hne ht hv
  ·rw [qg hi] at hx;have:xs.length*s≤i*s:=qj s hi;rw [qg (by rw [h.len];omega),h.len] at hv;refine k.rel (i-xs.length) j x t v hx hne ht ?_;rw [mi,show i*s-xs.length*s+j=i*s+j-xs.length*s by omega];exact hv
theorem Row.take {xs:List T} {vs:List Value} (h:Row F w s xs vs) (n:Nat):Row F w s (xs.take n) (vs.take (n*s)):=by
 refine ⟨?_,fun v hv=>h.one v (uc hv),?_,?_⟩
 ·rw [List.length_take,List.length_take,h.len,←Nat.mul_min_mul_right]
 ·intro i x hx hne;rw [ji] at hx;split at hx
  ·exact h.size i x hx hne
  ·contradiction
 ·intro i j x t v hx hne ht hv;rw [ji] at hx hv;split at hx
  ·split at hv
   ·exact h.rel i j x t v hx hne ht hv
   ·contradiction
  ·contradiction
theorem Row.drop {xs:List T} {vs:List Value} (h:Row F w s xs vs) (n:Nat):Row F w s (xs.drop n) (vs.drop (n*s)):=by
 refine ⟨?_,fun v hv=>h.one v (dq hv),?_,?_⟩
 ·rw [List.length_drop,List.length_drop,h.len,mi]
 ·intro i x hx hne;rw [xh] at hx;exact h.size _ x hx hne
 ·intro i j x t v hx hne ht hv;rw [xh] at hx hv;refine h.rel (n+i) j x t v hx hne ht ?_;rw [jc,wr];exact hv
theorem Af7 {xs:List T} {c:Nat→Nat→Value} (h1: ∀i j,i<xs.length→j<s→(c i j).oneCell'=true) (hs: ∀(i:Nat) (x:T),xs[i]?=some x→x≠ .any→x.cells.length=s)
  (hr: ∀(i j:Nat) (x t:T),xs[i]?=some x→x≠ .any→x.cells[j]?=some t→TR F w t (c i j)):
  Row F w s xs ((jq (xs.length*s)).map fun k=>c (k/s) (k%s)):=by
 refine ⟨by simp,?_,hs,?_⟩
 ·intro v hv;simp at hv;obtain ⟨k,hk,rfl⟩:=hv;have h0:0<s:=by rcases wh s with rfl|h;simp at hk;exact h
  exact h1 _ _ (Nat.div_lt_of_lt_mul (by rw [yi];exact hk)) (cv _ h0)
 ·intro i j x t v hx hne ht hv;have hj:j<s:=by
   have:=hs i x hx hne;have:=(zh.1 ht).1;omega
  have hlt:=(zh.1 hx).1;simp at hv;obtain ⟨k,hk,rfl⟩:=hv;rw [wd (by
   have:(i+1)*s≤xs.length*s:=qj s hlt;rw [jc,xu] at this;omega)] at hk
  obtain rfl:=ze hk;have e1:(i*s+j)/s=i:=by rw [yi,bf (by omega),fa hj];omega
  have e2:(i*s+j)%s=j:=by rw [yi,bp,fe hj]
  rw [e1,e2];exact hr i j x t hx hne ht
def Reads (P:Program) (w:World) (s n:Nat) (u:Value) (vs:List Value):Prop:= ∀w':World,w'.heap=w.heap→(Builtin.firstCells s n u).run P w'= .ok vs.toArray w'
theorem AmS {w w':World} (h:w'.heap=w.heap) (a:Addr):w'.cell? a=w.cell? a:=World.cell?_of_block (by rw [h])
theorem Aci {b o n len cap:Nat} {vs:List Value} (hl:vs.length=n*s) (h: ∀(j:Nat) v,vs[j]?=some v→w.cell? ⟨b,o+j,none⟩=some v):Reads P w s n (.slice (some ⟨b,o,none⟩) len cap) vs:=by
 intro w' hw;refine run_firstCells_some w' s n _ len cap vs hl (fun j v hv=> ?_);rw [AaW,AmS hw];exact h j v hv
theorem Afm {b o n len cap:Nat} {vs:List Value} (hl:n*s≤vs.length) (h: ∀(j:Nat) v,vs[j]?=some v→w.cell? ⟨b,o+j,none⟩=some v):Reads P w s n (.slice (some ⟨b,o,none⟩) len cap) (vs.take (n*s)):=by
 refine Aci (by simp;omega) (fun j v hv=> ?_);rw [ji] at hv;split at hv
 ·exact h j v hv
 ·contradiction
theorem AaN {p:Option Addr} {len cap:Nat}:Reads P w s 0 (.slice p len cap) []:=by
 intro w' hw;cases p with
 |none=>exact run_firstCells_none w' s 0 len cap
 |some a=>exact run_firstCells_some w' s 0 a len cap [] (by simp) (by simp)
theorem Afl {p:Option Addr} {len cap:Nat}: ∀n,n≤([]:List T).length→Reads P w s n (.slice p len cap) (([]:List Value).take (n*s)):=by
 intro n hn;have:n=0:=by simpa using hn
 subst this;simpa using AaN
theorem Aom {b o len cap n:Nat} {xs:List T} {c:Nat→Nat→Value} (h1: ∀i j,i<xs.length→j<s→w.cell? ⟨b,o+i*s+j,none⟩=some (c i j)) (hn:n≤xs.length):
  Reads P w s n (.slice (some ⟨b,o,none⟩) len cap) (((jq (xs.length*s)).map fun k=>c (k/s) (k%s)).take (n*s)):=by
 refine Afm (by simp;exact qj _ hn) ?_;intro j v hv;simp at hv;obtain ⟨k,hk,rfl⟩:=hv;have hj:j<xs.length*s:=by
  have:=(zh.1 hk).1;simpa using this
 rw [wd hj] at hk;obtain rfl:=ze hk;have h0:0<s:=by rcases wh s with rfl|h;simp at hj;exact h
 have:=h1 (j/s) (j%s) (Nat.div_lt_of_lt_mul (by rw [yi];exact hj)) (cv _ h0);rw [show o+j/s*s+j%s=o+j by rw [wr,Nat.div_add_mod']] at this;exact this
theorem Afw {xs:List T} {p:Option Addr} {len cap:Nat} (h:TR F w (.sl s xs) (.slice p len cap)):len=xs.length∧ ∃vs,Row F w s xs vs∧ ∀n,n≤xs.length→Reads P w s n (.slice p len cap) (vs.take (n*s)):=by
 cases h with
 |slN=>exact ⟨rfl,[],.nil,Afl⟩
 |slC _ _ b oo _ c hn hcap hF hcc hl hr=>
  exact ⟨rfl,_,Af7 (fun i j hi hj=>(hcc i j hi hj).2) hl hr,fun n hn=>Aom (fun i j hi hj=>(hcc i j hi hj).1) hn⟩
theorem Adf (hg:Good ι F w H) {id:Nat} {xs:List T} {sp:Option Nat} {ro:Bool} (ho:H[id]?=some (.arr s xs sp ro)):
  0<s∧((ι id=none∧xs= []∧ ∀k,sp=some k→k=0)∨ ∃b cs e,ι id=some b∧w.heap[b]?=some (.cells cs e (0,0))∧blk w b=cs.size∧
   xs.length*s≤cs.size∧(∀k,sp=some k→(xs.length+k)*s=cs.size)∧(∃m,cs.size=m*s)∧(∀(i:Nat) (c:Value),cs[i]?=some c→c.oneCell'=true)∧Row F w s xs (cs.toList.take (xs.length*s))):=by
 obtain ⟨h0,h⟩:=AnR hg ho;refine ⟨h0,?_⟩;rcases h with h|⟨b,cs,e,b1,b2,b3,b4,b5,b6,b7,c,d1,d2,d3⟩
 ·exact .inl h
 refine .inr ⟨b,cs,e,b1,b2,b3,b4,b5,b6,b7,⟨by simp;omega,?_,d2,?_⟩⟩
 ·intro v hv;have hv:=uc hv;obtain ⟨i,hi,rfl⟩:=xn hv;exact b7 i _ (by simp at hi;simp [hi])
 ·intro i j x t v hx hne ht hv;have hi:=(zh.1 hx).1;have hj:j<s:=by
   have:=d2 i x hx hne;have:=(zh.1 ht).1;omega
  have h5:=(d1 i j hi hj).1;rw [cell_of_row w b _ cs e _ b2] at h5;rw [ji] at hv;split at hv
  ·have:cs[i*s+j]?=some v:=by simpa using hv
   rw [this] at h5;rw [ze h5];exact d3 i j x t hx hne ht
  ·contradiction
theorem Ak5 {w':World} {id b:Nat} {xs:List T} {vs rest:List Value} {cs:Array Value} {e:TypeId} {sp:Option Nat} {ro:Bool} (h0:0<s) (hb:ι id=some b) (hid:ι.hid id= []) (hh:w'.heap[b]?=some (.cells cs e (0,0))) (hr:Row F w' s xs vs)
  (hcs:cs.toList=vs++rest) (hone: ∀v∈rest,v.oneCell'=true) (hm: ∃m,cs.size=m*s) (hsp: ∀k,sp=some k→(xs.length+k)*s=cs.size):ObR ι F w' H id (.arr s xs sp ro):=by
 have hsz:cs.size=vs.length+rest.length:=by rw [←gn,hcs,jx]
 have hget: ∀k,k<vs.length→cs[k]?=vs[k]?:=by
  intro k hk;rw [←xg,hcs,qq hk]
 have hlen:=hr.len;refine ⟨h0,hid,.inr ⟨b,cs,e,hb,hh,by omega,hsp,hm,?_,fun i j=>vs.getD (i*s+j) undef,?_,hr.size,?_⟩⟩
 ·intro i c hc;rw [←xg,hcs] at hc;have:=jt hc;rcases jp.1 this with h|h
  ·exact hr.one _ h
  ·exact hone _ h
 ·intro i j hi hj;have:(i+1)*s≤xs.length*s:=qj s hi;rw [jc,xu] at this;have hk:i*s+j<vs.length:=by omega
  rw [cell_of_row w' b _ cs e _ hh,hget _ hk];simp [hk];exact hr.one _ (wm hk)
 ·intro i j x t hx hne ht;have hi:=(zh.1 hx).1;have hj:j<s:=by
   have:=hr.size i x hx hne;have:=(zh.1 ht).1;omega
  have:(i+1)*s≤xs.length*s:=qj s hi;rw [jc,xu] at this;have hk:i*s+j<vs.length:=by omega
  exact hr.rel i j x t _ hx hne ht (by simp [List.getD,hk])
theorem Aqr {z:T} {zc:Array Value} (n:Nat) (hz:zc.size=s) (h1: ∀(i:Nat) c,zc[i]?=some c→c.oneCell'=true) (hs:z≠ .any→z.cells.length=s) (hr: ∀(j:Nat) t c,z.cells[j]?=some t→zc[j]?=some c→TR F w t c):
  Row F w s (zn n z) (((u3 (n*s)).map fun k=>zc[k%s]!).toList):=by
 have:=Af7 (F:=F) (w:=w) (s:=s) (xs:=zn n z) (c:=fun _ j=>zc[j]!) ?_ ?_ ?_
 ·simpa using this
 ·intro i j _ hj;have hj:j<zc.size:=by omega
  simp [hj];exact h1 j _ (by simp [hj])
 ·intro i x hx hne;rw [yk] at hx;split at hx
  ·obtain rfl:=ze hx;exact hs hne
  ·contradiction
 ·intro i j x t hx hne ht;rw [yk] at hx;split at hx
  ·obtain rfl:=ze hx;have hj:j<zc.size:=by
    have:=hs hne;have:=(zh.1 ht).1;omega
   exact hr j t _ ht (by simp [hj])
  ·contradiction
end
end Go.Eva
namespace Go.Eva
open Go.RowKit
section
variable {P:Program} {cx:Cx} {S:Task→(Res→Prop)→Prop} {w:World} {ι:Io} {F:Nat→Prop} {H:Heap} {s:Nat}
theorem AjL {x y:Operand} (h:sameOp x y=true):x=y:=by
 unfold sameOp at h;split at h
 ·exact congrArg _ (zp h)
 ·contradiction
theorem AnN (hg:Good ι F w H) (h0:0<s) {xs:List T} {vs rest:List Value} {cs:Array Value} (e:TypeId) {sp:Option Nat} (hr:Row F w s xs vs) (hcs:cs.toList=vs++rest) (hone: ∀v∈rest,v.oneCell'=true)
  (hm: ∃m,cs.size=m*s) (hsp: ∀k,sp=some k→(xs.length+k)*s=cs.size):
  Good (upd ι H.length (some w.heap.size)) F (w.alloc (.cells cs e (0,0))) (H++ [.arr s xs sp false])∧Step ι F H w (upd ι H.length (some w.heap.size)) F (H++ [.arr s xs sp false]) (w.alloc (.cells cs e (0,0))):=by
 refine AbY hg _ cs e rfl ?_;exact Ak5 h0 Aak.1 Aak.2 Aau (hr.mono (fun _ h=>h) (fun b hb=>Aai (hg.fin b hb))) hcs hone hm hsp
theorem Ap5 {id:Nat} {ι:Io} {w:World} {H:Heap} {xs:List T} {sp:Option Nat} {ro:Bool} {b cap:Nat} (ho:H[id]?=some (.arr s xs sp ro)) (hb:ι id=some b) (hlen:xs.length≤cap) (hc:cap*s=blk w b):
  OwnSl ι w H id 0 none none (.slice (some ⟨b,0,none⟩) xs.length cap):=by
 unfold OwnSl;rw [ho];refine ⟨_,cap,rfl,hlen,by simp,?_⟩;rw [hb];exact ⟨.inr (by simp),by simpa using hc⟩
theorem AiQ (hc:CxTy P cx) {el:Nat} {i:TI} (hi:cx.ti.get el=some i) {z:V} (hz:zeroV cx depth el=some z) (hg:Good ι F w H) {R:T×Heap→Prop} {bb:Bool} (h:wpQ S (zT bb z H) R):
  ∃x H' F' inf zv,R (x,H')∧Good ι F' w H'∧Step ι F H w ι F' H' w∧P.info? el=some inf∧inf.zero=some zv∧inf.size=i.size∧inf.bytes=i.bytes∧zv.cells.size=i.size∧(∀(j:Nat) c,zv.cells[j]?=some c→c.oneCell'=true)∧
   ∀n (w':World),(∀b,F' b→w'.heap[b]?=w.heap[b]?)→Row F' w' i.size (zn n x) (((u3 (n*i.size)).map fun k=>zv.cells[k%i.size]!).toList):=by
 obtain ⟨inf,d,h1,h2,h3,h4,h5,h6,zv,h7,h8⟩:=hc.ty el i hi;obtain ⟨z1,z2,z3,z4,z5⟩:=h8 z hz;obtain ⟨x,H',F',t1,t2,t3,t4,t5⟩:=zT_ok hg h (z1 ι F w H);have hx:=TR.cells t4 (t5 z3);refine ⟨x,H',F',inf,zv,t1,t2,t3,h1,h7,h3,h4,z5,z2,fun n w' hw'=> ?_⟩;exact (Aqr (w:=w) n z5 z2 (fun _=>by rw [hx.1,z5]) (fun j t c ht hc=>hx.2 j t c ht hc)).mono (fun _ h=>h) hw'
end
section
variable {P:Program} {cx:Cx} {S:Task→(Res→Prop)→Prop} {o:Oper} {e:Env} {H:Heap} {a:Act} {w:World} {ι:Io} {F:Nat→Prop} {R:V×Heap→Prop} {Q:Exit→Act→World→Prop}
theorem Af5 (hc:CxTy P cx) (hg:Good ι F w H) (hs:Sim ι F w H e a) (t:Nat) (l c:Operand) (ho:o.op= .makeSlice t l c) (h:wpQ S (opQ cx o e H) R):o.wp P a w (fun a' w'=>OpPost R o ι F H w a a' w'∧OldSame w w') Q:=by
 unfold opQ at h;rw [ho] at h;simp only at h;split at h
 ·rename_i el he;split at h
  ·rename_i z kl n kc m hz hl hcc;have el1:=Aaj hs l;have ec1:=Aaj hs c;rw [hl] at el1;rw [hcc] at ec1;have el1:=el1.t_inv.int_inv;have ec1:=ec1.t_inv.int_inv;obtain ⟨e1,i,inf0,e2,e3,e4,e5,e6,e7,e8⟩:=AbA hc he;obtain ⟨x,H1,F1,inf,zv,r1,g1,s1,q1,q2,q3,q4,q5,q6,q7⟩:=AiQ hc e2 hz hg (Aaa _ _ _ h);clear h;obtain ⟨⟨c0,c1,c2,c3⟩,h⟩:=r1;rw [e8] at c2;replace h:=AaU (Aaa _ _ _ h);have hap:(appendMax:Nat)=140737488355328:=rfl;have hbytes:(inf.bytes:Int)*m≤281474976710656:=by
    have:((m.toNat*i.bytes:Nat):Int)≤140737488355328:=by rw [hap] at c2;omega
    rw [mh,bc (by omega)] at this;rw [q4,Int.mul_comm];omega
   have hrun:=run_make (P:=P) w t el inf zv e1 q1 q2 kl kc n m c0 c1 hbytes (by rw [hap] at c3;omega);have hrow:=q7 m.toNat w (fun _ _=>rfl);have hmade:madeCells zv.cells (m.toNat*inf.size)=(u3 (m.toNat*i.size)).map fun k=>zv.cells[k%i.size]!:=by simp [madeCells,q3,q5]
   rw [hmade] at hrun;split at h
   ·rename_i hvm;simp only [zf] at hvm;replace h:=Aar (Aaa _ _ _ h);have:=AjL hvm.2;subst this;rw [el1] at ec1;simp at ec1;obtain ⟨rfl,rfl⟩:=ec1;have hxn:x≠ .any:=by
     have h1:=hvm.1;unfold vecMade at h1;split at h1<;>first|contradiction|simp
    generalize hcs:((u3 (n.toNat*i.size)).map fun k=>zv.cells[k%i.size]!)=cs at*;have hcsz:cs.size=n.toNat*i.size:=by rw [←hcs];simp
    have hlen:(zn n.toNat x).length=n.toNat:=by simp
    obtain ⟨k1,k2⟩:=AbY g1 (.vec (sizeOf cx el) (zn n.toNat x) []) cs el rfl (by
     refine AkD (by rw [e7];exact e3) ⟨by simp [keysP],by simp [keysP]⟩ Aak.1 Aak.2 Aau (by rw [hlen,hcsz,e7];exact qn _) ⟨n.toNat,by rw [hcsz,e7]⟩ (fun k c hc=>hrow.one c (by simpa using km hc)) (fun k v hv=> ?_);simp [memP,findP] at hv;obtain ⟨y,hy,rfl⟩:=hv;have hyx:=hy;rw [yk] at hyx;split at hyx
     case isFalse=>contradiction
     obtain rfl:=ze hyx;refine ⟨fun e=>hxn (by simpa using e),?_,fun j t c ht hc=> ?_⟩
     ·show (V.t x).cells.length=_;rw [V.cells_t,wj,hrow.size k x hy hxn,e7]
     ·rw [V.cells_t] at ht;simp at ht;obtain ⟨t,ht,rfl⟩:=ht;exact .t _ _ ((hrow.rel k j x t c hy hxn ht (by rw [←e7];simpa using hc)).mono (fun _ h=>h) (fun b hb=>Aai (g1.fin b hb))))
    refine Aaw (w':=w.alloc (.cells cs el)) (val:= .slice (some ⟨w.heap.size,0,none⟩) n.toNat n.toNat) (by simp [execOp,ho,el1,hrun]) ⟨⟨_,_,_,F1,_,h,rfl,k1,s1.trans k2,.all _ _ _ ?_⟩,.alloc w _⟩;unfold OwnSl;rw [show (H1++ [Ob.vec (sizeOf cx el) (zn n.toNat x) []])[H1.length]?=some (.vec (sizeOf cx el) (zn n.toNat x) []) by simp];refine ⟨some ⟨w.heap.size,0,none⟩,n.toNat,by simp,by simp,by simp,?_⟩;rw [show upd ι H1.length (some w.heap.size) H1.length=some w.heap.size from Aak.1];refine ⟨.inr (by simp),?_⟩;simp only;unfold blk;rw [Aau];simp [hcsz,e7]
   replace h:=Aar (Aaa _ _ _ h);obtain ⟨k1,k2⟩:=AnN (sp:=some 0) g1 e3 el hrow (rest:= []) (cs:=(u3 (m.toNat*i.size)).map fun k=>zv.cells[k%i.size]!) (by simp) (by simp) ⟨m.toNat,by simp⟩ (by simp);rw [←e7] at k1 k2;have hno:(H1++ [jy (sizeOf cx el) (zn m.toNat x) (some 0) false])[H1.length]?=some (.arr (sizeOf cx el) (zn m.toNat x) (some 0) false):=by simp
   have hι:upd ι H1.length (some w.heap.size) H1.length=some w.heap.size:=Aak.1;have hbl:blk (w.alloc (.cells ((u3 (m.toNat*i.size)).map fun k=>zv.cells[k%i.size]!) el)) w.heap.size=m.toNat*i.size:=by
    unfold blk;rw [Aau];simp
   refine Aaw (w':=_) (val:= .slice (some ⟨w.heap.size,0,none⟩) n.toNat m.toNat) (by simp [execOp,ho,el1,ec1,hrun];rfl) ?_;rw [←e7] at hbl⊢;split at h
   ·rename_i hso;have:=AjL hso;subst this;rw [el1] at ec1;simp at ec1;obtain ⟨rfl,rfl⟩:=ec1;refine ⟨⟨_,_,_,F1,_,h,rfl,k1,s1.trans k2,.all _ _ _ ?_⟩,.alloc w _⟩;have:=Ap5 (cap:=n.toNat) hno hι (by simp) hbl.symm;simpa using this
   ·refine ⟨⟨_,_,_,F1,_,h,rfl,k1,s1.trans k2,.sl _ _ _ _ _ ?_⟩,.alloc w _⟩;unfold OwnSl;rw [hno];refine ⟨_,m.toNat,rfl,by simp;omega,by simp;omega,?_⟩;rw [hι];exact ⟨.inr (by simp),by simpa using hbl.symm⟩
  ·exact h.elim
 ·exact h.elim
end
end Go.Eva
namespace Go.Eva
open Go.RowKit
section
variable {P:Program} {w:World}
def Src (P:Program) (w:World) (inf:TypeInfo) (zv:Value) (tx:Nat) (x:Value) (m:Nat) (news:List Value):Prop:=
 ((∃e,P.underlying tx=some (.slice e))∧(∃a c,x= .slice a m c)∧Reads P w inf.size m x news)∨
 ((∃kn,P.underlying tx=some (.int kn))∧(∃k,x= .int k (m:Int))∧m*inf.bytes≤140737488355328∧m≤140737488355328∧news=(je zv.cells m).toList)
theorem Ahq (z:Array Value):je z 0= #[]:=by simp [je,show u3 0= #[] from rfl]
theorem AfT (t tx ty e:TypeId) (inf:TypeInfo) (zv:Value) (ht:P.underlying t=some (.slice e)) (hi:P.info? e=some inf) {x:Value} {news:List Value} (hsrc:Src P w inf zv tx x 0 news)
  (base:Option Addr) (n cap:Nat) (hn:n≤cap) (hnews:news= []):
  (xf #[t,tx] ty #[.slice base n cap,x]).run P w= .ok (.slice base n cap) w:=by
 subst hnews;rcases hsrc with ⟨⟨e',hx⟩,⟨a,c,rfl⟩,hr⟩|⟨⟨kn,hx⟩,⟨k,rfl⟩,h1,h2,h3⟩
 ·have:=hr w rfl;cases base<;>simp [xf,run_underlying ht,run_underlying hx,pq,typeInfo,hi,fo,hn,this,storeCells]
 ·have hw:IntKind.i64.wrap (0:Int)=0:=by rw [fb];omega
  cases base<;>simp [xf,run_underlying ht,run_underlying hx,pq,typeInfo,hi,asInt,asIntOf,hw,hn,storeCells]
theorem AoA (t tx ty e:TypeId) (inf:TypeInfo) (zv:Value) (ht:P.underlying t=some (.slice e)) (hi:P.info? e=some inf) (hz:inf.zero=some zv) (hsz:0<inf.size) {x:Value} {m:Nat} {news:List Value} (hsrc:Src P w inf zv tx x m news)
  (b off n cap:Nat) (hroom:n+m≤cap) {cur:Array Value} {e':TypeId} (hb:w.heap[b]?=some (.cells cur e' (0,0))) (hfit:off+n*inf.size+news.length≤cur.size) (h1: ∀v∈news,v.oneCell'=true):
  (xf #[t,tx] ty #[.slice (some ⟨b,off,none⟩) n cap,x]).run P w= .ok (.slice (some ⟨b,off,none⟩) (n+m) cap)
   (w.setRow b (cur.toList.take (off+n*inf.size)++news++cur.toList.drop (off+n*inf.size+news.length)).toArray):=by
 have hst:=run_storeCells_at P b (off+n*inf.size) e' news 0 cur w hb (by simpa using hfit) h1;simp only [y7] at hst;rcases hsrc with ⟨⟨e',hx⟩,⟨a,c,rfl⟩,hr⟩|⟨⟨kn,hx⟩,⟨k,rfl⟩,g1,g2,rfl⟩
 ·have:=hr w rfl;simp [xf,run_underlying ht,run_underlying hx,pq,typeInfo,hi,fo,hroom,this,m9,hst]
 ·have hw:IntKind.i64.wrap (m:Int)=m:=by rw [fb];omega
  have hneg: ¬((m:Int)<0):=by omega
  have h48i: ¬(281474976710656<(m:Int)*(inf.bytes:Int)):=by
   rw [←mh];omega
  by_cases hm:m=0
  ·subst hm;have hw0:IntKind.i64.wrap (0:Int)=0:=by rw [fb];omega
   have hroom':n≤cap:=by omega
   simp [Ahq] at hst⊢;simp [xf,run_underlying ht,run_underlying hx,pq,typeInfo,hi,asInt,asIntOf,hw0,hroom',m9,hst]
  ·have hns: ¬(m*inf.size=0):=Nat.mul_ne_zero hm (by omega);simp [xf,run_underlying ht,run_underlying hx,pq,typeInfo,zeroValue,hi,hz,asInt,asIntOf,hw,hneg,h48i,hroom,hns,m9,hst]
theorem Adq (t tx ty e:TypeId) (inf:TypeInfo) (zv:Value) (ht:P.underlying t=some (.slice e)) (hi:P.info? e=some inf) (hz:inf.zero=some zv) (hsz:0<inf.size) {x:Value} {m:Nat} {news:List Value} (hsrc:Src P w inf zv tx x m news)
  (base:Option Addr) (n cap:Nat) {olds:List Value} (hold:Reads P w inf.size n (.slice base n cap) olds) (hcap:n≤cap) (hg:cap<n+m) (h1:(n+m)*inf.bytes≤140737488355328) (h2:n+m≤140737488355328):
  (xf #[t,tx] ty #[.slice base n cap,x]).run P w= .ok (.slice (some ⟨w.heap.size,0,none⟩) (n+m) (grownCap w (n+m) cap e))
   (w.drew.alloc (.cells (olds.toArray++news.toArray++je zv.cells (grownCap w (n+m) cap e-(n+m))) e)):=by
 have hn: ¬(n+m≤cap):=by omega
 have h63': ¬(9223372036854775807<((n:Int)+(m:Int))):=by omega
 have h48': ¬(281474976710656<Builtin.nextslicecap (n+m) cap*inf.bytes):=by
  have:=growslice_fits (need:=n+m) (old:=cap) (bytes:=inf.bytes) hg (by omega);omega
 have ho:=hold w.drew rfl;rcases hsrc with ⟨⟨e',hx⟩,⟨a,c,rfl⟩,hr⟩|⟨⟨kn,hx⟩,⟨k,rfl⟩,g1,g2,rfl⟩
 ·have:=hr w.drew rfl;simp [xf,run_underlying ht,run_underlying hx,pq,typeInfo,zeroValue,hi,hz,fo,hn,h63',h48',Question.forced,ho,this,newRow,grownCap];congr 2;apply Array.ext';simp [ql]
 ·have hw:IntKind.i64.wrap (m:Int)=m:=by rw [fb];omega
  have hneg: ¬((m:Int)<0):=by omega
  have h48i: ¬(281474976710656<(m:Int)*(inf.bytes:Int)):=by
   rw [←mh];omega
  have hm:m≠0:=by omega
  have hns: ¬(m*inf.size=0):=Nat.mul_ne_zero hm (by omega);simp [xf,run_underlying ht,run_underlying hx,pq,typeInfo,zeroValue,hi,hz,asInt,asIntOf,hw,hneg,h48i,hn,h63',h48',hns,Question.forced,ho,newRow,grownCap]
end
end Go.Eva
namespace Go.Eva
open Go.RowKit
section
variable {P:Program} {cx:Cx} {S:Task→(Res→Prop)→Prop} {w:World} {ι:Io} {F:Nat→Prop} {H:Heap} {s:Nat}
theorem Aku (hg:Good ι F w H) (h0:0<s) {xs ys:List T} {olds news:List Value} (e:TypeId) (hx:Row F w s xs olds) (hy:Row F w s ys news) {g:Nat} (hge:xs.length+ys.length≤g) {zc:Array Value} (hz:zc.size=s) (hz1: ∀(j:Nat) c,zc[j]?=some c→c.oneCell'=true):
  ∃ι' w',w'=w.drew.alloc (.cells (olds.toArray++news.toArray++je zc (g-(xs.length+ys.length))) e)∧Good ι' F w' (H++ [.arr s (xs++ys) none false])∧Step ι F H w ι' F (H++ [.arr s (xs++ys) none false]) w'∧
   VR ι' F w' (H++ [.arr s (xs++ys) none false]) (.all H.length none) (.slice (some ⟨w.heap.size,0,none⟩) (xs.length+ys.length) g):=by
 obtain ⟨d1,d2⟩:=Acl hg;have hrow:Row F w.drew s (xs++ys) (olds++news):=Row.mono (w:=w) (w':=w.drew) (fun _ h=>h) (fun _ _=>rfl) (hx.append hy);have hsize:(olds.toArray++news.toArray++je zc (g-(xs.length+ys.length))).size=g*s:=by
  simp [size_zeroCells,hx.len,hy.len,hz];rw [←jc,←jc];congr 1;omega
 obtain ⟨k1,k2⟩:=AnN (sp:=none) d1 h0 e hrow (rest:=(je zc (g-(xs.length+ys.length))).toList) (cs:=olds.toArray++news.toArray++je zc (g-(xs.length+ys.length)))
  (by simp) (by
   intro v hv;simp [je] at hv;obtain ⟨k,hk,rfl⟩:=hv;have hpos:0<zc.size:=by rcases wh zc.size with h|h;rw [h] at hk;simp at hk;exact h
   have hlt:k%zc.size<zc.size:=cv _ hpos;simp only [hlt,getElem!_pos];exact hz1 (k%zc.size) _ (by simp [hlt])) ⟨g,hsize⟩ (by simp)
 refine ⟨_,_,rfl,k1,d2.trans k2,.all _ _ _ ?_⟩;have:=Ap5 (ι:=upd ι H.length (some w.drew.heap.size)) (w:=w.drew.alloc (.cells (olds.toArray++news.toArray++je zc (g-(xs.length+ys.length))) e)) (H:=H++ [jy s (xs++ys) none false]) (id:=H.length) (s:=s) (xs:=xs++ys) (sp:=none) (ro:=false) (b:=w.heap.size) (cap:=g)
  (by simp) Aak.1 (by simp;omega) (by unfold blk;rw [show w.heap.size=w.drew.heap.size from rfl,Aau];simp only;rw [hsize])
 simpa using this
theorem AiG (t tx ty e:TypeId) (inf:TypeInfo) (zv:Value) (ht:P.underlying t=some (.slice e)) (hi:P.info? e=some inf) (hz:inf.zero=some zv) (hsz:0<inf.size) {x:Value} {m:Nat} {news:List Value} (hsrc:Src P w inf zv tx x m news) (hlen:news.length=m*inf.size) (h1: ∀v∈news,v.oneCell'=true)
  {b off n cap:Nat} {p:Option Addr} (hp:cap=0∨p=some ⟨b,off*inf.size,none⟩) (hroom:n+m≤cap) {cs:Array Value} {e':TypeId} (hb:w.heap[b]?=some (.cells cs e' (0,0))) (hfit:(off+n+m)*inf.size≤cs.size):
  (xf #[t,tx] ty #[.slice p n cap,x]).run P w= .ok (.slice p (n+m) cap) (w.setRow b (cs.toList.take ((off+n)*inf.size)++news++cs.toList.drop ((off+n+m)*inf.size)).toArray):=by
 by_cases h0:cap=0
 ·have hm:m=0:=by omega
  have hn:n=0:=by omega
  subst hm;subst hn;have hnil:news= []:=qi (by simpa using hlen);subst hnil;have hself:w.setRow b (cs.toList.take ((off+0)*inf.size)++ []++cs.toList.drop ((off+0+0)*inf.size)).toArray=w:=by
   have:=setRow_self w b cs e' (0,0) hb;simpa using this
  rw [hself];exact AfT t tx ty e inf zv ht hi hsrc p 0 cap (by omega) rfl
 ·rcases hp with hp|rfl
  ·contradiction
  ·have:=AoA t tx ty e inf zv ht hi hz hsz hsrc b (off*inf.size) n cap hroom hb (by rw [hlen,←jc,←jc];exact hfit) h1;rw [this];rw [hlen,←jc,←jc]
theorem AkH {α:Type} {n bytes:Nat} {q:Eva.Q α} {R:α→Prop} (h:wpQ S (.want (room n bytes) q) R):n*bytes≤140737488355328∧n≤140737488355328∧wpQ S q R:=⟨h.1.1,h.1.2,h.2⟩
section
variable {t tx ty el:Nat} {i:TI} {inf:TypeInfo} {zv x:Value} {ys:List T} {news:List Value} {R:V×Heap→Prop}
 (hg:Good ι F w H) (ht:P.underlying t=some (.slice el)) (hi:P.info? el=some inf) (hz:inf.zero=some zv) (hsz:0<inf.size) (hzs:zv.cells.size=inf.size) (hz1: ∀(j:Nat) c,zv.cells[j]?=some c→c.oneCell'=true)
 (hsrc:Src P w inf zv tx x ys.length news) (hy:Row F w inf.size ys news)
include hg ht hi hz hsz hzs hz1 hsrc hy
theorem Akd {xs:List T} {olds:List Value} {p:Option Addr} {n cap:Nat} (hn:n=xs.length) (hx:Row F w inf.size xs olds) (hr:Reads P w inf.size n (.slice p n cap) olds) (hcap:n≤cap) (hgr:cap<n+ys.length)
  (h:wpQ S (anew inf.size (xs++ys) inf.bytes H) R):
  ∃r H' ι' val w',R (r,H')∧Good ι' F w' H'∧Step ι F H w ι' F H' w'∧VR ι' F w' H' r val∧OldSame w w'∧(xf #[t,tx] ty #[.slice p n cap,x]).run P w= .ok val w':=by
 subst hn;obtain ⟨r1,r2,h⟩:=AkH h;replace h:=Aar (Aaa _ _ _ h);simp only [jx] at r1 r2;have hrun:=Adq t tx ty el inf zv ht hi hz hsz hsrc p xs.length cap hr hcap hgr r1 r2;obtain ⟨ι',w',rfl,g1,g2,g3⟩:=Aku (g:=grownCap w (xs.length+ys.length) cap el) hg hsz el hx hy (grownCap_ge _ _ _ _) hzs hz1;exact ⟨_,_,ι',_,_,h,g1,g2,g3,.alloc w.drew _,hrun⟩
theorem AlD {id:Nat} {xs:List T} {sp:Option Nat} {p:Option Addr} {cap:Nat} (ho:H[id]?=some (.arr inf.size xs sp false)) (hcap:xs.length≤cap) (hcr:CapR ι w id 0 none inf.size p cap)
  (h:wpQ S (renew id inf.size (xs++ys) inf.bytes H) R):
  ∃r H' ι' val w',R (r,H')∧Good ι' F w' H'∧Step ι F H w ι' F H' w'∧VR ι' F w' H' r val∧(xf #[t,tx] ty #[.slice p xs.length cap,x]).run P w= .ok val w':=by
 obtain ⟨r1,r2,h⟩:=AkH h;obtain ⟨hid,h2⟩:=Aap (Aaa _ _ _ h);clear h;replace h2:=Aar (Aaa _ _ _ h2);simp only [jx,vm] at r1 r2 h2;have hnew:(H.set id .dead++ [jy inf.size (xs++ys) none false])[H.length]?=some (.arr inf.size (xs++ys) none false):=by
  rw [qg (by simp)];simp
 obtain ⟨_,hob⟩:=Adf hg ho;unfold CapR at hcr;rcases hob with ⟨b1,rfl,b3⟩|⟨b,cs,e',b1,b2,b3,b4,b5,⟨m,b6⟩,b7,b8⟩
 ·
  rw [b1] at hcr;simp only at hcr;subst hcr;by_cases hys:ys= []
  ·subst hys;have hnil:news= []:=qi (by simpa using hy.len);have hrun:=AfT t tx ty el inf zv ht hi hsrc p 0 0 (qn _) hnil;obtain ⟨k1,k2⟩:=AbH hg ho;obtain ⟨k3,k4⟩:=Adp k1 inf.size hsz;refine ⟨_,_,_,_,w,h2,k3,k2.trans k4,.all _ _ _ ?_,hrun⟩;unfold OwnSl;rw [hnew];refine ⟨p,0,rfl,qn _,qn _,?_⟩;simp [upd,updH]
  ·have hpos:0<ys.length:=vp.2 hys;have hrun:=Adq t tx ty el inf zv ht hi hz hsz hsrc p 0 0 (olds:= []) AaN (qn _) (by omega) (by simpa using r1) (by simpa using r2);obtain ⟨k1,k2⟩:=AbH hg ho;obtain ⟨ι',w',rfl,g1,g2,g3⟩:=Aku (g:=grownCap w (0+ys.length) 0 el) k1 hsz el Row.nil hy (by have:=grownCap_ge w (0+ys.length) 0 el;simp at this⊢;omega) hzs hz1;simp only [vm] at g3;exact ⟨_,_,ι',_,_,h2,g1,k2.trans g2,g3,hrun⟩
 ·rw [b1] at hcr;simp only [wq,jk] at hcr;obtain ⟨hp,hcb⟩:=hcr;by_cases hroom:xs.length+ys.length≤cap
  ·have hfit:(0+xs.length+ys.length)*inf.size≤cs.size:=by
    rw [←b3,←hcb,jk];exact qj _ hroom
   have hrun:=AiG t tx ty el inf zv ht hi hz hsz hsrc hy.len hy.one (off:=0) (n:=xs.length) (p:=p) (b:=b) (by simpa using hp) hroom b2 hfit;simp only [jk] at hrun hfit;generalize hcs:(cs.toList.take (xs.length*inf.size)++news++cs.toList.drop ((xs.length+ys.length)*inf.size)).toArray=cs' at hrun;have hsz':cs'.size=cs.size:=by
    rw [←hcs];simp [hy.len];rw [jc] at hfit⊢;omega
   have hh:=setRow_heap w b cs cs' _ _ b2;have hbl:blk (w.setRow b cs') b=cs.size:=by unfold blk;rw [hh];exact hsz'
   obtain ⟨k1,k2⟩:=AgQ (w':=w.setRow b cs') hg ho rfl rfl (o':= .arr inf.size (xs++ys) none false) rfl rfl rfl rfl (by simp) (fun b' hb'=>setRow_other w b b' cs' (fun e=>hb' (by rw [b1,e])))
    (fun _ hf=>Ak5 (vs:=cs.toList.take (xs.length*inf.size)++news) (rest:=cs.toList.drop ((xs.length+ys.length)*inf.size)) hsz (Aak.1.trans b1) Aak.2 hh ((b8.append hy).mono (fun _ h=>h) hf) (by rw [←hcs])
     (fun v hv=>by
      obtain ⟨k,hk,rfl⟩:=xn (dq hv);exact b7 k _ (by simp at hk;simp [hk])) ⟨m,by rw [hsz',b6]⟩ (by simp))
   refine ⟨_,_,_,_,_,h2,k1,k2,.all _ _ _ ?_,hrun⟩;unfold OwnSl;rw [hnew];refine ⟨p,cap,by simp,by simpa using hroom,by simp,?_⟩;have:upd ι H.length (ι id) H.length=some b:=Aak.1.trans b1;rw [this];exact ⟨by simpa using hp,by simp only [jk];rw [hbl,←b3];exact hcb⟩
  ·have holds:Reads P w inf.size xs.length (.slice p xs.length cap) (cs.toList.take (xs.length*inf.size)):=by
    rcases wh cap with h0|h0
    ·have:xs.length=0:=by omega
     rw [this];simp only [wq,un];exact AaN
    ·rcases hp with hp|rfl
     ·omega
     ·refine Aci b8.len (fun j v hv=> ?_);rw [cell_of_row w b _ cs _ _ b2,jk];rw [ji] at hv;split at hv
      ·simpa using hv
      ·contradiction
   have hrun:=Adq t tx ty el inf zv ht hi hz hsz hsrc p xs.length cap holds hcap (by omega) r1 r2;obtain ⟨k1,k2⟩:=AbH hg ho;obtain ⟨ι',w',rfl,g1,g2,g3⟩:=Aku (g:=grownCap w (xs.length+ys.length) cap el) k1 hsz el b8 hy (grownCap_ge _ _ _ _) hzs hz1;simp only [vm] at g3;exact ⟨_,_,ι',_,_,h2,g1,k2.trans g2,g3,hrun⟩
end
end
end Go.Eva
namespace Go.Eva
open Go.RowKit
theorem AlH {H:Heap} {id:Nat} {o:Ob} (h:H[id]?=some o):H.set id o=H:=by
 apply List.ext_getElem?;intro i;by_cases e:i=id
 ·subst e;rw [h];simp [(zh.1 h).1]
 ·rw [qy (vf e)]
section
variable {P:Program} {cx:Cx} {S:Task→(Res→Prop)→Prop} {w:World} {ι:Io} {F:Nat→Prop} {H:Heap} {s:Nat}
theorem AlU (hg:Good ι F w H) {id b off m:Nat} {xs ys:List T} {news:List Value} {sp:Option Nat} {cs:Array Value} {e:TypeId} (ho:H[id]?=some (.arr s xs sp false)) (hb:ι id=some b) (hh:w.heap[b]?=some (.cells cs e (0,0)))
  (hy:Row F w s ys news) (hm:ys.length=m) (hfit:off+m≤xs.length):
  ∃cs':Array Value,cs'=(cs.toList.take (off*s)++news++cs.toList.drop ((off+m)*s)).toArray∧Good ι F (w.setRow b cs') (H.set id (.arr s (xs.take off++ys++xs.drop (off+m)) sp false))∧
   Step ι F H w ι F (H.set id (.arr s (xs.take off++ys++xs.drop (off+m)) sp false)) (w.setRow b cs'):=by
 refine ⟨_,rfl,?_⟩;subst hm;obtain ⟨h0,hob⟩:=Adf hg ho;rcases hob with ⟨b1,_⟩|⟨b',cs',e',b1,b2,b3,b4,b5,⟨k,b6⟩,b7,b8⟩
 ·rw [hb] at b1;contradiction
 rw [hb] at b1;obtain rfl:=ze b1;rw [hh] at b2;simp at b2;obtain ⟨rfl,rfl⟩:=b2;have hfit':(off+ys.length)*s≤xs.length*s:=qj s hfit;have hlen:(xs.take off++ys++xs.drop (off+ys.length)).length=xs.length:=by simp;omega
 have hrow:=((b8.take off).append hy).append (b8.drop (off+ys.length));have hoff:off*s≤xs.length*s:=qj s (by omega);have hsz:(cs.toList.take (off*s)++news++cs.toList.drop ((off+ys.length)*s)).toArray.size=cs.size:=by
  simp [hy.len];rw [jc] at hfit'⊢;omega
 refine AhS hg ho rfl hb hh (.inr ⟨rfl,fun b' hb'=> ?_,_,sp,false,rfl,hlen⟩) (fun _=>rfl) (fun hl hf=> ?_)
 ·rw [hb] at hb';obtain rfl:=ze hb';unfold blk;rw [setRow_heap w b cs _ _ _ hh,hh];exact hsz
 ·refine Ak5 (rest:=cs.toList.drop (xs.length*s)) h0 hb (hg.obj id _ ho).2.1 (setRow_heap w b cs _ _ _ hh) (hrow.mono (fun _ h=>h) hf) ?_ ?_ ⟨k,by rw [hsz];exact b6⟩ (fun k hk=>by rw [hsz,hlen];exact b5 k hk)
  ·simp only [List.take_take,Nat.min_eq_left hoff,ql];congr 2;have:=List.take_append_drop (xs.length*s-(off+ys.length)*s) (cs.toList.drop ((off+ys.length)*s));rw [List.drop_drop,show (off+ys.length)*s+(xs.length*s-(off+ys.length)*s)=xs.length*s by omega] at this;rw [List.drop_take];exact this.symm
  ·intro v hv;obtain ⟨k,hk,rfl⟩:=xn (dq hv);exact b7 k _ (by simp at hk;simp [hk])
theorem Row.full {xs:List T} {vs:List Value} {u:Value} (hr:Row F w s xs vs) (h: ∀n,n≤xs.length→Reads P w s n u (vs.take (n*s))):Reads P w s xs.length u vs:=by
 have:=h xs.length (qn _);rw [vz (Nat.le_of_eq hr.len)] at this;exact this
theorem AqC {id off n cap:Nat} {lim:Option Nat} {xs:List T} {sp:Option Nat} {ro:Bool} {p:Option Addr} (ho:H[id]?=some (.arr s xs sp ro)) (hc:CapR ι w id off lim s p cap) (h1:n≤cap) (h2:off+n≤xs.length):OwnSl ι w H id off (some n) lim (.slice p n cap):=by
 unfold OwnSl;rw [ho];exact ⟨p,cap,rfl,h1,h2,hc⟩
theorem Aik (hg:Good ι F w H) {v:V} {u:Value} {xs:List T} (h:elems s v H=some xs) (hv:VR ι F w H v u): ∃p c vs,u= .slice p xs.length c∧Row F w s xs vs∧ ∀n,n≤xs.length→Reads P w s n u (vs.take (n*s)):=by
 unfold elems at h;split at h
 ·rename_i s' xs';split at h
  ·rename_i hb;obtain rfl:=zp hb;simp at h;subst h;have ht:=hv.t_inv;have hsl: ∃p n c,u= .slice p n c:=by cases ht<;>exact ⟨_,_,_,rfl⟩
   obtain ⟨p,n,c,rfl⟩:=hsl;obtain ⟨rfl,vs,h1,h2⟩:=Afw (P:=P) ht;exact ⟨p,c,vs,rfl,h1,h2⟩
  ·contradiction
 ·rename_i s' xs';split at h
  ·rename_i hb;obtain rfl:=zp hb;simp at h;subst h;cases hv with
   |fit _ _ p ht=>
   obtain ⟨_,vs,h1,h2⟩:=Afw (P:=P) ht;exact ⟨p,_,vs,rfl,h1,h2⟩
  ·contradiction
 ·rename_i id lim;rw [Aae] at h;split at h
  ·rename_i s' xs' sp ro ho;split at h
   ·rename_i hb;obtain rfl:=zp hb;simp at h;subst h;cases hv with
    |all _ _ _ hv=>
    obtain ⟨p,cap,rfl,q1,q2,q3⟩:=Aeg ho hv;simp only [wc] at q1⊢;refine ⟨p,cap,?_⟩;obtain ⟨_,hob⟩:=Adf hg ho;unfold CapR at q3;rcases hob with ⟨b1,rfl,b3⟩|⟨b,cs,e',b1,b2,b3,b4,b5,b6,b7,b8⟩
    ·exact ⟨[],rfl,.nil,Afl⟩
    ·rw [b1] at q3;obtain ⟨hp,_⟩:=q3;refine ⟨_,rfl,b8,fun n hn=> ?_⟩;rcases wh cap with h0|h0
     ·have:n=0:=by omega
      rw [this];simp only [wq,un];exact AaN
     ·rcases hp with hp|rfl
      ·omega
      ·refine Afm (by rw [b8.len];exact qj _ hn) (fun j v hv=> ?_);rw [cell_of_row w b _ cs _ _ b2,wq,jk];rw [ji] at hv;split at hv
       ·simpa using hv
       ·contradiction
   ·contradiction
  ·contradiction
 ·rename_i id off len lim;rw [Aae] at h;split at h
  ·rename_i s' xs' sp ro ho;split at h
   ·rename_i hb;obtain rfl:=zp hb;simp at h;subst h;cases hv with
    |sl _ _ _ _ _ hv=>
    obtain ⟨p,cap,rfl,q1,q2,q3⟩:=Aeg ho hv;simp only [ug] at q1 q2⊢;have hlen:((xs'.drop off).take len).length=len:=by simp;omega
    rw [hlen];refine ⟨p,cap,?_⟩;obtain ⟨_,hob⟩:=Adf hg ho;unfold CapR at q3;rcases hob with ⟨b1,rfl,b3⟩|⟨b,cs,e',b1,b2,b3,b4,b5,b6,b7,b8⟩
    ·have:len=0:=by simp at q2;omega
     subst this;exact ⟨[],rfl,by simpa using Row.nil,Afl⟩
    ·rw [b1] at q3;obtain ⟨hp,_⟩:=q3;have hrow:=(b8.drop off).take len;refine ⟨_,rfl,hrow,fun n hn=> ?_⟩;rcases wh cap with h0|h0
     ·have:n=0:=by omega
      subst this;simp only [wq,un];exact AaN
     ·rcases hp with hp|rfl
      ·omega
      ·refine Afm (by rw [hrow.len,hlen];exact qj _ hn) (fun j v hv=> ?_);rw [cell_of_row w b _ cs _ _ b2];rw [ji] at hv;split at hv
       ·rw [xh,ji] at hv;split at hv
        ·simpa using hv
        ·contradiction
       ·contradiction
   ·contradiction
  ·contradiction
 ·contradiction
section
variable {t tx ty el:Nat} {i:TI} {inf:TypeInfo} {zv x:Value} {ys:List T} {news:List Value} {R:V×Heap→Prop}
 (hg:Good ι F w H) (ht:P.underlying t=some (.slice el)) (hi:P.info? el=some inf) (hz:inf.zero=some zv) (hsz:0<inf.size) (hzs:zv.cells.size=inf.size) (hz1: ∀(j:Nat) c,zv.cells[j]?=some c→c.oneCell'=true)
 (hsrc:Src P w inf zv tx x ys.length news) (hy:Row F w inf.size ys news)
include hg ht hi hz hsz hsrc hy
theorem Ah7 {id off len:Nat} {xs:List T} {sp lim:Option Nat} {ro:Bool} {p:Option Addr} {cap:Nat} (ho:H[id]?=some (.arr inf.size xs sp ro)) (hol:off+len≤xs.length) (hroom:len+ys.length≤cap) (hcr:CapR ι w id off lim inf.size p cap)
  (hfit:ι id≠none→off+len+ys.length≤xs.length) (h:wpQ S (inPlace id inf.size off len xs ys sp lim ro H) R):
  ∃r H' ι' val w',R (r,H')∧Good ι' F w' H'∧Step ι F H w ι' F H' w'∧VR ι' F w' H' r val∧(xf #[t,tx] ty #[.slice p len cap,x]).run P w= .ok val w':=by
 unfold inPlace at h;split at h
 ·exact h.elim
 obtain ⟨hid,h⟩:=Aap (Aaa _ _ _ h);obtain ⟨_,hob⟩:=Adf hg ho;unfold CapR at hcr;rcases hob with ⟨b1,rfl,b3⟩|⟨b,cs,e',b1,b2,b3,b4,b5,b6,b7,b8⟩
 ·rw [b1] at hcr;simp only at hcr;subst hcr;have h1:len=0:=by omega
  have h2:ys= []:=qi (by omega);subst h1;subst h2;have hnil:news= []:=qi (by simpa using hy.len);have hrun:=AfT t tx ty el inf zv ht hi hsrc p 0 0 (qn _) hnil;rw [show ([]:List T).take (off+0)++ []++([]:List T).drop (off+0+([]:List T).length)= [] by simp,AlH ho] at h;refine ⟨_,_,ι,_,w,h,hg,.refl ι F H w,.sl _ _ _ _ _ ?_,hrun⟩;unfold OwnSl;rw [ho];refine ⟨p,0,rfl,qn _,?_,by rw [b1]⟩;simpa using hol
 ·have hcr':CapR ι w id off lim inf.size p cap:=by unfold CapR;exact hcr
  rw [b1] at hcr;obtain ⟨hp,hcb⟩:=hcr;have hf:=hfit (by rw [b1];simp);have hfit':(off+len+ys.length)*inf.size≤cs.size:=yp (qj _ hf) b4;have hrun:=AiG t tx ty el inf zv ht hi hz hsz hsrc hy.len hy.one (p:=p) hp hroom b2 hfit';obtain ⟨cs',e1,k1,k2⟩:=AlU hg ho b1 b2 hy rfl hf;rw [←e1] at hrun;refine ⟨_,_,ι,_,_,h,k1,k2,.sl _ _ _ _ _ ?_,hrun⟩;refine AqC (by simp [hid];exact ⟨rfl,rfl,rfl,rfl⟩) ?_ hroom (by simp;omega);have hbl:blk (w.setRow b cs') b=blk w b:=by
   unfold blk;rw [setRow_heap w b cs _ _ _ b2,b2];simp only;rw [e1];have:=hy.len;simp only [jc] at hfit';simp [jc];omega
  unfold CapR;rw [b1];refine ⟨hp,?_⟩;rw [hbl];exact hcb
end
end
end Go.Eva
namespace Go.Eva
open Go.RowKit
section
variable {P:Program} {cx:Cx} {S:Task→(Res→Prop)→Prop} {w:World} {ι:Io} {F:Nat→Prop} {H:Heap} {s:Nat}
variable {t tx ty el:Nat} {i:TI} {inf:TypeInfo} {zv x:Value} {ys:List T} {news:List Value} {R:V×Heap→Prop}
 (hg:Good ι F w H) (ht:P.underlying t=some (.slice el)) (hi:P.info? el=some inf) (hz:inf.zero=some zv) (hsz:0<inf.size) (hzs:zv.cells.size=inf.size) (hz1: ∀(j:Nat) c,zv.cells[j]?=some c→c.oneCell'=true)
 (hsrc:Src P w inf zv tx x ys.length news) (hy:Row F w inf.size ys news)
include hg ht hi hz hsz hzs hz1 hsrc hy
theorem Aht {v:V} {u:Value} (hv:VR ι F w H v u) (h:wpQ S (appendV inf.size inf.bytes v ys H) R):
  ∃r H' ι' val w',R (r,H')∧Good ι' F w' H'∧Step ι F H w ι' F H' w'∧VR ι' F w' H' r val∧((∃s xs,v= .fit s xs)→OldSame w w')∧(xf #[t,tx] ty #[u,x]).run P w= .ok val w':=by
 have weak: ∀ {u':Value},(∀s xs,v≠ .fit s xs)→(∃r H' ι' val w',R (r,H')∧Good ι' F w' H'∧Step ι F H w ι' F H' w'∧VR ι' F w' H' r val∧(xf #[t,tx] ty #[u',x]).run P w= .ok val w')→
   ∃r H' ι' val w',R (r,H')∧Good ι' F w' H'∧Step ι F H w ι' F H' w'∧VR ι' F w' H' r val∧((∃s xs,v= .fit s xs)→OldSame w w')∧(xf #[t,tx] ty #[u',x]).run P w= .ok val w':=by
  rintro u' hn ⟨r,H',ι',val,w',k1,k2,k3,k4,k5⟩;exact ⟨r,H',ι',val,w',k1,k2,k3,k4,fun ⟨s,xs,e⟩=>absurd e (hn s xs),k5⟩
 have strong: ∀ {u':Value},(∃r H' ι' val w',R (r,H')∧Good ι' F w' H'∧Step ι F H w ι' F H' w'∧VR ι' F w' H' r val∧OldSame w w'∧(xf #[t,tx] ty #[u',x]).run P w= .ok val w')→
   ∃r H' ι' val w',R (r,H')∧Good ι' F w' H'∧Step ι F H w ι' F H' w'∧VR ι' F w' H' r val∧((∃s xs,v= .fit s xs)→OldSame w w')∧(xf #[t,tx] ty #[u',x]).run P w= .ok val w':=by
  rintro u' ⟨r,H',ι',val,w',k1,k2,k3,k4,k5,k6⟩;exact ⟨r,H',ι',val,w',k1,k2,k3,k4,fun _=>k5,k6⟩
 unfold appendV at h;split at h
 ·rename_i s';split at h
  ·rename_i hb;obtain rfl:=zp hb;cases hv with
   |fit _ _ p hv=>
   simp only [xk];by_cases hys:ys= []
   ·subst hys;obtain ⟨_,_,h⟩:=AkH h;replace h:=Aar (Aaa _ _ _ h);have hnil:news= []:=qi (by simpa using hy.len);have hrun:=AfT t tx ty el inf zv ht hi hsrc p 0 0 (qn _) hnil;obtain ⟨k3,k4⟩:=Adp hg inf.size hsz;refine ⟨_,_,_,_,w,h,k3,k4,.all _ _ _ ?_,fun _=> .refl w,hrun⟩;unfold OwnSl;simp [SlAt,upd,updH]
   ·have hpos:0<ys.length:=vp.2 hys;exact strong (Akd hg ht hi hz hsz hzs hz1 hsrc hy (xs:= []) (olds:= []) rfl .nil AaN (qn _) (by omega) h)
  ·exact h.elim
 ·rename_i s' xs _;split at h
  ·rename_i hb;obtain rfl:=zp hb;cases hv with
   |fit _ _ p hv=>
   obtain ⟨hne,h⟩:=h;have hpos:0<ys.length:=vp.2 hne;obtain ⟨_,vs,h1,h2⟩:=Afw (P:=P) hv;exact strong (Akd hg ht hi hz hsz hzs hz1 hsrc hy rfl h1 (h1.full h2) (qn _) (by omega) h)
  ·exact h.elim
 ·rename_i id;rw [Aae] at h;split at h
  ·rename_i s' xs sp ho;split at h
   ·rename_i hb;obtain rfl:=zp hb;cases hv with
    |all _ _ _ hv=>
    obtain ⟨p,cap,rfl,q1,q2,q3⟩:=Aeg ho hv;exact weak (by simp) (AlD hg ht hi hz hsz hzs hz1 hsrc hy ho q1 q3 h)
   ·exact h.elim
  ·exact h.elim
 ·rename_i id off len lim;rw [Aae] at h;split at h
  ·rename_i s' xs sp ro ho;split at h
   ·exact h.elim
   ·rename_i hb;obtain rfl:=zp hb;have hvv:=hv;cases hv with
    |sl _ _ _ _ _ hv=>
    obtain ⟨p,cap,rfl,q1,q2,q3⟩:=Aeg ho hv;simp only [ug] at q1 q2 hvv⊢;have hlen:((xs.drop off).take len).length=len:=by simp;omega
    obtain ⟨h0,hob⟩:=Adf hg ho;have anew':cap<len+ys.length→wpQ S (anew inf.size ((xs.drop off).take len++ys) inf.bytes H) R→
      ∃r H' ι' val w',R (r,H')∧Good ι' F w' H'∧Step ι F H w ι' F H' w'∧VR ι' F w' H' r val∧((∃s xs,V.sl id off len lim= .fit s xs)→OldSame w w')∧(xf #[t,tx] ty #[.slice p len cap,x]).run P w= .ok val w':=by
     intro hgr h;have he:elems inf.size (.sl id off len lim) H=some ((xs.drop off).take len):=by
      unfold elems;simp [Aae,ho]
     obtain ⟨p',c',vs,e1,e2,e3⟩:=Aik (P:=P) hg he hvv;have e3:=e2.full e3;rw [hlen] at e1 e3;simp at e1;obtain ⟨rfl,rfl⟩:=e1;exact strong (Akd hg ht hi hz hsz hzs hz1 hsrc hy hlen.symm e2 e3 q1 hgr h)
    obtain ⟨rm,hq,hrm⟩:=ApE h;clear h;have h:=hq;clear hq;split at h
    ·rename_i tt sp';simp only [wpQ] at h;have q3':=q3;unfold CapR at q3';split at h
     ·rename_i hd;obtain ⟨htl,h⟩:=h;simp only [decide_eq_true_eq] at hd;refine weak (by simp) (Ah7 hg ht hi hz hsz hsrc hy ho q2 ?_ q3 (fun _=>by omega) h);rcases hob with ⟨b1,rfl,b3⟩|⟨b,cs,e',b1,b2,b3,b4,b5,b6,b7,b8⟩
      ·simp at htl;omega
      ·rw [b1] at q3';simp only at q3';omega
     ·rename_i hd;simp only [decide_eq_false_iff_not] at hd;refine anew' ?_ h;rcases hob with ⟨b1,rfl,b3⟩|⟨b,cs,e',b1,b2,b3,b4,b5,b6,b7,b8⟩
      ·rw [b1] at q3';simp only at q3';simp at q2;omega
      ·rw [b1] at q3';simp only at q3';omega
    ·have hrm:sp=some 0:=hrm;subst hrm;simp only [wpQ] at h;have q3':=q3;unfold CapR at q3';have hcap:off+cap=xs.length:=by
      rcases hob with ⟨b1,rfl,b3⟩|⟨b,cs,ty,b1,b2,b3,b4,b5,b6,b7,b8⟩
      ·rw [b1] at q3';simp only at q3';simp at q2;simp [q3',q2.1]
      ·rw [b1] at q3';simp only at q3';have:=b5 _ rfl;rw [b3,←this] at q3';exact kp h0 q3'.2
     split at h
     ·rename_i hd;simp only [decide_eq_true_eq] at hd;exact weak (by simp) (Ah7 hg ht hi hz hsz hsrc hy ho q2 (by omega) q3 (fun _=>hd) h)
     ·rename_i hd;simp only [decide_eq_false_iff_not] at hd;exact anew' (by omega) h
    ·split at h
     ·exact h.elim
     ·obtain ⟨⟨rfl,rfl⟩,h⟩:=h;exact weak (by simp) (AlD hg ht hi hz hsz hzs hz1 hsrc hy ho q1 q3 h)
  ·exact h.elim
 ·exact h.elim
end
section
variable {P:Program} {cx:Cx} {S:Task→(Res→Prop)→Prop} {o:Oper} {e:Env} {H:Heap} {a:Act} {w:World} {ι:Io} {F:Nat→Prop} {R:V×Heap→Prop}
def BPost (R:V×Heap→Prop) (ι:Io) (F:Nat→Prop) (H:Heap) (w:World) (val:Value) (w':World):Prop:=
 ∃r H' ι' F',R (r,H')∧Good ι' F' w' H'∧Step ι F H w ι' F' H' w'∧VR ι' F' w' H' r val
theorem b_len (hc:CxTy P cx) (hg:Good ι F w H) {v:V} {u:Value} (hv:VR ι F w H v u) {t ty:Nat} (h:wpQ S (builtinV cx .len [t] [v] H) R): ∃val,(∀w,(nq #[t] ty #[u]).run P w= .ok val w)∧BPost R ι F H w val w:=by
 unfold builtinV at h;simp only at h;split at h
 ·rename_i n hlt hn;refine ⟨.int .i64 n,fun w=> ?_,_,_,_,_,h,hg,.refl ι F H w,.t _ _ (.int _ _)⟩;unfold lenTy at hlt;split at hlt
  ·split at hlt
   ·rename_i hget;obtain ⟨inf,d,h1,h2,h3,h4,h5,_⟩:=hc.ty _ _ hget;simp only [TyR] at h5;subst h5;have:=hv.t_inv.str_inv;subst this;simp [lenV] at hn;subst hn;simp [nq,run_underlying h2,goInt]
   ·contradiction
  ·rename_i hns;obtain ⟨el,he⟩:=Option.isSome_iff_exists.1 hlt;obtain ⟨e1,_⟩:=AbA hc he;rcases Aqc hn hv with ⟨p,c,rfl⟩|⟨st,rfl,_,_⟩
   ·simp [nq,run_underlying e1,goInt]
   ·exact absurd rfl (hns st)
 ·exact h.elim
end
end Go.Eva
namespace Go.Eva
open Go.RowKit
section
variable {P:Program} {cx:Cx} {S:Task→(Res→Prop)→Prop} {o:Oper} {e:Env} {H:Heap} {a:Act} {w:World} {ι:Io} {F:Nat→Prop} {R:V×Heap→Prop}
theorem AjV {i:Nat}: ∀ {ps:List (Nat×V)},toldIn i ps=true→ ∃v,findP i ps=some v
 | [],h=>by simp [toldIn] at h
 |(j,v)::r,h=>by
  unfold toldIn at h;unfold findP;split at h
  ·rename_i hb;rw [if_pos (zp hb)];exact ⟨v,rfl⟩
  ·split
   ·exact ⟨v,rfl⟩
   ·exact AjV h
theorem Aib: ∀ {n:Nat} {ps:List (Nat×V)},toldAll n ps=true→ ∀i,i<n→ ∃v,findP i ps=some v
 |0,_,_,i,hi=>by omega
 |n+1,ps,h,i,hi=>by
  unfold toldAll at h;split at h
  ·rename_i hb;by_cases e:i=n
   ·subst e;exact AjV hb
   ·exact Aib h i (by omega)
  ·contradiction
theorem Al6: ∀ {ps:List (Nat×V)},openP ps=true→ ∀i v,findP i ps=some v→noShut v.cells=true
 | [],_,i,v,h=>by simp [findP] at h
 |(j,x)::r,ho,i,v,h=>by
  unfold openP at ho;split at ho
  ·rename_i hx;unfold findP at h;split at h
   ·cases h;exact hx
   ·exact Al6 ho i v h
  ·contradiction
theorem AmK {es:Nat} {s x:V} {xs:List T} {ps:List (Nat×V)} (h:vecOf es s x H=some (xs,ps)): ∃id lim,s= .fit es []∧x= .all id lim∧H[id]?=some (.vec es xs ps)∧0<xs.length∧ ∀i,i<xs.length→ ∃v,findP i ps=some v∧noShut v.cells=true:=by
 unfold vecOf at h;split at h
 ·rename_i z id lim;rw [Aae] at h;split at h
  ·rename_i hb ho;have h1:=zp hb;subst h1;split at h
   ·rename_i hc;simp only [zf] at hc;cases h;have h2:=zp hc.1.1;subst h2;refine ⟨id,lim,rfl,rfl,ho,by simp,fun i hi=> ?_⟩;obtain ⟨v,hv⟩:=Aib hc.1.2 i hi;exact ⟨v,hv,Al6 hc.2 i v hv⟩
   ·contradiction
  ·contradiction
 ·contradiction
theorem AoN (hg:Good ι F w H) {s:Nat} {xs:List T} {ps:List (Nat×V)} {news:List Value} (e:TypeId) (h0:0<s) (ht:Told ps xs.length) (hn:news.length=xs.length*s) (h1: ∀v∈news,v.oneCell'=true)
  (hv: ∀(i:Nat) (v:V),memP ps xs i=some v→v≠ .t .any∧v.size=s∧ ∀(j:Nat) y c,v.cells[j]?=some y→news[i*s+j]?=some c→VR ι F w H y c) {g:Nat} (hge:xs.length≤g) {zc:Array Value} (hzs:zc.size=s) (hz1: ∀(j:Nat) c,zc[j]?=some c→c.oneCell'=true):
  ∃ι' w',w'=w.drew.alloc (.cells (([]:List Value).toArray++news.toArray++je zc (g-(0+xs.length))) e)∧Good ι' F w' (H++ [.vec s xs ps])∧Step ι F H w ι' F (H++ [.vec s xs ps]) w'∧
   VR ι' F w' (H++ [.vec s xs ps]) (.all H.length none) (.slice (some ⟨w.heap.size,0,none⟩) (0+xs.length) g):=by
 obtain ⟨d1,d2⟩:=Acl hg;generalize hcs:([]:List Value).toArray++news.toArray++je zc (g-(0+xs.length))=cs;have hsz:cs.size=g*s:=by
  rw [←hcs];simp [je,hzs,hn];rw [←jc];congr 1;omega
 have hget: ∀(k:Nat) (c:Value),cs[k]?=some c→k<xs.length*s→news[k]?=some c:=by
  intro i c hc hi;rw [←hcs] at hc;rw [yy (by simp [hn,hi])] at hc;simpa using hc
 obtain ⟨k1,k2⟩:=AbY d1 (.vec s xs ps) cs e rfl (by
  refine AkD h0 ht Aak.1 Aak.2 Aau (by rw [hsz];exact qj s hge) ⟨g,hsz⟩ (fun i c hc=> ?_) (fun i v hvi=> ?_)
  ·by_cases hi:i<xs.length*s
   ·exact h1 c (jt (hget i c hc hi))
   ·rw [←hcs] at hc;rw [Array.getElem?_append_right (by simp [hn];omega)] at hc;have hm:=km hc;simp [je] at hm;obtain ⟨k,hk,rfl⟩:=hm;have hpos:0<zc.size:=by omega
    have hlt:k%zc.size<zc.size:=cv _ hpos;simp only [hlt,getElem!_pos];exact hz1 (k%zc.size) _ (by simp [hlt])
  ·obtain ⟨q1,q2,q3⟩:=hv i v hvi;refine ⟨q1,q2,fun j y c hy hc=> ?_⟩;have hj:=(zh.1 hy).1;have hvl:v.cells.length=v.size:=rfl;have hi:=Abv ht hvi;have:(i+1)*s≤xs.length*s:=qj s (by omega);rw [jc,xu] at this;exact (d2.vr hg (q3 j y c hy (hget _ c hc (by omega)))).mono (fun _ h=>h) (fun b hb=>Aai (d1.fin b hb)) (Adc d1.lt))
 refine ⟨_,_,rfl,k1,d2.trans k2,.all _ _ _ ?_⟩;unfold OwnSl;rw [show (H++ [Ob.vec s xs ps])[H.length]?=some (.vec s xs ps) by simp];refine ⟨some ⟨w.heap.size,0,none⟩,g,by simp,by simpa using hge,by simp,?_⟩;rw [show upd ι H.length (some w.drew.heap.size) H.length=some w.drew.heap.size from Aak.1];refine ⟨.inr (by rw [wq];rfl),?_⟩;simp only;unfold blk;rw [Aau];simp [hsz]
theorem AkC {es:Nat} {s x:V} {id:Nat} {xs:List T} {ps:List (Nat×V)} {v:V} (h:vecOne es s x H=some (id,xs,ps,v)):s= .all id none∧(H[id]?=some (.vec es xs ps)∨(xs= []∧ps= []∧ ∃sp,H[id]?=some (.arr es [] sp false)))∧ ∃j lim y,x= .all j lim∧H[j]?=some (.vec es [y] [(0,v)])∧noShut v.cells=true:=by
 unfold vecOne at h;split at h
 ·rename_i id' j lim;rw [Aae,Aae] at h;split at h
  ·rename_i h1 h2;split at h
   ·rename_i hc;simp only [zf] at hc;cases h;obtain rfl:=zp hc.1.1;obtain rfl:=zp hc.1.2;exact ⟨rfl,.inl h1,j,lim,_,rfl,h2,hc.2⟩
   ·contradiction
  ·rename_i h1 h2;split at h
   ·rename_i hc;simp only [zf] at hc;cases h;obtain rfl:=zp hc.1.1;obtain rfl:=zp hc.1.2;exact ⟨rfl,.inr ⟨rfl,rfl,_,h1⟩,j,lim,_,rfl,h2,hc.2⟩
   ·contradiction
  ·contradiction
 ·contradiction
theorem AoQ {n m s:Nat} {fp:Nat→Nat→List Nat}:((jq (n+m)).flatMap fun i=>(jq s).flatMap (if i<n then fp i else fun _=> []))=(jq n).flatMap fun i=>(jq s).flatMap (fp i):=by
 rw [List.range_add,List.flatMap_append,List.flatMap_map];have h1:((jq m).flatMap fun i=>(jq s).flatMap (if n+i<n then fp (n+i) else fun _=> []))= []:=by
  rw [List.flatMap_eq_nil_iff];intro i _;rw [if_neg (by omega)];induction jq s with
  |nil=>rfl
  |cons x r ih=>exact ih
 rw [h1,ye];rw [List.flatMap_def,List.flatMap_def];refine congrArg List.flatten (List.map_congr_left fun i hi=> ?_);simp at hi;rw [if_pos hi]
theorem AiN {ι':Io} {F':Nat→Prop} {w':World} {H':Heap} {id' b' s:Nat} {xs zs:List T} {ps ps':List (Nat×V)} {cs cs':Array Value} {e':TypeId} {fp:Nat→Nat→List Nat} {y:V} (h0:0<s) (ht':Told ps' zs.length) (hzs:zs.length=xs.length+1)
  (hb:ι' id'=some b') (hid:ι'.hid id'=(jq xs.length).flatMap fun i=>(jq s).flatMap (fp i)) (hh:w'.heap[b']?=some (.cells cs' e' (0,0))) (hle:zs.length*s≤cs'.size) (hm: ∃m,cs'.size=m*s) (h1: ∀(i:Nat) (c:Value),cs'[i]?=some c→c.oneCell'=true)
  (o6: ∀(i:Nat) (v:V),memP ps xs i=some v→v≠ .t .any∧v.size=s)
  (o7: ∀(i j:Nat) (v x:V) (c:Value),memP ps xs i=some v→v.cells[j]?=some x→cs[i*s+j]?=some c→HC ι F w H x c (fp i j))
  (hF: ∀b,F b→F' b) (hw: ∀b,F b→w'.heap[b]?=w.heap[b]?) (hl: ∀id o,H[id]?=some o→ ∃o',H'[id]?=some o'∧Like ι ι' w w' id o o') (hk: ∀i j,∀b∈fp i j,i<xs.length→j<s→w'.heap[b]?=w.heap[b]?)
  (hold: ∀j,j<xs.length*s→cs'[j]?=cs[j]?) (hy:y≠ .t .any∧y.size=s) (hnew: ∀(j:Nat) x c,y.cells[j]?=some x→cs'[xs.length*s+j]?=some c→VR ι F w H x c)
  (hmem: ∀i v,memP ps' zs i=some v→(i<xs.length∧memP ps xs i=some v)∨(i=xs.length∧v=y)):ObR ι' F' w' H' id' (.vec s zs ps'):=by
 refine ⟨h0,ht',.inr ⟨b',cs',e',fun i=>if i<xs.length then fp i else fun _=> [],hb,hh,hle,hm,h1,fun i v hv=> ?_,fun i j v x c hv hx hc=> ?_,by rw [hid,hzs];exact AoQ.symm⟩⟩
 ·rcases hmem i v hv with ⟨_,hv⟩|⟨_,rfl⟩
  ·exact o6 i v hv
  ·exact hy
 ·rcases hmem i v hv with ⟨hi,hv⟩|⟨rfl,rfl⟩
  ·have hj:j<s:=by
    have:=(zh.1 hx).1;have h2:v.cells.length=v.size:=rfl;have:=(o6 i v hv).2;omega
   have hlt:i*s+j<xs.length*s:=by
    have:(i+1)*s≤xs.length*s:=qj s hi;rw [jc] at this;omega
   show HC ι' F' w' H' x c ((if i<xs.length then fp i else fun _=> []) j);rw [if_pos hi];rw [hold _ hlt] at hc;exact (o7 i j v x c hv hx hc).mono hF hw hl (fun b hb=>hk i j b hb hi hj)
  ·show HC ι' F' w' H' x c ((if xs.length<xs.length then fp xs.length else fun _=> []) j);rw [if_neg (by omega)];exact .v _ _ ((hnew j x c hx hc).mono hF hw hl)
theorem Ams {i n:Nat} {ps:List (Nat×V)} (ht:Told ps n) (h:n≤i):findP i ps=none:=by
 cases hf:findP i ps with
 |none=>rfl
 |some v=>have:=ht.2 i (Acf hf);omega
theorem Apb {t ty el:Nat} {inf:TypeInfo} {zv:Value} (hg:Good ι F w H) (ht:P.underlying t=some (.slice el)) (hi:P.info? el=some inf) (hz:inf.zero=some zv) (hsz:0<inf.size) (hzs:zv.cells.size=inf.size) (hz1: ∀(j:Nat) c,zv.cells[j]?=some c→c.oneCell'=true)
  {id j:Nat} {lim:Option Nat} {xs:List T} {ps:List (Nat×V)} {y0:T} {y:V} {u v:Value} {o:Ob} (ho:H[id]?=some o) (hro:o.ro=false) (hs:SlAt ι w id inf.size xs.length 0 none none u) (ot:Told ps xs.length)
  (oc:(ι id=none∧xs= []∧ι.hid id= [])∨ ∃b cs e,∃fp:Nat→Nat→List Nat,ι id=some b∧w.heap[b]?=some (.cells cs e (0,0))∧xs.length*inf.size≤cs.size∧(∃m,cs.size=m*inf.size)∧
   (∀(i:Nat) (c:Value),cs[i]?=some c→c.oneCell'=true)∧(∀(i:Nat) (v:V),memP ps xs i=some v→v≠ .t .any∧v.size=inf.size)∧
   (∀(i j:Nat) (v x:V) (c:Value),memP ps xs i=some v→v.cells[j]?=some x→cs[i*inf.size+j]?=some c→HC ι F w H x c (fp i j))∧ι.hid id=(jq xs.length).flatMap fun i=>(jq inf.size).flatMap (fp i))
  (ho':H[j]?=some (.vec inf.size [y0] [(0,y)])) (hns:noShut y.cells=true)
  (hx:VR ι F w H (.all j lim) v) {zs:List T} {ps':List (Nat×V)} (ht':Told ps' zs.length) (hzl:zs.length=xs.length+1)
  (hmem: ∀i v,memP ps' zs i=some v→(i<xs.length∧memP ps xs i=some v)∨(i=xs.length∧v=y)) (r1:zs.length*inf.bytes≤140737488355328) (r2:zs.length≤140737488355328):
  ∃ι' val w',Good ι' F w' (H.set id .dead++ [.vec inf.size zs ps'])∧Step ι F H w ι' F (H.set id .dead++ [.vec inf.size zs ps']) w'∧VR ι' F w' (H.set id .dead++ [.vec inf.size zs ps']) (.all H.length none) val∧(xf #[t,t] ty #[u,v]).run P w= .ok val w':=by
 have hnew:(H.set id .dead++ [Ob.vec inf.size zs ps'])[H.length]?=some (.vec inf.size zs ps'):=by
  rw [qg (by simp)];simp
 cases hx with
 |all _ _ _ hx=>
 unfold OwnSl at hx;rw [ho'] at hx;have hdd:=Aa4 hro;have o0:=hsz;obtain ⟨q0,qt,qc⟩:=hg.obj j _ ho';rcases qc with ⟨_,qx,_⟩|⟨b',ds,e',gp,p1,p2,p3,p4,p5,p6,p7,p8⟩
 ·simp at qx
 obtain ⟨q,qcap,rfl,hqcap,_,hq⟩:=hx;rw [p1] at hq;simp only [wc,wq,j5,xk,jk,xu] at hq hqcap p3 p8;have hq:q=some ⟨b',0,none⟩:=hq.1.resolve_left (by omega);subst hq;have hlen:(ds.toList.take inf.size).length=inf.size:=by simp;omega
 have hrd:Reads P w inf.size 1 (.slice (some ⟨b',0,none⟩) 1 qcap) (ds.toList.take inf.size):=by
  refine Aci (by rw [hlen,xu]) (fun k v hv=> ?_);rw [cell_of_row w b' _ ds _ _ p2,jk];rw [ji] at hv;split at hv
  ·simpa using hv
  ·contradiction
 have hone: ∀v∈ds.toList.take inf.size,v.oneCell'=true:=by
  intro v hv;obtain ⟨k,hk⟩:=ub (uc hv);exact p5 k v (by simpa using hk)
 have hy0:=p6 0 y rfl;have hyc: ∀(k:Nat) x c,y.cells[k]?=some x→(ds.toList.take inf.size)[k]?=some c→VR ι F w H x c:=by
  intro k x c hx hc;rw [ji] at hc;split at hc
  ·exact ((p7 0 k y x c rfl hx (by simpa using hc)).open (Ab8 hns k x hx)).1
  ·contradiction
 generalize hnews:ds.toList.take inf.size=news at*;simp only [wc,j5,xk,jk] at*;have hsrc:Src P w inf zv t (.slice (some ⟨b',0,none⟩) 1 qcap) 1 news:= .inl ⟨⟨el,ht⟩,⟨_,_,rfl⟩,hrd⟩;have hycl:y.cells.length=inf.size:=hy0.2;obtain ⟨d1,d2⟩:=Acl hg;rcases oc with ⟨b1,rfl,b3⟩|⟨b,cs,ty',fp,o1,o2,o3,o4,o5,o6,o7,o8⟩
 ·obtain ⟨p,cap,rfl,hcap,_,hp⟩:=hs;rw [b1] at hp;simp only at hp;subst hp;have hrun:=Adq t t ty el inf zv ht hi hz hsz hsrc p 0 0 (olds:= []) AaN (qn _) (by omega) (by simpa [hzl] using r1) (by omega);generalize hcs:(([]:List Value).toArray++news.toArray++je zv.cells (grownCap w (0+1) 0 el-(0+1)))=cs' at hrun;have hge:1≤grownCap w (0+1) 0 el:=by have:=grownCap_ge w (0+1) 0 el;omega
  have hsz':cs'.size=grownCap w (0+1) 0 el*inf.size:=by
   have:=qj inf.size hge;rw [←hcs];simp only [Array.size_append,cf,xk,hlen,je,hzs,Array.size_map,Array.size_range];rw [mi];omega
  obtain ⟨k1,k2⟩:=Aj0 (w':=w.drew.alloc (.cells cs' el)) d1 (o':= .vec inf.size zs ps') ho hro rfl rfl rfl rfl (by simp) (fun b hb=>Aai hb) (fun hl=>by
   refine AiN (cs:= #[]) (fp:=fun _ _=> []) (ps:=ps) (xs:= []) (y:=y) o0 ht' hzl AaK.1 (by rw [AaK.2];exact b3) Aau ?_ ⟨_,hsz'⟩ ?_ ?_ ?_ (fun _ h=>h) (fun b hb=>Aai (d1.fin b hb)) hl ?_ ?_ hy0 ?_ hmem
   ·rw [hzl,hsz'];simpa using qj inf.size hge
   ·intro i c hc;rw [←hcs] at hc;have hm:=km hc;simp only [List.append_toArray,List.nil_append,Array.mem_append,List.mem_toArray] at hm;rcases hm with hm|hm
    ·exact hone c hm
    ·simp [je] at hm;obtain ⟨k,hk,rfl⟩:=hm;have hpos:0<zv.cells.size:=by omega
     have hlt:k%zv.cells.size<zv.cells.size:=cv _ hpos;simp only [hlt,getElem!_pos];exact hz1 (k%zv.cells.size) _ (by simp [hlt])
   ·intro i v hv;have:=Abv ot hv;simp at this
   ·intro i j v x c hv;have:=Abv ot hv;simp at this
   ·intro i j b hb;simp at hb
   ·intro j hj;simp at hj
   ·intro k x c hx hc;have hk:=(zh.1 hx).1;rw [←hcs] at hc;simp only [xk,wq,jk,List.append_toArray,List.nil_append] at hc;rw [yy (by simp;omega)] at hc;exact d2.vr hg (hyc k x c hx (by simpa using hc)))
  refine ⟨_,_,_,k1,d2.trans k2,.all _ _ _ ?_,hrun⟩;unfold OwnSl;rw [hnew];refine ⟨some ⟨w.heap.size,0,none⟩,grownCap w (0+1) 0 el,by simp [hzl],by simpa [hzl] using hge,by simp,?_⟩;rw [AaK.1];refine ⟨.inr (by rw [wq];rfl),?_⟩;simp only;unfold blk;rw [Aau];simp [hsz']
 ·obtain ⟨p,cap,rfl,hcap,_,hp⟩:=hs;rw [o1] at hp;have hcap:xs.length≤cap:=hcap;simp only [wq,jk] at hp;obtain ⟨hp,hcb⟩:=hp;have hblk:blk w b=cs.size:=by unfold blk;rw [o2]
  rw [hblk] at hcb;have hkk: ∀i j,∀b2∈fp i j,i<xs.length→j<inf.size→b2∈ι.hid id:=by
   intro i j b2 hb hi hj;rw [o8];exact jv.2 ⟨i,by simpa using hi,jv.2 ⟨j,by simpa using hj,hb⟩⟩
  by_cases hroom:xs.length+1≤cap
  ·have hfit:(0+xs.length+1)*inf.size≤cs.size:=by
    rw [←hcb,jk];exact qj _ hroom
   have hrun:=AiG t t ty el inf zv ht hi hz hsz hsrc (by rw [hlen,xu]) hone (off:=0) (n:=xs.length) (p:=p) (b:=b) (by simpa using hp) hroom o2 hfit;simp only [jk] at hrun hfit;generalize hcs:(cs.toList.take (xs.length*inf.size)++news++cs.toList.drop ((xs.length+1)*inf.size)).toArray=cs' at hrun;have hexp:(xs.length+1)*inf.size=xs.length*inf.size+inf.size:=by rw [jc,xu]
   have hsz':cs'.size=cs.size:=by
    rw [←hcs];simp [hlen];omega
   have hh:=setRow_heap w b cs cs' _ _ o2;have hbl:blk (w.setRow b cs') b=cs.size:=by unfold blk;rw [hh];exact hsz'
   have hotherb: ∀b',b'≠b→(w.setRow b cs').heap[b']?=w.heap[b']?:=fun b' hb'=>setRow_other w b b' cs' hb';obtain ⟨n1,n2⟩:=hg.nd id _ ho hdd;obtain ⟨k1,k2⟩:=AhN (w':=w.setRow b cs') hg (o':= .vec inf.size zs ps') (ι.hid id) (wy _) ho hro rfl rfl rfl rfl (by simp) (fun b' hb'=>hotherb b' (fun e=>hb' (by rw [o1,e]))) (fun hl hf=>by
    refine AiN (cs:=cs) (fp:=fp) (ps:=ps) (xs:=xs) (y:=y) o0 ht' hzl (AaK.1.trans o1) (by rw [AaK.2];exact o8) hh (by rw [hzl,hsz'];exact hfit) (by obtain ⟨m,hm⟩:=o4;exact ⟨m,by rw [hsz',hm]⟩) ?_ o6 o7 (fun _ h=>h) hf hl ?_ ?_ hy0 ?_ hmem
    ·intro i c hc;rw [←hcs] at hc;have hm:=jt (by simpa using hc:(cs.toList.take (xs.length*inf.size)++news++cs.toList.drop ((xs.length+1)*inf.size))[i]?=some c);simp only [jp] at hm;rcases hm with (hm|hm)|hm
     ·obtain ⟨k,hk⟩:=ub (uc hm);exact o5 k c (by simpa using hk)
     ·exact hone c hm
     ·obtain ⟨k,hk⟩:=ub (dq hm);exact o5 k c (by simpa using hk)
    ·intro i j b2 hb hi hj;exact hotherb b2 (fun e=>n2 b o1 (e ▸ hkk i j b2 hb hi hj))
    ·intro j hj;rw [←hcs,ym,ql,qq (by simp;omega),List.getElem?_take_of_lt hj,xg]
    ·intro k x c hx hc;have hk:=(zh.1 hx).1;have hl1:(cs.toList.take (xs.length*inf.size)).length=xs.length*inf.size:=by simp;omega
     rw [←hcs,ym,ql,qg (by rw [hl1];omega),hl1,qq (by omega),show xs.length*inf.size+k-xs.length*inf.size=k by omega] at hc;exact hyc k x c hx hc)
   refine ⟨_,_,_,k1,k2,.all _ _ _ ?_,hrun⟩;unfold OwnSl;rw [hnew];refine ⟨p,cap,by simp [hzl],by simpa [hzl] using hroom,by simp,?_⟩;rw [show updH ι H.length (ι id) (ι.hid id) H.length=some b from AaK.1.trans o1];exact ⟨by simpa using hp,by simp only [jk];rw [hbl];exact hcb⟩
  ·have holds:Reads P w inf.size xs.length (.slice p xs.length cap) (cs.toList.take (xs.length*inf.size)):=by
    rcases wh cap with h0|h0
    ·have:xs.length=0:=by omega
     rw [this];simp only [wq,un];exact AaN
    ·rcases hp with hp|rfl
     ·omega
     ·refine Aci (by simp;omega) (fun j v hv=> ?_);rw [cell_of_row w b _ cs _ _ o2,jk];rw [ji] at hv;split at hv
      ·simpa using hv
      ·contradiction
   have hrun:=Adq t t ty el inf zv ht hi hz hsz hsrc p xs.length cap holds hcap (by omega) (by rw [←hzl];exact r1) (by rw [←hzl];exact r2);generalize hcs:((cs.toList.take (xs.length*inf.size)).toArray++news.toArray++je zv.cells (grownCap w (xs.length+1) cap el-(xs.length+1)))=cs' at hrun;have hge:xs.length+1≤grownCap w (xs.length+1) cap el:=grownCap_ge _ _ _ _;have hl1:(cs.toList.take (xs.length*inf.size)).length=xs.length*inf.size:=by simp;omega
   have hexp:(xs.length+1)*inf.size=xs.length*inf.size+inf.size:=by rw [jc,xu]
   have hsz':cs'.size=grownCap w (xs.length+1) cap el*inf.size:=by
    have:=qj inf.size hge;rw [←hcs];simp only [Array.size_append,cf,hl1,hlen,je,hzs,Array.size_map,Array.size_range];rw [mi];omega
   obtain ⟨k1,k2⟩:=Aj0 (w':=w.drew.alloc (.cells cs' el)) d1 (o':= .vec inf.size zs ps') ho hro rfl rfl rfl rfl (by simp) (fun b hb=>Aai hb) (fun hl=>by
    refine AiN (w:=w.drew) (cs:=cs) (fp:=fp) (ps:=ps) (xs:=xs) (y:=y) o0 ht' hzl AaK.1 (by rw [AaK.2];exact o8) Aau (by rw [hzl,hsz'];exact qj _ hge) ⟨_,hsz'⟩ ?_ o6 ?_ (fun _ h=>h) (fun b hb=>Aai (d1.fin b hb)) hl ?_ ?_ hy0 ?_ hmem
    ·intro i c hc;rw [←hcs] at hc;have hm:=km hc;simp only [Array.mem_append,List.mem_toArray] at hm;rcases hm with (hm|hm)|hm
     ·obtain ⟨k,hk⟩:=ub (uc hm);exact o5 k c (by simpa using hk)
     ·exact hone c hm
     ·simp [je] at hm;obtain ⟨k,hk,rfl⟩:=hm;have hpos:0<zv.cells.size:=by omega
      have hlt:k%zv.cells.size<zv.cells.size:=cv _ hpos;simp only [hlt,getElem!_pos];exact hz1 (k%zv.cells.size) _ (by simp [hlt])
    ·intro i j v x c hv hx hc;exact HC.mono (ι:=ι) (ι':=ι) (F:=F) (F':=F) (H:=H) (H':=H) (w:=w) (w':=w.drew) (fun _ h=>h) (fun _ _=>rfl) (fun i o h=>⟨o,h,Like.refl ι w i o⟩) (o7 i j v x c hv hx hc) (fun _ _=>rfl)
    ·intro i j b2 hb hi hj;exact Aai (d1.ltB id _ b2 ho hdd (.inr (hkk i j b2 hb hi hj)))
    ·intro j hj;rw [←hcs,yy (by simp [hl1,hlen];omega),yy (by simp [hl1];omega)];simp [hj]
    ·intro k x c hx hc;have hk:=(zh.1 hx).1;rw [←hcs,yy (by simp [hl1,hlen];omega),Array.getElem?_append_right (by simp [hl1])] at hc;simp only [cf,hl1] at hc;rw [show xs.length*inf.size+k-xs.length*inf.size=k by omega] at hc;exact d2.vr hg (hyc k x c hx (by simpa using hc)))
   refine ⟨_,_,_,k1,d2.trans k2,.all _ _ _ ?_,hrun⟩;unfold OwnSl;rw [hnew];refine ⟨some ⟨w.heap.size,0,none⟩,grownCap w (xs.length+1) cap el,by simp [hzl],by simpa [hzl] using hge,by simp,?_⟩;rw [AaK.1];refine ⟨.inr (by rw [wq];rfl),?_⟩;simp only;unfold blk;rw [Aau];simp [hsz']
theorem AkK (hc:CxTy P cx) (hg:Good ι F w H) {s x:V} {u v:Value} (hs:VR ι F w H s u) (hx:VR ι F w H x v) {t t' ty:Nat} (h:wpQ S (builtinV cx .append [t,t'] [s,x] H) R):
  ∃val w',(xf #[t,t'] ty #[u,v]).run P w= .ok val w'∧BPost R ι F H w val w'∧((∃z xs,s= .fit z xs)→OldSame w w'):=by
 unfold builtinV at h;simp only at h;split at h
 ·rename_i el he;obtain ⟨e1,i,inf,e2,e3,e4,e5,e6,e7,e8⟩:=AbA hc he;obtain ⟨inf',d',c1,c2,c3,c4,c5,c6,zv,hz,hzz⟩:=hc.ty el i e2;rw [e4] at c1;obtain rfl:=ze c1;rw [e7,e8,←e5,←e6] at h;have hpos:0<inf.size:=by omega
  split at h
  ·rename_i k n;split at h
   ·rename_i z hint hzv;have hv:=hx.t_inv.int_inv;subst hv;have hzz:=hzz z hzv;obtain ⟨x',H1,F1,inf2,zv2,r1,g1,s1,q1,q2,q3,q4,q5,q6,q7⟩:=AiQ hc e2 hzv hg (bb:=false) (Aaa _ _ _ h);rw [e4] at q1;obtain rfl:=ze q1;rw [hz] at q2;obtain rfl:=ze q2;clear h;obtain ⟨⟨c0,c1',c2'⟩,h⟩:=r1;have hap:(appendMax:Nat)=140737488355328:=rfl;rw [hap] at c1' c2';have hkn: ∃kn,P.underlying t'=some (.int kn):=by
     unfold isInt at hint;split at hint
     ·rename_i ii hget;obtain ⟨inf3,d3,h1,h2,h3,h4,h5,_⟩:=hc.ty _ _ hget;split at hint
      ·rename_i kk hk;rw [hk] at h5;simp only [TyR] at h5;exact ⟨kk,h5 ▸ h2⟩
      ·contradiction
     ·contradiction
    have hrow:=q7 n.toNat w (fun _ _=>rfl);rw [←q3] at hrow;have hn:((n.toNat:Nat):Int)=n:=bc c0;have hsrc:Src P w inf zv t' (.int k n) (zn n.toNat x').length (je zv.cells n.toNat).toList:=by
     refine .inr ⟨hkn,⟨k,by simp [hn]⟩,by simpa using c1',by simpa using c2',by simp⟩
    have hrow':Row F1 w inf.size (zn n.toNat x') (je zv.cells n.toNat).toList:=by
     have he:je zv.cells n.toNat=(u3 (n.toNat*inf.size)).map fun k=>zv.cells[k%inf.size]!:=by simp [je,q5,q3]
     rw [he];exact hrow
    obtain ⟨r,H',ι',val,w',k1,k2,k3,k4,k6,k5⟩:=Aht (ty:=ty) g1 e1 e4 hz hpos (by rw [q5,q3]) q6 hsrc hrow' (s1.vr hg hs) h;exact ⟨val,w',k5,⟨r,H',ι',F1,k1,k2,s1.trans k3,k4⟩,k6⟩
   ·exact h.elim
  ·split at h
   ·rename_i xs ps hb hvo;obtain rfl:=zp hb;obtain ⟨id,lim,rfl,rfl,hob,hpw,htold⟩:=AmK hvo;cases hs with
    |fit _ _ p hs=>
    cases hx with
    |all _ _ _ hx=>
    unfold OwnSl at hx;rw [hob] at hx;obtain ⟨o0,ot,oc⟩:=hg.obj id _ hob;rcases oc with ⟨_,ox,_⟩|⟨b',cs,e',fp,o1,o2,o3,o4,o5,o6,o7,o8⟩
    ·rw [ox] at hpw;simp at hpw
    obtain ⟨q,cap,rfl,hcap,_,hq⟩:=hx;rw [o1] at hq;simp only [wc,wq] at*;have hq:q=some ⟨b',0,none⟩:=hq.1.resolve_left (by omega);subst hq;obtain ⟨⟨hby,r1,r2⟩,h⟩:=h;replace h:=Aar (Aaa _ _ _ h);obtain ⟨z1,z2⟩:=hc.zc el i inf zv e2 e4 hz (by rw [←e6];exact hby);have hlen:(cs.toList.take (xs.length*inf.size)).length=xs.length*inf.size:=by simp;omega
    have hrd:Reads P w inf.size xs.length (.slice (some ⟨b',0,none⟩) xs.length cap) (cs.toList.take (xs.length*inf.size)):=by
     refine Aci hlen (fun j v hv=> ?_);rw [cell_of_row w b' _ cs _ _ o2,jk];rw [ji] at hv;split at hv
     ·simpa using hv
     ·contradiction
    have hone: ∀v∈cs.toList.take (xs.length*inf.size),v.oneCell'=true:=by
     intro v hv;obtain ⟨j,hj⟩:=ub (uc hv);exact o5 j v (by simpa using hj)
    have hap:(appendMax:Nat)=140737488355328:=rfl;rw [hap] at r1 r2;have hrun:=Adq t t ty el inf zv e1 e4 hz hpos (.inl ⟨⟨el,e1⟩,⟨_,_,rfl⟩,hrd⟩) p 0 0 (olds:= []) AaN (qn _) (by omega) (by simpa using r1) (by simpa using r2);obtain ⟨ι',w',rfl,g1,g2,g3⟩:=AoN (g:=grownCap w (0+xs.length) 0 el) (zc:=zv.cells) hg el o0 ot hlen hone (fun j v hv=>by
     obtain ⟨v1,v2⟩:=o6 j v hv;refine ⟨v1,v2,fun m y c hy hc=> ?_⟩;have hj:=Abv ot hv;obtain ⟨v',hf,hns⟩:=htold j hj;have:v'=v:=by
      unfold memP at hv;rw [hf] at hv;exact ze hv
     subst this;rw [ji] at hc;split at hc
     ·exact ((o7 j m v' y c hv hy (by simpa using hc)).open (Ab8 hns m y hy)).1
     ·contradiction) (by have:=grownCap_ge w (0+xs.length) 0 el;simp at this⊢;omega) (by rw [z1];omega) z2
    exact ⟨_,_,hrun,⟨_,_,ι',F,h,g1,g2,g3⟩,fun _=> .alloc w.drew _⟩
   ·split at h
    ·rename_i id xs ps y hb hvo;obtain rfl:=zp hb;obtain ⟨rfl,hob,j,lim,y0,rfl,hob',hns⟩:=AkC hvo;obtain ⟨_,hyt,hyc⟩:=hg.obj j _ hob';have hyn:y≠ .t .any:=by
      rcases hyc with ⟨_,q,_⟩|⟨_,_,_,_,_,_,_,_,_,q,_⟩
      ·simp at q
      ·exact (q 0 y rfl).1
     obtain ⟨o,ho,hro,hsl,ot,hoc⟩: ∃o,H[id]?=some o∧o.ro=false∧SlAt ι w id inf.size xs.length 0 none none u∧Told ps xs.length∧((ι id=none∧xs= []∧ι.hid id= [])∨ ∃b cs e,∃fp:Nat→Nat→List Nat,ι id=some b∧w.heap[b]?=some (.cells cs e (0,0))∧xs.length*inf.size≤cs.size∧(∃m,cs.size=m*inf.size)∧
       (∀(i:Nat) (c:Value),cs[i]?=some c→c.oneCell'=true)∧(∀(i:Nat) (v:V),memP ps xs i=some v→v≠ .t .any∧v.size=inf.size)∧
       (∀(i j:Nat) (v x:V) (c:Value),memP ps xs i=some v→v.cells[j]?=some x→cs[i*inf.size+j]?=some c→HC ι F w H x c (fp i j))∧ι.hid id=(jq xs.length).flatMap fun i=>(jq inf.size).flatMap (fp i)):=by
      cases hs with
      |all _ _ _ hs=>
      unfold OwnSl at hs;rcases hob with hob|⟨rfl,rfl,sp,hob⟩
      ·rw [hob] at hs;obtain ⟨_,q1,q2⟩:=hg.obj id _ hob;exact ⟨_,hob,rfl,hs,q1,q2⟩
      ·rw [hob] at hs;obtain ⟨_,q1,q2⟩:=hg.obj id _ hob;refine ⟨_,hob,rfl,hs,⟨.nil,by simp [keysP]⟩,?_⟩;rcases q2 with ⟨q2,_,_⟩|⟨b,cs,e,q2,q3,q4,_,q5,q6,_⟩
       ·exact .inl ⟨q2,rfl,q1⟩
       ·exact .inr ⟨b,cs,e,fun _ _=> [],q2,q3,by simp,q5,q6,fun i v hv=>by simp [memP,findP] at hv,fun i j v x c hv=>by simp [memP,findP] at hv,by rw [q1];rfl⟩
     have hap:(appendMax:Nat)=140737488355328:=rfl;have fin: ∀ {zs:List T} {ps':List (Nat×V)},Told ps' zs.length→zs.length=xs.length+1→(∀i v,memP ps' zs i=some v→(i<xs.length∧memP ps xs i=some v)∨(i=xs.length∧v=y))→0<inf.bytes→room zs.length inf.bytes→
       wpQ S ((setH H id .dead).bind fun H=>(alloc (.vec inf.size zs ps') H).bind fun (i,H)=> .ret (.all i none,H)) R→ ∃val w',(xf #[t,t] ty #[u,v]).run P w= .ok val w'∧BPost R ι F H w val w'∧((∃z xs,(V.all id none)= .fit z xs)→OldSame w w'):=by
      rintro zs ps' m1 m2 m3 hby ⟨r1,r2⟩ h;rw [hap] at r1 r2;obtain ⟨z1,z2⟩:=hc.zc el i inf zv e2 e4 hz (by rw [←e6];exact hby);obtain ⟨_,h⟩:=Aap (Aaa _ _ _ h);replace h:=Aar (Aaa _ _ _ h);simp only [vm] at h;obtain ⟨ι',val,w',k1,k2,k3,k4⟩:=Apb (ty:=ty) hg e1 e4 hz hpos (by rw [z1];omega) z2 ho hro hsl ot hoc hob' hns hx m1 m2 m3 r1 r2;exact ⟨val,w',k4,⟨_,_,ι',F,h,k1,k2,k3⟩,fun ⟨_,_,e⟩=>by cases e⟩
     have old: ∀(i:Nat) (v:V) (x:T),memP ps (xs++ [x]) i=some v→(i<xs.length∧memP ps xs i=some v)∨(i=xs.length∧v= .t x):=by
      intro i v x hv;have hl:=Abv (xs:=xs++ [x]) ⟨ot.1,fun i hi=>by have:=ot.2 i hi;simp;omega⟩ hv;simp only [jx,j5,xk] at hl;unfold memP at hv⊢;by_cases hi:i<xs.length
      ·rw [qq hi] at hv;exact .inl ⟨hi,hv⟩
      ·obtain rfl:i=xs.length:=by omega
       rw [Ams ot (qn _)] at hv;simp at hv;exact .inr ⟨rfl,hv.symm⟩
     have told: ∀ {n:Nat},xs.length≤n→Told ps n:=fun hn=>⟨ot.1,fun i hi=>by have:=ot.2 i hi;omega⟩
     unfold renewV at h;split at h
     ·obtain ⟨⟨hby,hr⟩,h⟩:=h;exact fin (told (by simp)) (by simp) (fun i v hv=>old i v _ hv) hby hr h
     ·rename_i hnt;obtain ⟨⟨hby,hr⟩,h⟩:=h;refine fin ⟨?_,?_⟩ (by simp) (fun i v hv=> ?_) hby hr h
      ·simp only [keysP,qo];refine vw.2 ⟨fun hm=> ?_,ot.1⟩;have:=ot.2 _ hm;omega
      ·intro i hi;simp only [keysP,qo,qf] at hi;rcases hi with rfl|hi
       ·simp
       ·have:=ot.2 i hi;simp;omega
      ·have hv':=hv;unfold memP findP at hv;by_cases hi:i=xs.length
       ·rw [if_pos hi] at hv;simp at hv;exact .inr ⟨hi,hv.symm⟩
       ·rw [if_neg hi] at hv;rcases old i v _ hv with h|⟨h,_⟩
        ·exact .inl h
        ·exact absurd h hi
    ·split at h
     ·rename_i ys hb hel;obtain rfl:=zp hb;obtain ⟨p,c,vs,rfl,k1,k2⟩:=Aik (P:=P) hg hel hx;have hfull:=k1.full k2;obtain ⟨hby,h⟩:=h;obtain ⟨z1,z2⟩:=hc.zc el i inf zv e2 e4 hz (by rw [←e6];exact hby);rw [←e5] at z1;obtain ⟨r,H',ι',val,w',k1,k2,k3,k4,k6,k5⟩:=Aht (ty:=ty) hg e1 e4 hz hpos z1 z2 (.inl ⟨⟨el,e1⟩,⟨p,c,rfl⟩,hfull⟩) k1 hs h;exact ⟨val,w',k5,⟨r,H',ι',F,k1,k2,k3,k4⟩,k6⟩
     ·exact h.elim
 ·exact h.elim
theorem AfB (hg:Good ι F w H) {s id off len:Nat} {n:Option Nat} {lim:Option Nat} {d:Value} (hlen: ∀s xs sp ro,H[id]?=some (.arr s xs sp ro)→n.getD xs.length=len) (hv:OwnSl ι w H id off n lim d) {ys:List T} {vs:List Value} (hy:Row F w s ys vs)
  (h:wpQ S (writeOver s id off len ys H) R):
  ∃p cap w' H' r,d= .slice p len cap∧r= .t (.int .i64 (min ys.length len:Nat))∧R (r,H')∧Good ι F w' H'∧Step ι F H w ι F H' w'∧(min ys.length len=0→w'=w)∧
   (min ys.length len≠0→ ∃a,p=some a∧(storeCells a (vs.take (min ys.length len*s))).run P w= .ok () w'):=by
 unfold writeOver at h;rw [Aae] at h;split at h
 ·rename_i s' xs sp ho;split at h
  ·rename_i hb;obtain rfl:=zp hb;obtain ⟨hid,h⟩:=Aap (Aaa _ _ _ h);obtain ⟨p,cap,rfl,q1,q2,q3⟩:=Aeg ho hv;rw [hlen _ _ _ _ ho] at q1 q2⊢;by_cases h0:min ys.length len=0
   ·rw [h0] at h⊢;have:xs.take off++ys.take 0++xs.drop (off+0)=xs:=by simp
    rw [this,AlH ho] at h;exact ⟨p,cap,w,H,_,rfl,rfl,h,hg,.refl ι F H w,fun _=>rfl,fun h=>absurd rfl h⟩
   ·obtain ⟨_,hob⟩:=Adf hg ho;unfold CapR at q3;rcases hob with ⟨b1,rfl,b3⟩|⟨b,cs,e',b1,b2,b3,b4,b5,b6,b7,b8⟩
    ·simp at q2;omega
    ·rw [b1] at q3;obtain ⟨hp,_⟩:=q3;have hpp:p=some ⟨b,off*s',none⟩:=by rcases hp with hp|hp;omega;exact hp
     obtain ⟨cs',rfl,k1,k2⟩:=AlU (m:=min ys.length len) (off:=off) hg ho b1 b2 (hy.take (min ys.length len)) (by simp) (by omega);refine ⟨p,cap,_,_,_,rfl,rfl,h,k1,k2,fun h=>absurd h h0,fun _=>⟨_,hpp,?_⟩⟩;have hl:(vs.take (min ys.length len*s')).length=min ys.length len*s':=by
      have:=(hy.take (min ys.length len)).len;rw [this];simp
     have hfit:(off+min ys.length len)*s'≤cs.size:=yp (qj _ (by omega)) b4;have hst:=run_storeCells_at P b (off*s') e' (vs.take (min ys.length len*s')) 0 cs w b2 (by rw [hl,y7,←jc];exact hfit) (hy.take (min ys.length len)).one;simp only [y7] at hst;rw [hst,hl,←jc]
  ·exact h.elim
 ·exact h.elim
theorem AkP (hg:Good ι F w H) {s:Nat} {d:V} {u:Value} (hd:VR ι F w H d u) {ys:List T} {vs:List Value} (hy:Row F w s ys vs) (h:wpQ S (copyV s d ys H) R):
  ∃p len cap w' H' r,u= .slice p len cap∧(∀k,lenV d H=some k→k=len)∧r= .t (.int .i64 (min ys.length len:Nat))∧R (r,H')∧Good ι F w' H'∧Step ι F H w ι F H' w'∧(min ys.length len=0→w'=w)∧
   (min ys.length len≠0→ ∃a,p=some a∧(storeCells a (vs.take (min ys.length len*s))).run P w= .ok () w'):=by
 unfold copyV at h;split at h
 ·rename_i id lim;split at h
  ·rename_i s' xs sp ro ho;have ho':=ho;rw [Aae] at ho;cases hd with
   |all _ _ _ hv=>
   obtain ⟨p,cap,w',H',r,k⟩:=AfB hg (n:=none) (fun s' xs' sp' ro' h=>by rw [ho] at h;simp at h;simp [h.2.1]) hv hy h;exact ⟨p,xs.length,cap,w',H',r,k.1,fun k hk=>by simp [lenV,ho'] at hk;omega,k.2⟩
  ·exact h.elim
 ·rename_i id off len lim;cases hd with
  |sl _ _ _ _ _ hv=>
  obtain ⟨p,cap,w',H',r,k⟩:=AfB hg (n:=some len) (fun _ _ _ _ _=>rfl) hv hy h;refine ⟨p,len,cap,w',H',r,k.1,fun k hk=> ?_,k.2⟩;simp only [lenV] at hk;split at hk
  ·simp at hk;exact hk.symm
  ·contradiction
 ·exact h.elim
theorem Aq3 (hc:CxTy P cx) (hg:Good ι F w H) {d x:V} {u v:Value} (hd:VR ι F w H d u) (hx:VR ι F w H x v) {t t' ty:Nat} (h:wpQ S (builtinV cx .copy [t,t'] [d,x] H) R):
  ∃val w',(m0 #[t,t'] ty #[u,v]).run P w= .ok val w'∧BPost R ι F H w val w':=by
 unfold builtinV at h;simp only at h;split at h
 ·rename_i el he;split at h
  ·rename_i ys hel;obtain ⟨e1,i,inf,e2,e3,e4,e5,e6,e7,e8⟩:=AbA hc he;obtain ⟨px,c,vs,rfl,k1,k2⟩:=Aik (P:=P) hg hel hx;obtain ⟨p,len,cap,w',H',r,rfl,_,rfl,hR,g1,g2,n0,n1⟩:=AkP (P:=P) hg hd k1 h;have hr:=k2 (min ys.length len) (by omega) w rfl;rw [e7,←e5] at hr n1;refine ⟨.int .i64 (min ys.length len:Nat),w',?_,_,_,ι,F,hR,g1,g2,.t _ _ (.int _ _)⟩;have hmin:Nat.min ys.length len=min ys.length len:=rfl;by_cases h0:min ys.length len=0
   ·have:=n0 h0;subst this;rw [h0] at hr;simp only [wq,un] at hr;cases p<;>simp [m0,run_underlying e1,pq,typeInfo,e4,fo,hmin,h0,hr,storeCells,goInt]
   ·obtain ⟨a,rfl,hst⟩:=n1 h0;simp [m0,run_underlying e1,pq,typeInfo,e4,fo,hmin,hr,hst,goInt]
  ·exact h.elim
 ·exact h.elim
theorem ApH (hc:CxTy P cx) (hg:Good ι F w H) {d:V} {u:Value} (hd:VR ι F w H d u) {t ty:Nat} (h:wpQ S (builtinV cx .clear [t] [d] H) R):
  ∃val w',(mb #[t] ty #[u]).run P w= .ok val w'∧BPost R ι F H w val w':=by
 unfold builtinV at h;simp only at h;split at h
 ·rename_i el he;split at h
  ·rename_i z hzv;obtain ⟨e1,i,inf,e2,e3,e4,e5,e6,e7,e8⟩:=AbA hc he;obtain ⟨x',H1,F1,inf2,zv,r1,g1,s1,q1,q2,q3,q4,q5,q6,q7⟩:=AiQ hc e2 hzv hg (bb:=false) (Aaa _ _ _ h);rw [e4] at q1;obtain rfl:=ze q1;clear h;simp only at r1;split at r1
   ·rename_i n hlen;have hrow:=q7 n w (fun _ _=>rfl);rw [←e7] at hrow;have hd1:=s1.vr hg hd;obtain ⟨p,len,cap,w',H',r,rfl,hl,rfl,hR,g2,s2,n0,n1⟩:=AkP (P:=P) g1 hd1 hrow (Aaa _ _ _ r1);have hn:=hl n hlen;subst hn;simp only [List.length_replicate,Nat.min_self] at n0 n1 hR;refine ⟨.tuple #[],w',?_,_,_,ι,F1,hR,g2,s1.trans s2,.tup _ _ rfl (by simp)⟩;by_cases h0:n=0
    ·subst h0;have:=n0 rfl;subst this;cases p<;>simp [mb,run_underlying e1]
    ·obtain ⟨a,rfl,hst⟩:=n1 h0;have hz:(((u3 (n*sizeOf cx el)).map fun k=>zv.cells[k%sizeOf cx el]!).toList).take (n*sizeOf cx el)=(je zv.cells n).toList:=by
      rw [vz (by simp)];simp [je,q5,e7]
     rw [hz] at hst;cases n with
     |zero=>contradiction
     |succ k=>simp [mb,run_underlying e1,zeroValue,typeInfo,e4,q2,hst]
   ·exact r1.elim
  ·exact h.elim
 ·exact h.elim
end
end Go.Eva
namespace Go.Eva
open Go.RowKit
section
variable {P:Program} {cx:Cx} {S:Task→(Res→Prop)→Prop} {o:Oper} {e:Env} {H:Heap} {a:Act} {w:World} {ι:Io} {F:Nat→Prop} {R:V×Heap→Prop}
theorem AiY (hg:Good ι F w H) {id off:Nat} {n lim:Option Nat} {u:Value} (hv:OwnSl ι w H id off n lim u) (h:wpQ S (capOwn id off lim H) R):
  ∃p len cap,u= .slice p len cap∧BPost R ι F H w (.int .i64 cap) w:=by
 unfold capOwn at h;rw [Aae] at h;split at h
 ·rename_i s xs sp ro ho;obtain ⟨p,cap,rfl,q1,q2,q3⟩:=Aeg ho hv;refine ⟨p,_,cap,rfl,?_⟩;obtain ⟨h0,hob⟩:=Adf hg ho;have q3':=q3;unfold CapR at q3;split at h
  ·obtain ⟨hne,h⟩:=h;rcases hob with ⟨b1,rfl,b3⟩|⟨b,cs,e',b1,b2,b3,b4,b5,b6,b7,b8⟩
   ·exact absurd rfl hne
   ·rw [b1] at q3;simp only at q3;simp only [wpQ] at h;rw [←q3.2.1,show off+cap-off=cap by omega] at h;exact ⟨_,_,ι,F,h,hg,.refl ι F H w,.t _ _ (.int _ _)⟩
  ·rename_i k;simp only [wpQ] at h;have:xs.length+k-off=cap:=by
    rcases hob with ⟨b1,rfl,b3⟩|⟨b,cs,e',b1,b2,b3,b4,b5,b6,b7,b8⟩
    ·have:=b3 k rfl;rw [b1] at q3;simp only at q3;simp only [xk] at q2;simp;omega
    ·rw [b1] at q3;simp only at q3;have hk:=b5 _ rfl;rw [b3,←hk] at q3;have:=kp h0 q3.2;omega
   rw [this] at h;exact ⟨_,_,ι,F,h,hg,.refl ι F H w,.t _ _ (.int _ _)⟩
  ·simp only [wpQ] at h;have hge:xs.length≤off+cap:=by
    rcases hob with ⟨b1,rfl,b3⟩|⟨b,cs,e',b1,b2,b3,b4,b5,b6,b7,b8⟩
    ·simp
    ·rw [b1] at q3;simp only at q3;rw [b3] at q3;exact Nat.le_of_mul_le_mul_right (by omega) h0
   have h:=h (off+cap) hge;obtain ⟨hid,h⟩:=Aap (Aaa _ _ _ h);simp only [wpQ] at h;rw [show off+cap-off=cap by omega] at h;obtain ⟨k1,k2⟩:=Adn (w':=w) (o':= .arr s xs (some (off+cap-xs.length)) ro) hg ho rfl rfl rfl rfl (fun _ _=>rfl) (.inr ⟨rfl,fun _ _=>rfl,xs,_,ro,rfl,rfl⟩) (fun _=>rfl) (fun hl=>by
    have:=(hg.obj id _ ho).mono (F':=F) (w':=w) (fun _ h=>h) (fun _ _=>rfl) hl (fun _=>⟨rfl,rfl⟩) (fun _ _ _=>rfl);obtain ⟨g0,gh,g⟩:=this;refine ⟨g0,gh,?_⟩;rcases g with ⟨b1,rfl,b3⟩|⟨b,cs,e',b1,b2,b4,b5,b6,b7,b8⟩
    ·refine .inl ⟨b1,rfl,fun k hk=> ?_⟩;rw [b1] at q3;simp only at q3;simp at q2 hk;omega
    ·refine .inr ⟨b,cs,e',b1,b2,b4,fun k hk=> ?_,b6,b7,b8⟩;rw [b1] at q3;simp only at q3;obtain rfl:=ze hk;have hbl:blk w b=cs.size:=by unfold blk;rw [b2]
     rw [←hbl,←q3.2];congr 1;omega)
   exact ⟨_,_,ι,F,h,k1,k2,.t _ _ (.int _ _)⟩
 ·exact h.elim
theorem b_cap (hc:CxTy P cx) (hg:Good ι F w H) {v:V} {u:Value} (hv:VR ι F w H v u) {t ty:Nat} (h:wpQ S (builtinV cx .cap [t] [v] H) R): ∃val,(∀w,(Builtin.cap_ #[t] ty #[u]).run P w= .ok val w)∧BPost R ι F H w val w:=by
 unfold builtinV at h;simp only at h;split at h
 ·rename_i el he;obtain ⟨e1,_⟩:=AbA hc he;have key: ∃p len cap,u= .slice p len cap∧BPost R ι F H w (.int .i64 cap) w:=by
   unfold capV at h;split at h
   ·have ht:=hv.t_inv;have hsl: ∃p n c,u= .slice p n c:=by cases ht<;>exact ⟨_,_,_,rfl⟩
    obtain ⟨p,n,c,rfl⟩:=hsl;rename_i xs;have hle:xs.length≤c:=by
     cases ht with
     |slN=>exact d8 _
     |slC _ _ _ _ _ _ _ hcap=>exact hcap
    exact ⟨p,n,c,rfl,_,_,ι,F,h c hle,hg,.refl ι F H w,.t _ _ (.int _ _)⟩
   ·cases hv with
    |fit _ _ p ht=>exact ⟨p,_,_,rfl,_,_,ι,F,h,hg,.refl ι F H w,.t _ _ (.int _ _)⟩
   ·cases hv with
    |all _ _ _ hv=>exact AiY hg hv h
   ·cases hv with
    |sl _ _ _ _ _ hv=>exact AiY hg hv h
   ·exact h.elim
  obtain ⟨p,len,cap,rfl,hb⟩:=key;exact ⟨_,fun w=>by simp [Builtin.cap_,run_underlying e1,goInt],hb⟩
 ·exact h.elim
theorem Ai2 {f:Int→Int→Int} {g:Value→Value→Sem Value} {k:IntKind} (hfg: ∀w n m,(g (.int k n) (.int k m)).run P w= .ok (.int k (f n m)) w): ∀ {vs:List V} {us:List Value} {n:Int} {R:V→Prop},
  wpQ S (foldI f k n vs) R→vs.length=us.length→(∀(i:Nat) v u,vs[i]?=some v→us[i]?=some u→VR ι F w H v u)→ ∃m,R (.t (.int k m))∧ ∀w,(us.foldlM g (.int k n)).run P w= .ok (.int k m) w
 | [],us,n,R,h,hl,hv=>by
  have:us= []:=qi (by simpa using hl.symm);subst this;exact ⟨n,h,fun _=>rfl⟩
 |v::vs,us,n,R,h,hl,hv=>by
  cases us with
  |nil=>simp at hl
  |cons u us=>
   unfold foldI at h;split at h
   ·contradiction
   ·rename_i k' m r heq;simp only [List.cons.injEq] at heq;obtain ⟨rfl,rfl⟩:=heq;split at h
    ·rename_i hk;simp at hk;subst hk;have hu:=(hv 0 _ _ rfl rfl).t_inv.int_inv;subst hu;obtain ⟨m',h1,h2⟩:=Ai2 hfg h (by simpa using hl) (fun i v u h1 h2=>hv (i+1) v u (by simpa using h1) (by simpa using h2));refine ⟨m',h1,fun w=> ?_⟩;rw [List.foldlM_cons,xy,hfg];exact h2 w
    ·exact h.elim
   ·exact h.elim
theorem b_min (hg:Good ι F w H) {vs:List V} {us:List Value} {ts:Array Nat} {ty:Nat} (hl:vs.length=us.length) (hv: ∀(i:Nat) v u,vs[i]?=some v→us[i]?=some u→VR ι F w H v u) (h:wpQ S (builtinV cx .min ts.toList vs H) R):
  ∃val,(∀w,(Builtin.min_ ts ty us.toArray).run P w= .ok val w)∧BPost R ι F H w val w:=by
 unfold builtinV at h;split at h<;>try contradiction
 ·rename_i k n r hb _;cases us with
  |nil=>simp at hl
  |cons u us=>
   have hu:=(hv 0 _ _ rfl rfl).t_inv.int_inv;subst hu;obtain ⟨m,h1,h2⟩:=Ai2 (P:=P) (g:=Builtin.min2) (fun w n m=>by simp [Builtin.min2,minI]) (Aaa _ _ _ h) (by simpa using hl) (fun i v u h1 h2=>hv (i+1) v u (by simpa using h1) (by simpa using h2));exact ⟨_,fun w=>by simpa [Builtin.min_] using h2 w,_,_,ι,F,h1,hg,.refl ι F H w,.t _ _ (.int _ _)⟩
theorem b_max (hg:Good ι F w H) {vs:List V} {us:List Value} {ts:Array Nat} {ty:Nat} (hl:vs.length=us.length) (hv: ∀(i:Nat) v u,vs[i]?=some v→us[i]?=some u→VR ι F w H v u) (h:wpQ S (builtinV cx .max ts.toList vs H) R):
  ∃val,(∀w,(Builtin.max_ ts ty us.toArray).run P w= .ok val w)∧BPost R ι F H w val w:=by
 unfold builtinV at h;split at h<;>try contradiction
 ·rename_i k n r hb _;cases us with
  |nil=>simp at hl
  |cons u us=>
   have hu:=(hv 0 _ _ rfl rfl).t_inv.int_inv;subst hu;obtain ⟨m,h1,h2⟩:=Ai2 (P:=P) (g:=Builtin.max2) (fun w n m=>by simp [Builtin.max2,maxI]) (Aaa _ _ _ h) (by simpa using hl) (fun i v u h1 h2=>hv (i+1) v u (by simpa using h1) (by simpa using h2));exact ⟨_,fun w=>by simpa [Builtin.max_] using h2 w,_,_,ι,F,h1,hg,.refl ι F H w,.t _ _ (.int _ _)⟩
end
end Go.Eva
namespace Go.Eva
open Go.RowKit
def ResR (ι:Io) (F:Nat→Prop) (w:World) (H:Heap):List V→Value→Prop
 | [v],u=>VR ι F w H v u
 |vs,u=> ∃cs,u= .tuple cs∧vs.length=cs.size∧ ∀(i:Nat) x c,vs[i]?=some x→cs[i]?=some c→VR ι F w H x c
def VRs (ι:Io) (F:Nat→Prop) (w:World) (H:Heap) (vs:List V) (us:List Value):Prop:=vs.length=us.length∧ ∀(i:Nat) v u,vs[i]?=some v→us[i]?=some u→VR ι F w H v u
def CallS (P:Program) (f:Nat) (az:List V) (H:Heap) (R:Res→Prop):Prop:= ∀(w:World) (ι:Io) (F:Nat→Prop) (vals:Array Value),Good ι F w H→VRs ι F w H az vals.toList→
 Calls P f vals w fun en w'=> ∃x v ι' F',en= .returned v∧R x∧x.e= .ret∧Good ι' F' w' x.H∧ResR ι' F' w' x.H x.vs v∧Ext H.length ι F H w ι' F' x.H w'
section
variable {S:Task→(Res→Prop)→Prop} {w:World} {ι:Io} {F:Nat→Prop} {H:Heap}
theorem Abi {vs:List V} {u:Value} {R:V×Heap→Prop} (h:wpQ S (packRes vs H) R) {ι:Io} {F:Nat→Prop} {w:World} (hr:ResR ι F w H vs u): ∃v,R (v,H)∧VR ι F w H v u:=by
 unfold packRes at h;split at h
 ·exact ⟨_,h,hr⟩
 ·rename_i hne;unfold ResR at hr;split at hr
  ·exact absurd rfl (hne _)
  ·obtain ⟨cs,rfl,h1,h2⟩:=hr;exact ⟨_,h,.tup _ _ h1 h2⟩
theorem AeA (hg:Good ι F w H) (l:List Nat): ∀ {vs:List V} {us:List Value} {R:List T→Prop},wpQ S (fzArgs l H vs) R→VRs ι F w H vs us→
  ∃ts:List T,R ts∧ts.length=us.length∧ ∀(i:Nat) t u,ts[i]?=some t→us[i]?=some u→TR (fun b=>F b∨Fl ι H l b) w t u
 | [],us,R,h,hv=>by
  have:us= []:=qi (by simpa using hv.1.symm);subst this;exact ⟨[],h,rfl,by simp⟩
 |v::vs,us,R,h,hv=>by
  cases us with
  |nil=>have:=hv.1;simp at this
  |cons u us=>
   have h0:=hv.2 0 v u rfl rfl;have hrest:VRs ι F w H vs us:=⟨by simpa using hv.1,fun i v u h1 h2=>hv.2 (i+1) v u (by simpa using h1) (by simpa using h2)⟩
   have cont: ∀x,TR (fun b=>F b∨Fl ι H l b) w x u→wpQ S ((fzArgs l H vs).bind fun ts=> .ret (x::ts)) R→
     ∃ts:List T,R ts∧ts.length=(u::us).length∧ ∀(i:Nat) t u',ts[i]?=some t→(u::us)[i]?=some u'→TR (fun b=>F b∨Fl ι H l b) w t u':=by
    intro x hx h;obtain ⟨ts,h1,h2,h3⟩:=AeA hg l (Aaa _ _ _ h) hrest;refine ⟨x::ts,h1,by simp [h2],?_⟩;intro i t u' ht hu;cases i with
    |zero=>simp at ht hu;subst ht;subst hu;exact hx
    |succ i=>simp at ht hu;exact h3 i t u' ht hu
   unfold fzArgs at h;split at h
   ·exact cont _ (h0.t_inv.mono (fun _ h=> .inl h) (fun _ _=>rfl)) h
   ·cases h0 with
    |fit _ _ p ht=>exact cont _ (ht.mono (fun _ h=> .inl h) (fun _ _=>rfl)) h
   ·split at h
    ·rename_i x hx;exact cont _ ((fz_ok hg l _).1 _ _ _ hx h0).1 h
    ·exact h.elim
   ·split at h
    ·rename_i x hx;exact cont _ ((fz_ok hg l _).1 _ _ _ hx h0).1 h
    ·exact h.elim
theorem Ai7 {w':World} {F':Nat→Prop} (hg:Good ι F w H) (hos:w'.os=w.os) (htape:w'.tape=w.tape) (hout:w'.output=w.output) (hsize:w.heap.size≤w'.heap.size)
  (hsame: ∀b,b<w.heap.size→w'.heap[b]?=w.heap[b]?) (hsub: ∀b,F b→F' b) (hffr: ∀b,b<w.heap.size→F' b→F b) (hfin: ∀b,F' b→b<w'.heap.size):
  Good ι F' w' H∧Step ι F H w ι F' H w':=by
 have hl: ∀i oi,H[i]?=some oi→ ∃o'',H[i]?=some o''∧Like ι ι w w' i oi o'':=
  fun i oi hi=>⟨oi,hi,Like.of rfl fun hd b hb=>hsame b (hg.lt i _ b hi hd hb)⟩
 have hlt: ∀b,Own ι H b→b<w.heap.size:=by
  rintro b ⟨id,ob,h1,h2,h3⟩;exact hg.ltB id ob b h1 (Aa4 h2) h3
 exact ⟨⟨hfin,fun id ob h=>(hg.obj id ob h).mono hsub (fun b hb=>hsame b (hg.fin b hb)) hl (fun _=>⟨rfl,rfl⟩) (fun hd b hb=>hsame b (hg.ltB id ob b h hd hb)),hg.inj,
  fun b ho hf=>hg.sep b ho (hffr b (hlt b ho) hf),fun id ob b h hd hr hb=>hsub b (hg.rof id ob b h hd hr hb),hg.nd⟩,
  ⟨hos,htape,hout,hsize,fun b hb _=>hsame b hb,fun _ _ h=>h,hsub,fun b hb h=> .inl (hffr b hb h),hl,fun _ _ h=>h⟩⟩
theorem Adu {F:Nat→Prop} (hf: ∀b,F b→b<w.heap.size):Good ι F w []:=
 ⟨hf,by simp,by simp,fun b h=>by obtain ⟨i,o,h1,_⟩:=h;simp at h1,by simp,by simp⟩
theorem Adg {b:Nat} (h:Own ι [] b):False:=by obtain ⟨i,o,h1,_⟩:=h;simp at h1
theorem Aq8 {b:Nat} (h:Fl ι H [] b):False:=by obtain ⟨i,o,h1,_⟩:=h;simp at h1
theorem fl_lt (hg:Good ι F w H) {l:List Nat} {b:Nat} (h:Fl ι H l b):b<w.heap.size:=by
 obtain ⟨i,o,_,h1,h2,h3⟩:=h;exact hg.lt i o b h1 h2 h3
theorem Ajo: ∀ {ts:List T},flats ts=true→ ∀t∈ts,t.flat=true
 | [],_,t,ht=>by simp at ht
 |x::r,h,t,ht=>by
  simp only [flats,zf] at h;rcases qf.1 ht with rfl|ht
  ·exact h.1
  ·exact Ajo h.2 t ht
theorem Ady {F F':Nat→Prop} {w w':World} {ι ι':Io} {H H':Heap} {vs vs':List V} {u:Value} (hl:vs'.length=vs.length) (h:ResR ι F w H vs u) (hm: ∀(i:Nat) v v' u,vs[i]?=some v→vs'[i]?=some v'→VR ι F w H v u→VR ι' F' w' H' v' u):ResR ι' F' w' H' vs' u:=by
 match vs,vs',hl with
 | [],[],_=>
  obtain ⟨cs,rfl,h1,h2⟩:=h;exact ⟨cs,rfl,h1,by simp⟩
 | [v],[v'],_=>exact hm 0 v v' u rfl rfl h
 |a::b::r,a'::b'::r',hl=>
  obtain ⟨cs,rfl,h1,h2⟩:=h;refine ⟨cs,rfl,by simpa using hl.trans h1,?_⟩;intro i x c hx hc;have hi:i<(a::b::r).length:=by
   have:=(zh.1 hx).1;omega
  exact hm i _ x c (zt hi) hx (h2 i _ c (zt hi) hc)
end
end Go.Eva
namespace Go.Eva
open Go.RowKit
def CPost (R:V×Heap→Prop) (ι:Io) (F:Nat→Prop) (H:Heap) (w:World) (en:Ending) (w':World):Prop:=
 ∃v r H' ι' F',en= .returned v∧R (r,H')∧Good ι' F' w' H'∧Step ι F H w ι' F' H' w'∧VR ι' F' w' H' r v
section
variable {P:Program} {S:Task→(Res→Prop)→Prop} {w:World} {ι:Io} {F:Nat→Prop} {H:Heap} {R:V×Heap→Prop}
theorem Aeh (hS: ∀f az H R,S (.call f az H) R→CallS P f az H R) (hg:Good ι F w H) {f:Nat} {args:List V} {cs:List T} {us cvs:List Value} (h:wpQ S (pureCall f args cs H) R) (hv:VRs ι F w H args us)
  (hcl:cs.length=cvs.length) (hcs: ∀(i:Nat) t u,cs[i]?=some t→cvs[i]?=some u→TR F w t u):Calls P f (us++cvs).toArray w (fun en w'=>CPost R ι F H w en w'∧OldSame w w'):=by
 unfold pureCall at h;replace h:=AaQ (Aaa _ _ _ h);generalize reach H 200 (idss args) []=l at h;obtain ⟨ts,h1,h2,h3⟩:=AeA hg l (Aaa _ _ _ h) hv;clear h;obtain ⟨R',hSR,_,h4⟩:=h1;obtain ⟨hg1,hst1⟩:=AlF hg l;have hfin1: ∀b,(F b∨Fl ι H l b)→b<w.heap.size:=fun b hb=>hb.elim (hg.fin b) (fl_lt hg);have hargs:VRs ι (fun b=>F b∨Fl ι H l b) w [] ((ts++cs).map .t) (us++cvs).toArray.toList:=by
  refine ⟨by simp [h2,hcl],?_⟩;intro i v u hx hu;simp only [qb] at hx hu;obtain ⟨t,ht,rfl⟩:=qa.1 hx;refine .t _ _ ?_;rcases wo i ts.length with hi|hi
  ·rw [qq hi] at ht;rw [qq (by omega)] at hu;exact h3 i t u ht hu
  ·rw [qg hi] at ht;rw [qg (by omega)] at hu;exact (hcs _ t u ht (by rw [h2];exact hu)).mono (fun _ h=> .inl h) (fun _ _=>rfl)
 refine y3 (hS _ _ _ _ hSR w ι _ _ (Adu hfin1) hargs) ?_;rintro en w' ⟨x,v,ι',F',rfl,hR',he,hgx,hrx,hx⟩;have hk:=h4 x hR';obtain ⟨xe,vs,H1⟩:=x;simp only at he hgx hrx hx hk;subst he;simp only at hk;have hsame: ∀b,b<w.heap.size→w'.heap[b]?=w.heap[b]?:=fun b hb=>hx.same b hb (fun h=>Adg h);split at hk
 ·rename_i ts' hts;have hvs:=Ab9 hts;subst hvs;split at hk
  ·
   have hF1: ∀b,(F b∨Fl ι H [] b)→F b:=fun b hb=>hb.elim id (fun h=>(Aq8 h).elim);obtain ⟨k1,k2⟩:=Ai7 (F':=F') hg hx.os hx.tape hx.output hx.size hsame (fun b hb=>hx.fsub b (.inl hb)) (fun b hb hf=>hF1 b ((hx.ffr b hb hf).resolve_right Adg)) hgx.fin;obtain ⟨r,hr1,hr2⟩:=Abi hk (Ady (F':=F') (w':=w') (ι':=ι) (H':=H) rfl hrx (fun i v v' u h1 h2 hvr=>by
    rw [h1] at h2;obtain rfl:=ze h2;simp only [qb] at h1;obtain ⟨t,ht,rfl⟩:=qa.1 h1;exact .t _ _ hvr.t_inv))
   exact ⟨⟨v,r,H,ι,F',rfl,hr1,k1,k2,hr2⟩,hx.size,hsame⟩
  ·simp only [wpQ] at hk;split at hk
   ·
    rename_i hfl;have hfl:=Ajo hfl;obtain ⟨k1,k2⟩:=Ai7 (F':=F) hg hx.os hx.tape hx.output hx.size hsame (fun b hb=>hb) (fun b hb hf=>hf) (fun b hb=>Nat.lt_of_lt_of_le (hg.fin b hb) hx.size);obtain ⟨r,hr1,hr2⟩:=Abi hk (Ady (F':=F) (w':=w') (ι':=ι) (H':=H) rfl hrx (fun i v v' u h1 h2 hvr=>by
     rw [h1] at h2;obtain rfl:=ze h2;simp only [qb] at h1;obtain ⟨t,ht,rfl⟩:=qa.1 h1;exact .t _ _ (hvr.t_inv.flat (hfl t (jt ht)))))
    exact ⟨⟨v,r,H,ι,F,rfl,hr1,k1,k2,hr2⟩,hx.size,hsame⟩
   ·obtain ⟨k1,k2⟩:=Ai7 (F':=F') hg1 hx.os hx.tape hx.output hx.size hsame hx.fsub (fun b hb hf=>(hx.ffr b hb hf).resolve_right Adg) hgx.fin;obtain ⟨r,hr1,hr2⟩:=Abi hk (Ady (F':=F') (w':=w') (ι':=ι) (H':=roAll 0 l H) rfl hrx (fun i v v' u h1 h2 hvr=>by
     rw [h1] at h2;obtain rfl:=ze h2;simp only [qb] at h1;obtain ⟨t,ht,rfl⟩:=qa.1 h1;exact .t _ _ hvr.t_inv))
    exact ⟨⟨v,r,_,ι,F',rfl,hr1,k1,hst1.trans k2,hr2⟩,hx.size,hsame⟩
 ·exact hk.elim
end
end Go.Eva
namespace Go.Eva
open Go.RowKit
def LikeAt (ι ι':Io) (i j:Nat) (o o':Ob):Prop:=o'= .dead∨(match o with
 | .dead=>o'= .dead
 | .one s _ _=>ι' j=ι i∧ ∃v' ro',o'= .one s v' ro'
 | .arr s xs _ _=>ι' j=ι i∧ ∃xs' sp' ro',o'= .arr s xs' sp' ro'∧xs'.length=xs.length
 | .vec s xs _=>ι' j=ι i∧ ∃xs' ps',o'= .vec s xs' ps'∧xs'.length=xs.length
 | .map _ _ _=>ι' j=ι i∧o'.isMap=true
 | .rng _ _ _ _ _=>ι' j=ι i∧o'.isMap=true
 | .hand _=>ι' j=ι i∧ ∃m',o'= .hand m'
 | .pool _ _=>ι' j=ι i∧ ∃bs' xs',o'= .pool bs' xs'
 | .iter _ _ _=>ι' j=ι i∧ ∃ks' vs' s',o'= .iter ks' vs' s')
section
variable {w:World} {ι ι':Io} {F:Nat→Prop} {H H':Heap} {m:Nat→Option Nat}
theorem OwnSl.re (hm: ∀i j o,m i=some j→H[i]?=some o→ ∃o',H'[j]?=some o'∧LikeAt ι ι' i j o o') {i j off:Nat} {n lim:Option Nat} {v:Value} (h:OwnSl ι w H i off n lim v) (hij:m i=some j):OwnSl ι' w H' j off n lim v:=by
 unfold OwnSl at h⊢;cases ho:H[i]? with
 |none=>simp [ho] at h
 |some o=>
  obtain ⟨o',ho',hk⟩:=hm i j o hij ho;rw [ho'];rcases hk with rfl|hk
  ·trivial
  ·cases o with
   |dead=>simp only at hk;subst hk;trivial
   |one s v r=>simp [ho] at h
   |arr s xs sp ro=>
    simp only at hk;obtain ⟨h1,xs',sp',ro',rfl,hxs⟩:=hk;rw [ho] at h;simp only at h⊢;rw [hxs];unfold SlAt at h⊢;rw [h1];exact h
   |vec s xs ps=>
    simp only at hk;obtain ⟨h1,xs',ps',rfl,hxs⟩:=hk;rw [ho] at h;simp only at h⊢;rw [hxs];unfold SlAt at h⊢;rw [h1];exact h
   |map ks xs ps=>simp [ho] at h
   |iter ks vs s=>simp [ho] at h
   |rng ks xs ps it s=>simp [ho] at h
   |pool bs xs=>simp [ho] at h
   |hand k=>simp [ho] at h
theorem OwnPtr.re (hm: ∀i j o,m i=some j→H[i]?=some o→ ∃o',H'[j]?=some o'∧LikeAt ι ι' i j o o') {i j a b:Nat} {v:Value} (h:OwnPtr ι H i a b v) (hij:m i=some j):OwnPtr ι' H' j a b v:=by
 unfold OwnPtr at h⊢;cases ho:H[i]? with
 |none=>simp [ho] at h
 |some o=>
  obtain ⟨o',ho',hk⟩:=hm i j o hij ho;rw [ho'];rcases hk with rfl|hk
  ·trivial
  ·cases o with
   |dead=>simp only at hk;subst hk;trivial
   |one s v r=>
    simp only at hk;obtain ⟨h1,v',ro',rfl⟩:=hk;rw [ho] at h;simp only at h⊢;rw [h1];exact h
   |arr s xs sp ro=>
    simp only at hk;obtain ⟨h1,xs',sp',ro',rfl,hxs⟩:=hk;rw [ho] at h;simp only at h⊢;rw [h1,hxs];exact h
   |vec s xs ps=>
    simp only at hk;obtain ⟨h1,xs',ps',rfl,hxs⟩:=hk;rw [ho] at h;simp only at h⊢;rw [h1,hxs];exact h
   |map ks xs ps=>simp [ho] at h
   |iter ks vs s=>
    simp only at hk;obtain ⟨h1,ks',vs',s',rfl⟩:=hk;rw [ho] at h;simp only at h⊢;rw [h1];exact h
   |pool bs xs=>simp [ho] at h
   |rng ks xs ps it s=>simp [ho] at h
   |hand k=>
    simp only at hk;obtain ⟨h1,k',rfl⟩:=hk;rw [ho] at h;simp only at h⊢;rw [h1];exact h
theorem OwnMap.re (hm: ∀i j o,m i=some j→H[i]?=some o→ ∃o',H'[j]?=some o'∧LikeAt ι ι' i j o o') {i j:Nat} {v:Value} (h:OwnMap ι H i v) (hij:m i=some j):OwnMap ι' H' j v:=by
 unfold OwnMap at h⊢;cases ho:H[i]? with
 |none=>simp [ho] at h
 |some o=>
  obtain ⟨o',ho',hk⟩:=hm i j o hij ho;rw [ho'];rcases hk with rfl|hk
  ·trivial
  ·cases o with
   |dead=>simp only at hk;subst hk;trivial
   |map ks vs ps=>
    simp only at hk;rw [ho] at h;obtain ⟨h1,hk⟩:=hk;cases o'<;>simp only [gj,xq] at hk<;>(simp only at h⊢;rw [h1];exact h)
   |rng ks vs ps it s=>
    simp only at hk;rw [ho] at h;obtain ⟨h1,hk⟩:=hk;cases o'<;>simp only [gj,xq] at hk<;>(simp only at h⊢;rw [h1];exact h)
   |_=>simp [ho] at h
theorem AgY: ∀ {vs vs':List V},vre m vs=some vs'→vs'.length=vs.length∧ ∀(i:Nat) v',vs'[i]?=some v'→ ∃v,vs[i]?=some v∧v.re m=some v'
 | [],vs',h=>by simp [vre] at h;subst h;simp
 |v::r,vs',h=>by
  simp only [vre] at h;split at h
  ·rename_i x l hx hl;simp at h;subst h;obtain ⟨h1,h2⟩:=AgY hl;refine ⟨by simp [h1],?_⟩;intro i v' hv;cases i with
   |zero=>simp at hv;subst hv;exact ⟨v,rfl,hx⟩
   |succ i=>simp at hv;exact h2 i v' hv
  ·contradiction
mutual
theorem re_ok (hm: ∀i j o,m i=some j→H[i]?=some o→ ∃o',H'[j]?=some o'∧LikeAt ι ι' i j o o'): ∀(v v':V) (u:Value),v.re m=some v'→VR ι F w H v u→VR ι' F w H' v' u
 | .t x,v',u,h,hv=>by simp [V.re] at h;subst h;exact .t _ _ hv.t_inv
 | .nil,v',u,h,hv=>by simp [V.re] at h;subst h;cases hv;exact .nil
 | .also a x,v',u,h,hv=>by simp [V.re] at h;subst h;cases hv with|also _ _ h1 h=>exact .also _ _ h1 h
 | .fit s xs,v',u,h,hv=>by simp [V.re] at h;subst h;cases hv with|fit _ _ a h=>exact .fit _ _ a h
 | .all i l,v',u,h,hv=>by
  simp only [V.re] at h;split at h
  ·rename_i j hj;simp at h;subst h;cases hv with|all _ _ _ h=>exact .all _ _ _ (h.re hm hj)
  ·contradiction
 | .sl i o n l,v',u,h,hv=>by
  simp only [V.re] at h;split at h
  ·rename_i j hj;simp at h;subst h;cases hv with|sl _ _ _ _ _ h=>exact .sl _ _ _ _ _ (h.re hm hj)
  ·contradiction
 | .ptr i a b,v',u,h,hv=>by
  simp only [V.re] at h;split at h
  ·rename_i j hj;simp at h;subst h;cases hv with|ptr _ _ _ _ h=>exact .ptr _ _ _ _ (h.re hm hj)
  ·contradiction
 | .clo f cs,v',u,h,hv=>by
  simp only [V.re] at h;split at h
  ·rename_i l hl;simp at h;subst h;cases hv with|clo _ _ vs hn hc=>
   obtain ⟨h1,h2⟩:=res_ok hm cs l vs.toList hl (by simpa using hn) (fun i x v hx hv=>hc i x v hx (by simpa using hv));exact .clo _ _ _ (by simpa using h1) (fun i x v hx hv=>h2 i x v hx (by simpa using hv))
  ·contradiction
 | .agg cs,v',u,h,hv=>by
  simp only [V.re] at h;split at h
  ·rename_i l hl;simp at h;subst h;cases hv with|agg _ vs hn h1 hc=>
   obtain ⟨k1,k2⟩:=res_ok hm cs l vs.toList hl (by simpa using hn) (fun i x v hx hv=>hc i x v hx (by simpa using hv));exact .agg _ _ (by simpa using k1) h1 (fun i x v hx hv=>k2 i x v hx (by simpa using hv))
  ·contradiction
 | .tup cs,v',u,h,hv=>by
  simp only [V.re] at h;split at h
  ·rename_i l hl;simp at h;subst h;cases hv with|tup _ vs hn hc=>
   obtain ⟨k1,k2⟩:=res_ok hm cs l vs.toList hl (by simpa using hn) (fun i x v hx hv=>hc i x v hx (by simpa using hv));exact .tup _ _ (by simpa using k1) (fun i x v hx hv=>k2 i x v hx (by simpa using hv))
  ·contradiction
 | .map i,v',u,h,hv=>by
  simp only [V.re] at h;split at h
  ·rename_i j hj;simp at h;subst h;cases hv with|map _ _ h=>exact .map _ _ (h.re hm hj)
  ·contradiction
theorem res_ok (hm: ∀i j o,m i=some j→H[i]?=some o→ ∃o',H'[j]?=some o'∧LikeAt ι ι' i j o o'): ∀(vs vs':List V) (us:List Value),vre m vs=some vs'→vs.length=us.length→(∀(i:Nat) v u,vs[i]?=some v→us[i]?=some u→VR ι F w H v u)→
  vs'.length=us.length∧ ∀(i:Nat) v u,vs'[i]?=some v→us[i]?=some u→VR ι' F w H' v u
 | [],vs',us,h,hl,hv=>by simp [vre] at h;subst h;exact ⟨hl,by simp⟩
 |v::r,vs',us,h,hl,hv=>by
  cases us with
  |nil=>simp at hl
  |cons u us=>
   simp only [vre] at h;split at h
   ·rename_i x l hx hl';simp at h;subst h;have h0:=re_ok hm v x u hx (hv 0 v u rfl rfl);obtain ⟨h1,h2⟩:=res_ok hm r l us hl' (by simpa using hl) (fun i v u h1 h2=>hv (i+1) v u (by simpa using h1) (by simpa using h2));refine ⟨by simp [h1],?_⟩;intro i y z hy hz;cases i with
    |zero=>simp at hy hz;subst hy;subst hz;exact h0
    |succ i=>simp at hy hz;exact h2 i y z hy hz
   ·contradiction
end
theorem AfY {v v':V} (h:v.re m=some v'):v'.size=v.size∧(v≠ .t .any→v'≠ .t .any):=by
 have one: ∀(m:Nat→Option Nat),True:=fun _=>trivial;cases v with
 |t x=>simp [V.re] at h;subst h;exact ⟨rfl,id⟩
 |nil=>simp [V.re] at h;subst h;exact ⟨rfl,fun _=>by simp⟩
 |also a x=>simp [V.re] at h;subst h;exact ⟨rfl,fun _=>by simp⟩
 |fit s xs=>simp [V.re] at h;subst h;exact ⟨rfl,fun _=>by simp⟩
 |all i l=>simp only [V.re] at h;split at h<;>simp at h;subst h;exact ⟨rfl,fun _=>by simp⟩
 |sl i o n l=>simp only [V.re] at h;split at h<;>simp at h;subst h;exact ⟨rfl,fun _=>by simp⟩
 |ptr i a b=>simp only [V.re] at h;split at h<;>simp at h;subst h;exact ⟨rfl,fun _=>by simp⟩
 |clo f cs=>simp only [V.re] at h;split at h<;>simp at h;subst h;exact ⟨rfl,fun _=>by simp⟩
 |agg cs=>
  simp only [V.re] at h;split at h
  ·rename_i l hl;simp at h;subst h;exact ⟨(AgY hl).1,fun _=>by simp⟩
  ·contradiction
 |tup cs=>simp only [V.re] at h;split at h<;>simp at h;subst h;exact ⟨rfl,fun _=>by simp⟩
 |map i=>simp only [V.re] at h;split at h<;>simp at h;subst h;exact ⟨rfl,fun _=>by simp⟩
theorem ob_re {o o':Ob} (h:o.re m=some o'):o'.isDead=o.isDead∧o'.ro=o.ro∧(∀i j,ι' j=ι i→LikeAt ι ι' i j o o'):=by
 cases o with
 |dead=>simp [fh] at h;subst h;exact ⟨rfl,rfl,fun _ _ _=> .inl rfl⟩
 |one s v r=>
  simp only [fh] at h;split at h
  ·simp at h;subst h;exact ⟨rfl,rfl,fun i j hij=> .inr ⟨hij,_,_,rfl⟩⟩
  ·contradiction
 |arr s xs sp r=>simp [fh] at h;subst h;exact ⟨rfl,rfl,fun i j hij=> .inr ⟨hij,_,_,_,rfl,rfl⟩⟩
 |vec s xs ps=>
  simp only [fh] at h;split at h
  ·simp at h;subst h;exact ⟨rfl,rfl,fun i j hij=> .inr ⟨hij,_,_,rfl,rfl⟩⟩
  ·contradiction
 |map ks xs ps=>
  simp only [fh] at h;split at h
  ·simp at h;subst h;exact ⟨rfl,rfl,fun i j hij=> .inr ⟨hij,rfl⟩⟩
  ·contradiction
 |pool bs xs=>simp [fh] at h;subst h;exact ⟨rfl,rfl,fun i j hij=> .inr ⟨hij,_,_,rfl⟩⟩
 |iter ks vs s=>simp [fh] at h;subst h;exact ⟨rfl,rfl,fun i j hij=> .inr ⟨hij,_,_,_,rfl⟩⟩
 |rng ks xs ps it s=>
  simp only [fh] at h;split at h
  ·simp at h;subst h;exact ⟨rfl,rfl,fun i j hij=> .inr ⟨hij,rfl⟩⟩
  ·contradiction
 |hand k=>
  simp only [fh] at h;split at h
  ·simp at h;subst h;exact ⟨rfl,rfl,fun i j hij=> .inr ⟨hij,_,rfl⟩⟩
  ·contradiction
theorem AjD {v v':V} (h:v.re m=some v'): ∀(j:Nat) x',v'.cells[j]?=some x'→ ∃x,v.cells[j]?=some x∧x.re m=some x':=by
 have one:v.cells= [v]→v'.cells= [v']→ ∀(j:Nat) x',v'.cells[j]?=some x'→ ∃x,v.cells[j]?=some x∧x.re m=some x':=by
  intro h1 h2 j x' hx;rw [h2] at hx;rw [h1];cases j with
  |zero=>simp at hx;subst hx;exact ⟨v,rfl,h⟩
  |succ j=>simp at hx
 cases v with
 |t x=>
  simp [V.re] at h;subst h;intro j x' hx;refine ⟨x',hx,?_⟩;rw [V.cells_t] at hx;simp at hx;obtain ⟨y,_,rfl⟩:=hx;rfl
 |nil=>simp [V.re] at h;subst h;exact one rfl rfl
 |also a x=>simp [V.re] at h;subst h;exact one rfl rfl
 |fit s xs=>simp [V.re] at h;subst h;exact one rfl rfl
 |all i l=>simp only [V.re] at h;split at h<;>simp at h;subst h;exact one rfl rfl
 |sl i o n l=>simp only [V.re] at h;split at h<;>simp at h;subst h;exact one rfl rfl
 |ptr i a b=>simp only [V.re] at h;split at h<;>simp at h;subst h;exact one rfl rfl
 |clo f cs=>simp only [V.re] at h;split at h<;>simp at h;subst h;exact one rfl rfl
 |agg cs=>
  simp only [V.re] at h;split at h
  ·rename_i l hl;simp at h;subst h;exact (AgY hl).2
  ·contradiction
 |tup cs=>simp only [V.re] at h;split at h<;>simp at h;subst h;exact one rfl rfl
 |map i=>simp only [V.re] at h;split at h<;>simp at h;subst h;exact one rfl rfl
theorem HC.re (hm: ∀i j o,m i=some j→H[i]?=some o→ ∃o',H'[j]?=some o'∧LikeAt ι ι' i j o o') {x x':V} {c:Value} {fp:List Nat} (hx:x.re m=some x') (h:HC ι F w H x c fp):HC ι' F w H' x' c fp:=by
 cases h with
 |v _ _ h=>exact .v _ _ (re_ok hm x x' c hx h)
 |t _ _ _ h=>simp [V.re] at hx;subst hx;exact .t _ _ _ h
theorem AeL: ∀ {ps ps':List (Nat×V)},reP m ps=some ps'→keysP ps'=keysP ps∧ ∀i,(findP i ps'=none∧findP i ps=none)∨ ∃v v',findP i ps=some v∧findP i ps'=some v'∧v.re m=some v'
 | [],ps',h=>by simp [reP] at h;subst h;exact ⟨rfl,fun i=> .inl ⟨rfl,rfl⟩⟩
 |(j,v)::r,ps',h=>by
  simp only [reP] at h;split at h
  ·rename_i x l hx hl;simp at h;subst h;obtain ⟨h1,h2⟩:=AeL hl;refine ⟨by simp only [keysP,qo] at h1⊢;rw [h1],fun i=> ?_⟩;unfold findP;by_cases e:i=j
   ·rw [if_pos e,if_pos e];exact .inr ⟨v,x,rfl,rfl,hx⟩
   ·rw [if_neg e,if_neg e];exact h2 i
  ·contradiction
theorem Afk {ps ps':List (Nat×V)} (h:reP m ps=some ps') {xs:List T} {i:Nat} {v':V} (hv:memP ps' xs i=some v'): ∃v,memP ps xs i=some v∧v.re m=some v':=by
 unfold memP at hv⊢;rcases (AeL h).2 i with ⟨h1,h2⟩|⟨v,u,h1,h2,h3⟩
 ·rw [h1] at hv;rw [h2];refine ⟨v',hv,?_⟩;simp at hv;obtain ⟨x,_,rfl⟩:=hv;rfl
 ·rw [h2] at hv;obtain rfl:=ze hv;exact ⟨v,by rw [h1],h3⟩
theorem ObR.re (hm: ∀i j o,m i=some j→H[i]?=some o→ ∃o',H'[j]?=some o'∧LikeAt ι ι' i j o o') {i j:Nat} {o o':Ob} (h:ObR ι F w H i o) (ho:o.re m=some o') (hij:o.isDead=false→ι' j=ι i∧ι'.hid j=ι.hid i):ObR ι' F w H' j o':=by
 cases o with
 |dead=>simp [fh] at ho;subst ho;trivial
 |pool bs xs=>
  simp [fh] at ho;subst ho;obtain ⟨⟨h1,h0,h2⟩,h3⟩:=h;exact ⟨⟨(hij rfl).1.trans h1,(hij rfl).2.trans h0,h2⟩,h3⟩
 |one s v r=>
  simp only [fh] at ho;split at ho
  ·rename_i v' hv;simp at ho;subst ho;obtain ⟨h1,h2,h0,b,cs,e,fp,h3,h4,h5,h6,h7,h8⟩:=h;obtain ⟨k1,k2⟩:=AfY hv;refine ⟨k2 h1,k1.trans h2,fun hr=>(hij rfl).2.trans (h0 hr),b,cs,e,fp,(hij rfl).1.trans h3,h4,h5,h6,fun k x' c hx hc=> ?_,(hij rfl).2.trans h8⟩;obtain ⟨x,q1,q2⟩:=AjD hv k x' hx;exact (h7 k x c q1 hc).re hm q2
  ·contradiction
 |arr s xs sp r=>
  simp [fh] at ho;subst ho;obtain ⟨h0,hh,h⟩:=h;refine ⟨h0,(hij rfl).2.trans hh,?_⟩;rcases h with ⟨h1,h2,h3⟩|⟨b,cs,e,h1,h2⟩
  ·exact .inl ⟨(hij rfl).1.trans h1,h2,h3⟩
  ·exact .inr ⟨b,cs,e,(hij rfl).1.trans h1,h2⟩
 |vec s xs ps=>
  simp only [fh] at ho;split at ho
  ·rename_i l hl;simp at ho;subst ho;obtain ⟨h0,ht,h⟩:=h;have ht':Told l xs.length:=by unfold Told at ht⊢;rw [(AeL hl).1];exact ht
   refine ⟨h0,ht',?_⟩;rcases h with ⟨h1,h2,h3⟩|⟨b,cs,e,fp,h1,h2,h3,h4,h5,h6,h7,h8⟩
   ·exact .inl ⟨(hij rfl).1.trans h1,h2,(hij rfl).2.trans h3⟩
   ·refine .inr ⟨b,cs,e,fp,(hij rfl).1.trans h1,h2,h3,h4,h5,fun k v' hv=> ?_,fun k n v' x' c hv hx hc=> ?_,(hij rfl).2.trans h8⟩
    ·obtain ⟨v,q1,q2⟩:=Afk hl hv;obtain ⟨k1,k2⟩:=AfY q2;obtain ⟨r1,r2⟩:=h6 k v q1;exact ⟨k2 r1,k1.trans r2⟩
    ·obtain ⟨v,q1,q2⟩:=Afk hl hv;obtain ⟨x,q3,q4⟩:=AjD q2 n x' hx;exact (h7 k n v x c q1 q3 hc).re hm q4
  ·contradiction
 |map ks xs ps=>
  simp only [fh] at ho;split at ho
  ·rename_i l hl;simp at ho;subst ho;obtain ⟨h0,ht,b,es,clock,fp,h1,h2,h3,h4,h5,h6,h7,h8⟩:=h;have ht':Told l xs.length:=by unfold Told at ht⊢;rw [(AeL hl).1];exact ht
   refine ⟨h0,ht',b,es,clock,fp,(hij rfl).1.trans h1,h2,h3,h4,h5,fun k v' hv=> ?_,fun k v' e hv he=> ?_,(hij rfl).2.trans h8⟩
   ·obtain ⟨v,q1,q2⟩:=Afk hl hv;exact (AfY q2).2 (h6 k v q1)
   ·obtain ⟨v,q1,q2⟩:=Afk hl hv;exact (h7 k v e q1 he).re hm q2
  ·contradiction
 |iter ks vs s=>
  simp [fh] at ho;subst ho;obtain ⟨h0,hh,b,m,es,clock,h1,h2⟩:=h;exact ⟨h0,(hij rfl).2.trans hh,b,m,es,clock,(hij rfl).1.trans h1,h2⟩
 |hand k=>
  simp only [fh] at ho;split at ho
  ·simp at ho;subst ho;trivial
  ·contradiction
 |rng ks xs ps it s=>
  simp only [fh] at ho;split at ho
  ·rename_i l j2 hl hj2;simp at ho;subst ho;obtain ⟨⟨h0,ht,hit⟩,b,n,es,clock,fp,h1,h2,h3,h4,h5,h6,h7,h8,h9,h10,h11⟩:=h;have ht':Told l xs.length:=by unfold Told at ht⊢;rw [(AeL hl).1];exact ht
   obtain ⟨o',k1,k2⟩:=hm it j2 _ hj2 (zt hit);refine ⟨⟨h0,ht',(zh.1 k1).1⟩,b,n,es,clock,fp,(hij rfl).1.trans h1,h2,h3,h4,h5,fun k v' hv=> ?_,fun k v' e hv he=> ?_,(hij rfl).2.trans h8,h9,h10,fun k hk=> ?_⟩
   ·obtain ⟨v,q1,q2⟩:=Afk hl hv;exact (AfY q2).2 (h6 k v q1)
   ·obtain ⟨v,q1,q2⟩:=Afk hl hv;exact (h7 k v e q1 he).re hm q2
   ·rw [hk] at k1;obtain rfl:=ze k1;have hg:H[it]?=some H[it]:=zt hit;unfold LikeAt at k2;rcases k2 with k2|k2
    ·cases k2
    ·generalize H[it]=o at hg k2;cases o with
     |hand k'=>simp only at k2;exact k2.1.trans (h11 k' hg)
     |dead=>simp at k2
     |map _ _ _=>simp [gj] at k2
     |rng _ _ _ _ _=>simp [gj] at k2
     |one _ _ _=>simp at k2
     |arr _ _ _ _=>simp at k2
     |vec _ _ _=>simp at k2
     |pool _ _=>simp at k2
     |iter _ _ _=>simp at k2
  ·contradiction
theorem Aly: ∀ {H H':Heap},obre m H=some H'→H'.length=H.length∧ ∀(i:Nat) o,H[i]?=some o→ ∃o',o.re m=some o'∧H'[i]?=some o'
 | [],H',h=>by simp [obre] at h;subst h;simp
 |o::r,H',h=>by
  simp only [obre] at h;split at h
  ·rename_i x l hx hl;simp at h;subst h;obtain ⟨h1,h2⟩:=Aly hl;refine ⟨by simp [h1],?_⟩;intro i o' ho;cases i with
   |zero=>simp at ho;subst ho;exact ⟨x,hx,rfl⟩
   |succ i=>simp at ho;simpa using h2 i o' ho
  ·contradiction
theorem AlB: ∀ {l:List Nat} {H':Heap},pull m H l=some H'→H'.length=l.length∧ ∀(k i:Nat),l[k]?=some i→ ∃o o',H[i]?=some o∧o.re m=some o'∧H'[k]?=some o'
 | [],H',h=>by simp [pull] at h;subst h;simp
 |x::r,H',h=>by
  simp only [pull] at h;split at h
  ·rename_i o ho;rw [Aae] at ho;split at h
   ·rename_i o' l ho' hl;simp at h;subst h;obtain ⟨h1,h2⟩:=AlB hl;refine ⟨by simp [h1],?_⟩;intro k i hk;cases k with
    |zero=>simp at hk;subst hk;exact ⟨o,o',ho,ho',rfl⟩
    |succ k=>simp at hk;simpa using h2 k i hk
   ·contradiction
  ·contradiction
theorem AeK: ∀ {l:List Nat} {i n k:Nat},place l i n=some k→n≤k∧l[k-n]?=some i
 | [],i,n,k,h=>by simp [place] at h
 |x::r,i,n,k,h=>by
  simp only [place] at h;split at h
  ·rename_i hb;simp at h;subst h;simp [zp hb]
  ·obtain ⟨h1,h2⟩:=AeK h;refine ⟨by omega,?_⟩;rw [show k-n=(k-(n+1))+1 by omega];simpa using h2
theorem Aj3: ∀ {l:List Nat},nodupB l=true→l.Nodup
 | [],_=>cw
 |x::r,h=>by
  simp only [nodupB] at h;split at h
  ·contradiction
  ·rename_i hm;refine vw.2 ⟨fun hx=> ?_,Aj3 h⟩;rw [mem_iff.2 hx] at hm;contradiction
theorem AhY: ∀ {i n:Nat} {l:List Nat},startsB i n l=true→ ∀k,k<n→l[k]?=some (i+k)
 |_,0,_,_,k,hk=>by omega
 |i,n+1,[],h,k,hk=>by simp [startsB] at h
 |i,n+1,x::r,h,k,hk=>by
  simp only [startsB] at h;split at h
  ·rename_i hb;obtain rfl:=zp hb;cases k with
   |zero=>rfl
   |succ k=>
    have:=AhY h k (by omega);simp only [yv,this];congr 1;omega
  ·contradiction
end
section
variable {S:Task→(Res→Prop)→Prop} {w:World} {ι:Io} {F:Nat→Prop} {H:Heap}
theorem gc_ok (hg:Good ι F w H) {keep:Nat} {vs:List V} {us:List Value} {R:Gc→Prop} (h:wpQ S (gc keep vs H) R) (hv:VRs ι F w H vs us):
  ∃g ιg,R g∧g.back.Nodup∧g.H.length=g.back.length∧(∀k i,g.back[k]?=some i→(ιg k=ι i∧ιg.hid k=ι.hid i)∧ ∃o o',H[i]?=some o∧g.H[k]?=some o'∧o'.isDead=o.isDead∧o'.ro=o.ro∧ ∀ι1 ι2 i' j',ι2 j'=ι1 i'→LikeAt ι1 ι2 i' j' o o')∧
   Good ιg F w g.H∧VRs ιg F w g.H g.vs us∧Ext keep ι F H w ιg F g.H w:=by
 unfold gc at h;replace h:=AaQ (Aaa _ _ _ h);generalize reach H 200 (upto 0 keep++idss vs++poolIds 0 H) []=back at h;split at h
 ·rename_i vs' H' hb hvs hH;simp only [zf] at hb;have hnd:=Aj3 hb.1;have hst:=AhY hb.2;obtain ⟨p1,p2⟩:=AlB hH
  let ιg:Io:=⟨fun k=>match back[k]? with|some i=>ι i|none=>none,fun k=>match back[k]? with|some i=>ι.hid i|none=> []⟩
  have hιg: ∀k i,back[k]?=some i→ιg k=ι i∧ιg.hid k=ι.hid i:=fun k i hk=>by simp only [ιg,hk];exact ⟨trivial,trivial⟩
  have hB: ∀k i b,back[k]?=some i→Blk ιg k b→Blk ι i b:=fun k i b hk hb=>by unfold Blk at hb⊢;rw [(hιg k i hk).1,(hιg k i hk).2] at hb;exact hb
  have hm: ∀i j o,place back i 0=some j→H[i]?=some o→ ∃o',H'[j]?=some o'∧LikeAt ι ιg i j o o':=by
   intro i j o hij ho;obtain ⟨_,hk⟩:=AeK hij;simp only [b9] at hk;obtain ⟨o1,o',q1,q2,q3⟩:=p2 j i hk;rw [ho] at q1;obtain rfl:=ze q1;exact ⟨o',q3,(ob_re (ι:=ι) (ι':=ιg) q2).2.2 i j (hιg j i hk).1⟩
  have back_of: ∀(k:Nat) (o':Ob),H'[k]?=some o'→ ∃(i:Nat) (o:Ob),back[k]?=some i∧H[i]?=some o∧o.re (fun i=>place back i 0)=some o':=by
   intro k o' hk;have hlt:k<back.length:=by have:=(zh.1 hk).1;omega
   obtain ⟨o,o1,q1,q2,q3⟩:=p2 k _ (zt hlt);rw [hk] at q3;obtain rfl:=ze q3;exact ⟨_,o,zt hlt,q1,q2⟩
  have hown: ∀b,Own ιg H' b→Own ι H b:=by
   rintro b ⟨k,o',h1,h2,h3⟩;obtain ⟨i,o,q1,q2,q3⟩:=back_of k o' h1;exact ⟨i,o,q2,(ob_re (ι:=ι) (ι':=ι) q3).2.1 ▸ h2,hB k i b q1 h3⟩
  have hlive: ∀b,Live ιg H' b→Live ι H b:=by
   rintro b ⟨k,o',h1,h2,h3⟩;obtain ⟨i,o,q1,q2,q3⟩:=back_of k o' h1;exact ⟨i,o,q2,(ob_re (ι:=ι) (ι':=ι) q3).1 ▸ h2,hB k i b q1 h3⟩
  refine ⟨_,ιg,h,hnd,p1,?_,⟨hg.fin,?_,?_,fun b ho hf=>hg.sep b (hown b ho) hf,?_,?_⟩,?_,⟨rfl,rfl,rfl,qn _,fun _ _ _=>rfl,fun b _ h=>hown b h,fun _ h=>h,fun _ _ h=> .inl h,?_,fun b _ h=>hlive b h⟩⟩
  ·intro k i hk;obtain ⟨o,o',q1,q2,q3⟩:=p2 k i hk;exact ⟨hιg k i hk,o,o',q1,q3,(ob_re (ι:=ι) (ι':=ι) q2).1,(ob_re (ι:=ι) (ι':=ι) q2).2.1,fun ι1 ι2 i' j'=>(ob_re (ι:=ι1) (ι':=ι2) q2).2.2 i' j'⟩
  ·intro k o' hk;obtain ⟨i,o,q1,q2,q3⟩:=back_of k o' hk;exact (hg.obj i o q2).re hm q3 (fun _=>hιg k i q1)
  ·intro k1 k2 o1 o2 b h1 h2 d1 d2 b1 b2;obtain ⟨i1,o1',q1,q2,q3⟩:=back_of k1 o1 h1;obtain ⟨i2,o2',r1,r2,r3⟩:=back_of k2 o2 h2;have:=hg.inj i1 i2 o1' o2' b q2 r2 ((ob_re (ι:=ι) (ι':=ι) q3).1 ▸ d1) ((ob_re (ι:=ι) (ι':=ι) r3).1 ▸ d2) (hB k1 i1 b q1 b1) (hB k2 i2 b r1 b2);subst this;exact AgH hnd q1 r1
  ·intro k o' b hk hd hr hb;obtain ⟨i,o,q1,q2,q3⟩:=back_of k o' hk;exact hg.rof i o b q2 ((ob_re (ι:=ι) (ι':=ι) q3).1 ▸ hd) ((ob_re (ι:=ι) (ι':=ι) q3).2.1 ▸ hr) (hB k i b q1 hb)
  ·intro k o' hk hd;obtain ⟨i,o,q1,q2,q3⟩:=back_of k o' hk;rw [(hιg k i q1).1,(hιg k i q1).2];exact hg.nd i o q2 ((ob_re (ι:=ι) (ι':=ι) q3).1 ▸ hd)
  ·exact res_ok hm vs vs' us hvs hv.1 hv.2
  ·intro id o hid ho;have hk:=hst id hid;simp only [jk] at hk;obtain ⟨o1,o',q1,q2,q3⟩:=p2 id id hk;rw [ho] at q1;obtain rfl:=ze q1;refine ⟨o',q3,?_⟩;have:=(ob_re (ι:=ι) (ι':=ιg) q2).2.2 id id (hιg id id hk).1;unfold LikeAt at this;unfold Like;rcases this with h|h
   ·exact .inl h
   ·right;cases o with
    |dead=>exact h
    |one s v r=>exact h
    |arr s xs sp r=>exact ⟨h.1,fun _ _=>rfl,h.2⟩
    |vec s xs ps=>exact ⟨h.1,fun _ _=>rfl,h.2⟩
    |map ks xs ps=>exact h
    |iter ks vs s=>exact h
    |rng ks xs ps it s=>exact h
    |pool bs xs=>exact h
    |hand k=>exact h
 ·exact h.elim
end
end Go.Eva
namespace Go.Eva
open Go.RowKit
theorem Agc: ∀(n i k:Nat),k<n→(upto i n)[k]?=some (i+k)
 |0,_,_,h=>by omega
 |n+1,i,0,_=>rfl
 |n+1,i,k+1,h=>by
  simp only [upto,yv];rw [Agc n (i+1) k (by omega)];congr 1;omega
theorem AiM: ∀(n i:Nat),(upto i n).length=n
 |0,_=>rfl
 |n+1,i=>by simp [upto,AiM n]
theorem AhL: ∀ {l:List Nat} {i n:Nat},i∈l→ ∃k,place l i n=some k
 | [],i,n,h=>by simp at h
 |x::r,i,n,h=>by
  simp only [place];split
  ·exact ⟨_,rfl⟩
  ·rename_i hb;rcases qf.1 h with rfl|h
   ·simp at hb
   ·exact AhL h
theorem AhT: ∀ {back:List Nat} {os H Ha:Heap},setAll H back os=some Ha→back.Nodup→(∀i∈back,i<H.length)→
  Ha.length=H.length∧(∀j,j∉back→Ha[j]?=H[j]?)∧ ∀(k i:Nat),back[k]?=some i→Ha[i]?=os[k]?
 | [],[],H,Ha,h,_,_=>by simp [setAll] at h;subst h;simp
 | [],_::_,H,Ha,h,_,_=>by simp [setAll] at h
 |_::_,[],H,Ha,h,_,_=>by simp [setAll] at h
 |i::back,o::os,H,Ha,h,hnd,hlt=>by
  simp only [setAll] at h;obtain ⟨hni,hnd'⟩:=vw.1 hnd;obtain ⟨h1,h2,h3⟩:=AhT h hnd' (fun j hj=>by simpa using hlt j (qu _ hj));refine ⟨by simpa using h1,?_,?_⟩
  ·intro j hj;simp only [qf,not_or] at hj;rw [h2 j hj.2,qy (vf hj.1)]
  ·intro k j hk;cases k with
   |zero=>
    simp at hk;subst hk;rw [h2 i hni];have:=hlt i (List.mem_cons_self ..);simp [this]
   |succ k=>simp at hk;simpa using h3 k j hk
theorem AaX {ι ι':Io} {i j b:Nat} (h:ι' i=ι j∧ι'.hid i=ι.hid j):Blk ι' i b↔Blk ι j b:=by unfold Blk;rw [h.1,h.2]
theorem Amy {ι ιg ι' ιn:Io} {w w':World} {j k:Nat} {o o1 o2 o3:Ob} (h1: ∀ι1 ι2 i' j',ι2 j'=ι1 i'→LikeAt ι1 ι2 i' j' o o1) (hg:ιg k=ι j) (h2:Like ιg ι' w w' k o1 o2) (h3: ∀ι1 ι2 i' j',ι2 j'=ι1 i'→LikeAt ι1 ι2 i' j' o2 o3) (hn:ιn j=ι' k):
  Like ι ιn w w' j o o3:=by
 have a:=h1 ι ιg j k hg;have c:=h3 ι' ιn k j hn;unfold LikeAt at a c;unfold Like at h2⊢;rcases c with rfl|c
 ·exact .inl rfl
 rcases h2 with rfl|h2
 ·simp only at c;exact .inl c
 rcases a with rfl|a
 ·simp only at h2;subst h2;simp only at c;exact .inl c
 cases o with
 |dead=>simp only at a;subst a;simp only at h2;subst h2;simp only at c;exact .inl c
 |one s v r=>
  obtain ⟨a1,v1,r1,rfl⟩:=a;obtain ⟨b1,v2,r2,rfl⟩:=h2;obtain ⟨c1,v3,r3,rfl⟩:=c;exact .inr ⟨hn.trans (b1.trans hg),v3,r3,rfl⟩
 |arr s xs sp r=>
  obtain ⟨a1,xs1,sp1,r1,rfl,e1⟩:=a;obtain ⟨b1,b2,xs2,sp2,r2,rfl,e2⟩:=h2;obtain ⟨c1,xs3,sp3,r3,rfl,e3⟩:=c;exact .inr ⟨hn.trans (b1.trans hg),fun b hb=>b2 b (hg.trans hb),xs3,sp3,r3,rfl,e3.trans (e2.trans e1)⟩
 |vec s xs ps=>
  obtain ⟨a1,xs1,ps1,rfl,e1⟩:=a;obtain ⟨b1,b2,xs2,ps2,rfl,e2⟩:=h2;obtain ⟨c1,xs3,ps3,rfl,e3⟩:=c;exact .inr ⟨hn.trans (b1.trans hg),fun b hb=>b2 b (hg.trans hb),xs3,ps3,rfl,e3.trans (e2.trans e1)⟩
 |map ks xs ps=>
  obtain ⟨a1,a2⟩:=a;cases o1<;>simp only [gj,xq] at a2<;>(obtain ⟨b1,b2⟩:=h2;cases o2<;>simp only [gj,xq] at b2<;>exact .inr ⟨hn.trans (b1.trans hg),c.2⟩)
 |rng ks xs ps it s=>
  obtain ⟨a1,a2⟩:=a;cases o1<;>simp only [gj,xq] at a2<;>(obtain ⟨b1,b2⟩:=h2;cases o2<;>simp only [gj,xq] at b2<;>exact .inr ⟨hn.trans (b1.trans hg),c.2⟩)
 |pool bs xs=>
  obtain ⟨a1,bs1,xs1,rfl⟩:=a;obtain ⟨b1,bs2,xs2,rfl⟩:=h2;obtain ⟨c1,bs3,xs3,rfl⟩:=c;exact .inr ⟨hn.trans (b1.trans hg),bs3,xs3,rfl⟩
 |hand k=>
  obtain ⟨a1,k1,rfl⟩:=a;obtain ⟨b1,k2,rfl⟩:=h2;obtain ⟨c1,k3,rfl⟩:=c;exact .inr ⟨hn.trans (b1.trans hg),k3,rfl⟩
 |iter ks vs s=>
  obtain ⟨a1,ks1,vs1,s1,rfl⟩:=a;obtain ⟨b1,ks2,vs2,s2,rfl⟩:=h2;obtain ⟨c1,ks3,vs3,s3,rfl⟩:=c;exact .inr ⟨hn.trans (b1.trans hg),ks3,vs3,s3,rfl⟩
section
variable {w w':World} {ι ιg ι':Io} {F F':Nat→Prop} {H Hg H1 H1' Ha:Heap} {back:List Nat}
theorem Akw (hg:Good ι F w H) (hnd:back.Nodup) (hlen:Hg.length=back.length)
  (hb: ∀k i,back[k]?=some i→(ιg k=ι i∧ιg.hid k=ι.hid i)∧ ∃o o',H[i]?=some o∧Hg[k]?=some o'∧o'.isDead=o.isDead∧o'.ro=o.ro∧ ∀ι1 ι2 i' j',ι2 j'=ι1 i'→LikeAt ι1 ι2 i' j' o o')
  (hx:Good ι' F' w' H1) (he:Ext Hg.length ιg F Hg w ι' F' H1 w')
  (hre:obre (nth (back++upto H.length (H1.length-back.length))) H1=some H1') (hset:setAll H back (H1'.take back.length)=some Ha):
  ∃ιn,Good ιn F' w' (Ha++H1'.drop back.length)∧Step ι F H w ιn F' (Ha++H1'.drop back.length) w'∧
   ∀v v' u,v.re (nth (back++upto H.length (H1.length-back.length)))=some v'→VR ι' F' w' H1 v u→VR ιn F' w' (Ha++H1'.drop back.length) v' u:=by
 have hblt: ∀i∈back,i<H.length:=by
  intro i hi;obtain ⟨k,hk,e⟩:=xn hi;obtain ⟨_,o,_,h1,_⟩:=hb k i (by rw [zt hk,e]);exact (zh.1 h1).1
 obtain ⟨s1,s2,s3⟩:=AhT hset hnd hblt;obtain ⟨r1,r2⟩:=Aly hre;generalize hmd:nth (back++upto H.length (H1.length-back.length))=m at*;have hn1:back.length≤H1.length:=by
  rcases wh back.length with h0|h0
  ·omega
  ·have hk:back.length-1<back.length:=by omega
   obtain ⟨_,o,o',_,h2,_⟩:=hb _ _ (zt hk);obtain ⟨o2,h3,_⟩:=he.like _ o' (by omega) h2;have:=(zh.1 h3).1;omega
 have m1: ∀k,k<back.length→m k=back[k]?:=by
  intro k hk;rw [←hmd,Aae,qq hk]
 have m2: ∀k,back.length≤k→k<H1.length→m k=some (H.length+(k-back.length)):=by
  intro k hk hk2;rw [←hmd,Aae,qg hk,Agc _ _ _ (by omega)]
 let ιn:Io:=⟨fun j=>match place back j 0 with
  |some k=>ι' k
  |none=>if j<H.length then ι j else ι' (back.length+(j-H.length)),fun j=>match place back j 0 with
  |some k=>ι'.hid k
  |none=>if j<H.length then ι.hid j else ι'.hid (back.length+(j-H.length))⟩
 have n1: ∀k j,back[k]?=some j→ιn j=ι' k∧ιn.hid j=ι'.hid k:=by
  intro k j hk;obtain ⟨k',hk'⟩:=AhL (n:=0) (jt hk);obtain ⟨_,h2⟩:=AeK hk';simp only [b9] at h2;have:=AgH hnd hk h2;subst this;simp only [ιn,hk'];exact ⟨trivial,trivial⟩
 have nomem: ∀j,j∉back→place back j 0=none:=by
  intro j hj;cases hp:place back j 0 with
  |none=>rfl
  |some k=>exact absurd (jt (AeK hp).2) hj
 have n2: ∀j,j∉back→j<H.length→ιn j=ι j∧ιn.hid j=ι.hid j:=by
  intro j hj hlt;simp only [ιn,nomem j hj,hlt,if_true];exact ⟨trivial,trivial⟩
 have n3: ∀j,H.length≤j→ιn j=ι' (back.length+(j-H.length))∧ιn.hid j=ι'.hid (back.length+(j-H.length)):=by
  intro j hj;have:j∉back:=fun h=>by have:=hblt j h;omega
  have hnl: ¬j<H.length:=by omega
  simp only [ιn,nomem j this,hnl,if_false];exact ⟨trivial,trivial⟩
 generalize hHn:Ha++H1'.drop back.length=Hn;have g1: ∀(k j:Nat),back[k]?=some j→Hn[j]?=H1'[k]?:=by
  intro k j hk;have hj:=hblt j (jt hk);have hk':=(zh.1 hk).1;rw [←hHn,qq (by omega),s3 k j hk,ji,if_pos hk']
 have g2: ∀(j:Nat),j∉back→j<H.length→Hn[j]?=H[j]?:=by
  intro j hj hlt;rw [←hHn,qq (by omega),s2 j hj]
 have g3: ∀(j:Nat),H.length≤j→Hn[j]?=H1'[back.length+(j-H.length)]?:=by
  intro j hj;rw [←hHn,qg (by omega),xh,s1]
 have entry: ∀(j:Nat) (o':Ob),Hn[j]?=some o'→(H[j]?=some o'∧j∉back∧(ιn j=ι j∧ιn.hid j=ι.hid j))∨ ∃(i:Nat) (o:Ob),H1[i]?=some o∧o.re m=some o'∧m i=some j∧(ιn j=ι' i∧ιn.hid j=ι'.hid i):=by
  intro j o' hj;have fromH1: ∀(i:Nat),H1'[i]?=some o'→ ∃o:Ob,H1[i]?=some o∧o.re m=some o':=by
   intro i hi;have hlt:i<H1.length:=by have:=(zh.1 hi).1;omega
   obtain ⟨o1,q1,q2⟩:=r2 i _ (zt hlt);rw [hi] at q2;obtain rfl:=ze q2;exact ⟨_,zt hlt,q1⟩
  by_cases hjb:j∈back
  ·obtain ⟨k,hk,e⟩:=xn hjb;have hk':back[k]?=some j:=by rw [zt hk,e]
   rw [g1 k j hk'] at hj;obtain ⟨o,q1,q2⟩:=fromH1 k hj;exact .inr ⟨k,o,q1,q2,by rw [m1 k hk,hk'],n1 k j hk'⟩
  ·by_cases hlt:j<H.length
   ·rw [g2 j hjb hlt] at hj;exact .inl ⟨hj,hjb,n2 j hjb hlt⟩
   ·rw [g3 j (by omega)] at hj;obtain ⟨o,q1,q2⟩:=fromH1 _ hj;have hi:=(zh.1 q1).1;refine .inr ⟨_,o,q1,q2,?_,n3 j (by omega)⟩;rw [m2 _ (by omega) hi];congr 1;omega
 have hm: ∀(i j:Nat) (o:Ob),m i=some j→H1[i]?=some o→ ∃o',Hn[j]?=some o'∧LikeAt ι' ιn i j o o':=by
  intro i j o hij ho;obtain ⟨o',q1,q2⟩:=r2 i o ho;have hlt:=(zh.1 ho).1;by_cases hi:i<back.length
  ·rw [m1 i hi] at hij;exact ⟨o',by rw [g1 i j hij];exact q2,(ob_re (ι:=ι') (ι':=ιn) q1).2.2 i j (n1 i j hij).1⟩
  ·rw [m2 i (by omega) hlt] at hij;obtain rfl:=ze hij;have e:back.length+(H.length+(i-back.length)-H.length)=i:=by omega
   exact ⟨o',by rw [g3 _ (by omega),e];exact q2,(ob_re (ι:=ι') (ι':=ιn) q1).2.2 i _ (by rw [(n3 _ (by omega)).1,e])⟩
 have hgent: ∀(k:Nat) (o':Ob),Hg[k]?=some o'→ ∃(i:Nat) (o:Ob),back[k]?=some i∧H[i]?=some o∧(ιg k=ι i∧ιg.hid k=ι.hid i)∧o'.isDead=o.isDead∧o'.ro=o.ro:=by
  intro k o' hk;have hlt:k<back.length:=by have:=(zh.1 hk).1;omega
  obtain ⟨q0,o,o1,q1,q2,q3,q4,_⟩:=hb k _ (zt hlt);rw [hk] at q2;obtain rfl:=ze q2;exact ⟨_,o,zt hlt,q1,q0,q3,q4⟩
 have roLive: ∀(o:Ob),o.ro=false→o.isDead=false:=fun o h=>by cases o<;>simp_all [Ob.ro,vt]
 have gLive: ∀b,Live ιg Hg b→ ∃(i:Nat) (o:Ob),i∈back∧H[i]?=some o∧o.isDead=false∧Blk ι i b:=by
  rintro b ⟨k,o',h1,h2,h3⟩;obtain ⟨i,o,q1,q2,q3,q4,q5⟩:=hgent k o' h1;exact ⟨i,o,jt q1,q2,q4 ▸ h2,(AaX q3).1 h3⟩
 have gOwn: ∀b,Own ιg Hg b→Own ι H b:=by
  rintro b ⟨k,o',h1,h2,h3⟩;obtain ⟨i,o,q1,q2,q3,q4,q5⟩:=hgent k o' h1;exact ⟨i,o,q2,q5 ▸ h2,(AaX q3).1 h3⟩
 have ownLive: ∀b,Own ιg Hg b→Live ιg Hg b:=fun b ⟨k,o,h1,h2,h3⟩=>⟨k,o,h1,roLive o h2,h3⟩
 have apart: ∀(j:Nat) (o:Ob) b,H[j]?=some o→j∉back→o.isDead=false→Blk ι j b→ ¬Live ιg Hg b:=by
  intro j o b ho hj hd hbj hl;obtain ⟨i,o',h1,h2,h3,h4⟩:=gLive b hl;exact hj (hg.inj j i o o' b ho h2 hd h3 hbj h4 ▸ h1)
 have blkSame: ∀(j:Nat) (o:Ob) b,H[j]?=some o→j∉back→o.isDead=false→Blk ι j b→w'.heap[b]?=w.heap[b]?:=fun j o b ho hj hd hbj=>
  he.same b (hg.ltB j o b ho hd hbj) (fun h=>apart j o b ho hj hd hbj (ownLive b h))
 have hl: ∀(j:Nat) (o:Ob),H[j]?=some o→ ∃o',Hn[j]?=some o'∧Like ι ιn w w' j o o':=by
  intro j o ho;by_cases hjb:j∈back
  ·obtain ⟨k,hk,e⟩:=xn hjb;have hk':back[k]?=some j:=by rw [zt hk,e]
   obtain ⟨q0,oo,o1,q1,q2,q3,q4,q5⟩:=hb k j hk';rw [ho] at q1;obtain rfl:=ze q1;obtain ⟨o2,e2,hlk⟩:=he.like k o1 (by omega) q2;obtain ⟨o3,e3,e4⟩:=r2 k o2 e2;exact ⟨o3,by rw [g1 k j hk'];exact e4,Amy q5 q0.1 hlk (fun ι1 ι2 i' j'=>(ob_re (ι:=ι1) (ι':=ι2) e3).2.2 i' j') (n1 k j hk').1⟩
  ·have hlt:=(zh.1 ho).1;refine ⟨o,by rw [g2 j hjb hlt];exact ho,?_⟩;exact Like.of (n2 j hjb hlt).1 fun hd b hbj=>blkSame j _ b ho hjb hd (.inl hbj)
 have hfs: ∀b,F b→w'.heap[b]?=w.heap[b]?:=fun b hf=>he.same b (hg.fin b hf) (fun h=>hg.sep b (gOwn b h) hf);have hown: ∀b,b<w.heap.size→Own ιn Hn b→Own ι H b:=by
  rintro b hlt ⟨j,o',h1,h2,h3⟩;rcases entry j o' h1 with ⟨q1,q2,q3⟩|⟨i,o,q1,q2,q3,q4⟩
  ·exact ⟨j,o',q1,h2,(AaX q3).1 h3⟩
  ·exact gOwn b (he.own b hlt ⟨i,o,q1,(ob_re (ι:=ι) (ι':=ι) q2).2.1 ▸ h2,(AaX q4).1 h3⟩)
 have hlive: ∀b,b<w.heap.size→Live ιn Hn b→Live ι H b:=by
  rintro b hlt ⟨j,o',h1,h2,h3⟩;rcases entry j o' h1 with ⟨q1,q2,q3⟩|⟨i,o,q1,q2,q3,q4⟩
  ·exact ⟨j,o',q1,h2,(AaX q3).1 h3⟩
  ·obtain ⟨i',oo,e1,e2,e3,e4⟩:=gLive b (he.live b hlt ⟨i,o,q1,(ob_re (ι:=ι) (ι':=ι) q2).1 ▸ h2,(AaX q4).1 h3⟩);exact ⟨i',oo,e2,e3,e4⟩
 refine ⟨ιn,⟨hx.fin,?_,?_,?_,?_,?_⟩,⟨he.os,he.tape,he.output,he.size,fun b hlt hno=>he.same b hlt (fun h=>hno (gOwn b h)),hown,he.fsub,fun b hlt hf=>(he.ffr b hlt hf).imp id (gOwn b),hl,hlive⟩,fun v v' u hv hvr=>re_ok hm v v' u hv hvr⟩
 ·intro j o' hj;rcases entry j o' hj with ⟨q1,q2,q3⟩|⟨i,o,q1,q2,q3,q4⟩
  ·exact (hg.obj j o' q1).mono he.fsub hfs hl (fun _=>q3) (fun hd b hbj=>blkSame j o' b q1 q2 hd hbj)
  ·exact (hx.obj i o q1).re hm q2 (fun _=>q4)
 ·intro j1 j2 o1 o2 b h1 h2 d1 d2 b1 b2;have cross: ∀(ja jb:Nat) (oa ob:Ob),Hn[jb]?=some ob→oa.isDead=false→ob.isDead=false→Blk ιn ja b→Blk ιn jb b→(H[ja]?=some oa∧ja∉back∧(ιn ja=ι ja∧ιn.hid ja=ι.hid ja))→(∃(i:Nat) (o:Ob),H1[i]?=some o∧o.re m=some ob∧m i=some jb∧(ιn jb=ι' i∧ιn.hid jb=ι'.hid i))→False:=by
   rintro ja jb oa ob hjb da db ba bb ⟨q1,q2,q3⟩ ⟨i,o,e1,e2,e3,e4⟩;have hlt:=hg.ltB ja oa b q1 da ((AaX q3).1 ba);exact apart ja oa b q1 q2 da ((AaX q3).1 ba) (he.live b hlt ⟨i,o,e1,(ob_re (ι:=ι) (ι':=ι) e2).1 ▸ db,(AaX e4).1 bb⟩)
  rcases entry j1 o1 h1 with a1|c1<;>rcases entry j2 o2 h2 with a2|c2
  ·exact hg.inj j1 j2 o1 o2 b a1.1 a2.1 d1 d2 ((AaX a1.2.2).1 b1) ((AaX a2.2.2).1 b2)
  ·exact (cross j1 j2 o1 o2 h2 d1 d2 b1 b2 a1 c2).elim
  ·exact (cross j2 j1 o2 o1 h1 d2 d1 b2 b1 a2 c1).elim
  ·obtain ⟨i1,p1,e1,e2,e3,e4⟩:=c1;obtain ⟨i2,p2,f1,f2,f3,f4⟩:=c2;have:=hx.inj i1 i2 p1 p2 b e1 f1 ((ob_re (ι:=ι) (ι':=ι) e2).1 ▸ d1) ((ob_re (ι:=ι) (ι':=ι) f2).1 ▸ d2) ((AaX e4).1 b1) ((AaX f4).1 b2);subst this;rw [e3] at f3;exact ze f3
 ·rintro b ⟨j,o',h1,h2,h3⟩ hf;rcases entry j o' h1 with ⟨q1,q2,q3⟩|⟨i,o,q1,q2,q3,q4⟩
  ·have hd:=roLive o' h2;have hlt:=hg.ltB j o' b q1 hd ((AaX q3).1 h3);rcases he.ffr b hlt hf with hf|ho
   ·exact hg.sep b ⟨j,o',q1,h2,(AaX q3).1 h3⟩ hf
   ·exact apart j o' b q1 q2 hd ((AaX q3).1 h3) (ownLive b ho)
  ·exact hx.sep b ⟨i,o,q1,(ob_re (ι:=ι) (ι':=ι) q2).2.1 ▸ h2,(AaX q4).1 h3⟩ hf
 ·intro j o' b hj hd hr hbj;rcases entry j o' hj with ⟨q1,q2,q3⟩|⟨i,o,q1,q2,q3,q4⟩
  ·exact he.fsub b (hg.rof j o' b q1 hd hr ((AaX q3).1 hbj))
  ·exact hx.rof i o b q1 ((ob_re (ι:=ι) (ι':=ι) q2).1 ▸ hd) ((ob_re (ι:=ι) (ι':=ι) q2).2.1 ▸ hr) ((AaX q4).1 hbj)
 ·intro j o' hj hd;rcases entry j o' hj with ⟨q1,q2,q3⟩|⟨i,o,q1,q2,q3,q4⟩
  ·rw [q3.1,q3.2];exact hg.nd j o' q1 hd
  ·rw [q4.1,q4.2];exact hx.nd i o q1 ((ob_re (ι:=ι) (ι':=ι) q2).1 ▸ hd)
end
end Go.Eva
namespace Go.Eva
open Go.RowKit
theorem AaE: ∀(l:List T),deeps l=l.map jz
 | []=>rfl
 |x::r=>by rw [deeps,AaE r];rfl
theorem Adt (x:T):x.deep.cells=x.cells.map jz:=by
 cases x<;>simp [jz,T.cells,AaE]
theorem AfU {x:T} (h:x≠ .any):x.deep≠ .any:=by
 cases x<;>simp_all [jz]
theorem Akg {w:World} {b o:Nat} {cs:Array Value} {e:TypeId} {c:Value} (hb:w.heap[b]?=some (.cells cs e (0,0))) (hc:cs[o]?=some c):w.cell? ⟨b,o,none⟩=some c:=by
 simp [World.cell?,hb,hc]
theorem TR.deep {F:Nat→Prop} {w:World} {x:T} {v:Value} (h:TR F w x v):TR F w x.deep v:=by
 induction h with
 |agg vs cs hl h1 hc ih=>
  rw [show (T.agg vs).deep= .agg (deeps vs) from rfl,AaE];refine .agg _ cs (by simpa using hl) h1 fun i x c hx hcc=> ?_;rw [qb] at hx;obtain ⟨y,hy,rfl⟩:=qa.1 hx;exact ih i y c hy hcc
 |any v=>exact .any v
 |int k n=>exact .int k n
 |bool b=>exact .bool b
 |str s=>exact .str s
 |slN sz a cap=>exact .slN sz a cap
 |slC sz xs b o cap c hn hcap hF hc hl hr ih=>exact .slC sz xs b o cap c hn hcap hF hc hl hr
 |ip sz x off b o c hF hx hc hl hr ih=>exact .ip sz x off b o c hF hx hc hl hr
 |clo f cs vs hl hc ih=>exact .clo f cs vs hl hc
 |nilp=>exact .nilp
 |nilf=>exact .nilf
 |nilm=>exact .nilm
 |nul a=>exact .nul a
 |pin v h=>exact .pin v h
 |mp ks vs b es clock hF hb hk hv he h1 h2 h3 ih1 ih2=>exact .mp ks vs b es clock hF hb hk hv he h1 h2 h3
theorem CR.deep {F F1:Nat→Prop} {w:World} {x:T} {v:Value} {fp:List Nat} (h:CR F w x v fp) (hF: ∀b,F b→F1 b):(∀b∈fp,F1 b)→TR F1 w x.deep v:=by
 induction h with
 |tr x v h=>
  intro _;exact (h.mono (w':=w) hF (fun _ _=>rfl)).deep
 |box sz x b cs e fp hx hl hb hs h1 hc ih=>
  intro hp;refine .ip sz x.deep 0 b 0 (fun j=>cs.getD j undef) (hp b (by simp)) (AfU hx) (fun j hj=> ?_) (by rw [Adt];simpa using hl) (fun j t ht=> ?_)
  ·have hj':cs[j]?=some cs[j]:=qp (by omega);have:cs.getD j undef=cs[j]:=by simp [ux,show j<cs.size by omega]
   rw [this,jk];exact ⟨Akg hb hj',h1 j _ hj'⟩
  ·rw [Adt,qb] at ht;obtain ⟨y,hy,rfl⟩:=qa.1 ht;have hjl:=(zh.1 hy).1;have hj':cs[j]?=some cs[j]:=qp (by omega);have:cs.getD j undef=cs[j]:=by simp [ux,show j<cs.size by omega]
   rw [this];exact ih j y _ hy hj' fun b' hb'=>hp b' (qu _ (jv.2 ⟨j,by simp;omega,hb'⟩))
 |row0 sz a h0=>intro _;exact .slN sz a 0
 |row sz xs b cs e a cap h0 hcap ha hk hb h1 hc=>
  intro hp;by_cases hx:xs= []
  ·subst hx;exact .slN sz a cap
  ·have hl:0<xs.length:=vp.2 hx;have ha:a=some ⟨b,0,none⟩:=by rcases ha with h|h;omega;exact h
   subst ha;obtain ⟨c,k1,k2,k3⟩:=hc;refine .slC sz xs b 0 cap c hx hcap (hp b (by simp)) (fun i j hi hj=>by rw [jk];exact k1 i j hi hj) k2 (fun i j x t hx hn ht=>(k3 i j x t hx hn ht).mono hF (fun _ _=>rfl))
 |vrow0 sz a h0=>intro _;exact .slN sz a 0
 |vrow sz xs b cs e a cap fp h0 hcap ha hk hb h1 hl hc ih=>
  intro hp;rw [show (T.vrow sz xs).deep= .sl sz (deeps xs) from rfl,AaE];by_cases hx:xs= []
  ·subst hx;exact .slN sz a cap
  ·have hl0:0<xs.length:=vp.2 hx;have ha:a=some ⟨b,0,none⟩:=by rcases ha with h|h;omega;exact h
   subst ha;have hin: ∀i j,i<xs.length→j<sz→i*sz+j<cs.size:=by
    intro i j hi hj;have hle:(i+1)*sz≤cap*sz:=qj sz (by omega);rw [jc,xu] at hle;omega
   have:=TR.slC (F:=F1) (w:=w) sz (xs.map jz) b 0 cap (fun i j=>cs.getD (i*sz+j) undef) (by simpa using hx) (by simpa using hcap) (hp b (by simp)) (fun i j hi hj=>by
    have hlt:=hin i j (by simpa using hi) hj;have hj':cs[i*sz+j]?=some cs[i*sz+j]:=qp hlt;have:cs.getD (i*sz+j) undef=cs[i*sz+j]:=by simp [ux,hlt]
    rw [this,jk];exact ⟨Akg hb hj',h1 _ _ hj'⟩) (fun i x hx hn=>by
    rw [qb] at hx;obtain ⟨y,hy,rfl⟩:=qa.1 hx;rw [Adt];simpa using (hl i y hy).2) (fun i j x t hx hn ht=>by
    rw [qb] at hx;obtain ⟨y,hy,rfl⟩:=qa.1 hx;rw [Adt,qb] at ht;obtain ⟨z,hz,rfl⟩:=qa.1 ht;have hi:=(zh.1 hy).1;have hj:j<sz:=by have:=(zh.1 hz).1;rw [(hl i y hy).2] at this;exact this
    have hlt:=hin i j hi hj;have hj':cs[i*sz+j]?=some cs[i*sz+j]:=qp hlt;have e1:cs.getD (i*sz+j) undef=cs[i*sz+j]:=by simp [ux,hlt]
    show TR F1 w _ (cs.getD (i*sz+j) undef);rw [e1];exact ih i j y z _ hy hz hj' fun b' hb'=>hp b' (qu _ (jv.2 ⟨i,by simpa using hi,jv.2 ⟨j,by simpa using hj,hb'⟩⟩)))
   simpa using this
 |dict ks xs b es clock fp hb hk hv he h1 h3 h2 ih=>
  intro hp;rw [show (T.dict ks xs).deep= .mp ks (deeps xs) from rfl,AaE];refine .mp ks (xs.map jz) b es clock (hp b (by simp)) hb hk (by simpa using hv) he (fun i x e hx he=>(h1 i x e hx he).mono hF (fun _ _=>rfl)) (fun i x e hx he=> ?_) (fun i x hx=> ?_)
  ·rw [qb] at hx;obtain ⟨y,hy,rfl⟩:=qa.1 hx;refine ih i y e hy he fun b' hb'=>hp b' (qu _ (jv.2 ⟨i,?_,hb'⟩));have:=(zh.1 hy).1;simp;omega
  ·rw [qb] at hx;obtain ⟨y,hy,rfl⟩:=qa.1 hx;exact AfU (h3 i y hy)
def Lent (ι:Io) (F:Nat→Prop) (H:Heap) (b:Nat):Prop:=F b∨Live ι H b
theorem Aqz {v:V} (hn:v≠ .t .any):(∃vs,v= .t (.agg vs)∧v.cells=vs.map .t)∨(∃vs,v= .agg vs∧v.cells=vs)∨(v.cells= [v]∧(∀vs,v≠ .t (.agg vs))∧ ∀vs,v≠ .agg vs):=by
 cases v with
 |t x=>cases x<;>simp [V.cells]
 |_=>simp [V.cells]
section
variable {ι:Io} {F:Nat→Prop} {w:World} {H:Heap}
def LzOk (ι:Io) (F:Nat→Prop) (w:World) (H:Heap) (v:V) (x:T):Prop:=(v≠ .t .any→x≠ .any)∧ ∀c fp,HC ι F w H v c fp→(∀b∈fp,Lent ι F H b)→TR (Lent ι F H) w x c
theorem lz_ok (hg:Good ι F w H): ∀n,(∀v x,lz H n v=some x→LzOk ι F w H v x)∧(∀vs xs,lzs H n vs=some xs→xs.length=vs.length∧ ∀(i:Nat) v x,vs[i]?=some v→xs[i]?=some x→LzOk ι F w H v x)∧
  (∀(ps:List (Nat×V)) (ts:List T) (ys:List T),lzP H n ps (deeps ts)=some ys→ys.length=ts.length∧ ∀(i:Nat) x,ys[i]?=some x→ ∃v,memP ps ts i=some v∧LzOk ι F w H v x):=by
 have up: ∀b,F b→Lent ι F H b:=fun b h=> .inl h;intro n;induction n with
 |zero=>exact ⟨fun v x h=>by simp [lz] at h,fun vs xs h=>by simp [lzs] at h,fun ps ts ys h=>by simp [lzP] at h⟩
 |succ n ih=>
  obtain ⟨ih1,ih2,ih3⟩:=ih;refine ⟨fun v x h=> ?_,fun vs xs h=> ?_,fun ps ts ys h=> ?_⟩
  ·
   have keep: ∀ {v:V} {x:T},v.shut=false→x≠ .any→(∀u,VR ι F w H v u→TR (Lent ι F H) w x u)→LzOk ι F w H v x:=by
    intro v x hs hx hk;refine ⟨fun _=>hx,fun c fp hc _=>hk c (hc.open hs).1⟩
   cases v with
   |t y=>
    simp only [lz,j0] at h;subst h;refine ⟨fun hne=>AfU fun e=>hne (by rw [e]),fun c fp hc hb=> ?_⟩;cases hc with
    |v _ _ hh=>exact (hh.t_inv.mono up (fun _ _=>rfl)).deep
    |t _ _ _ hh=>exact hh.deep up hb
   |fit s xs=>
    simp only [lz,j0] at h;subst h;refine keep rfl (by simp) fun u hu=> ?_;cases hu with
    |fit _ _ a hh=>exact hh.mono up (fun _ _=>rfl)
   |all id lim=>
    simp only [lz] at h;rw [Aae] at h;split at h
    ·rename_i s xs sp ro hob;simp only [j0] at h;subst h;refine keep rfl (by simp) fun u hu=> ?_;cases hu with
     |all _ _ _ ho=>
     unfold OwnSl at ho;rw [hob] at ho;obtain ⟨a,cap,rfl,h1,h2,h3⟩:=ho;simp only [wc] at h1 h2 h3⊢;obtain ⟨h0,_,hcase⟩:=hg.obj id _ hob;by_cases hx:xs= []
     ·subst hx;exact .slN _ _ _
     ·have hl:0<xs.length:=vp.2 hx;rcases hcase with ⟨k1,k2,_⟩|⟨b,cs,e,k1,k2,k3,k4,k5,k6,c,g1,g2,g3⟩
      ·exact absurd k2 hx
      ·rw [k1] at h3;have ha:a=some ⟨b,0,none⟩:=by
        rcases h3.1 with h|h
        ·omega
        ·simpa using h
       subst ha;refine .slC s xs b 0 cap c hx h1 (.inr ⟨id,_,hob,rfl,.inl k1⟩) (fun i j hi hj=>by rw [jk];exact g1 i j hi hj) g2 (fun i j x t hx hn ht=>(g3 i j x t hx hn ht).mono up (fun _ _=>rfl))
    ·contradiction
   |ptr id i j=>
    simp only [lz] at h;rw [Aae] at h;split at h
    ·rename_i s v ro hob;split at h
     ·rename_i l hl;obtain ⟨l1,l2⟩:=ih2 _ _ hl;obtain ⟨h1,h2,h3,b,cs,e,fp,q1,q2,q3,q4,q5,q6⟩:=hg.obj id _ hob;have hlive:Lent ι F H b:= .inr ⟨id,_,hob,rfl,.inl q1⟩;have hlen:l.length=s:=by rw [l1];exact h2
      have hin: ∀k,k<s→ ∀b'∈fp k,Lent ι F H b':=fun k hk b' hb'=> .inr ⟨id,_,hob,rfl,.inr (by rw [q6];exact jv.2 ⟨k,by simpa using hk,hb'⟩)⟩;have cell: ∀(k:Nat) (t:T),l[k]?=some t→TR (Lent ι F H) w t (cs.getD k undef):=by
       intro k t ht;have hk:k<s:=by have:=(zh.1 ht).1;omega
       have hck:cs[k]?=some cs[k]:=qp (by omega);have e1:cs.getD k undef=cs[k]:=by simp [ux,show k<cs.size by omega]
       have hvk:v.cells[k]?=some v.cells[k]:=zt (by have:v.cells.length=s:=h2;omega);rw [e1];exact (l2 k _ t hvk ht).2 _ _ (q5 k _ _ hvk hck) (hin k hk)
      have cellc: ∀k,k<s→w.cell? ⟨b,0+k,none⟩=some (cs.getD k undef)∧(cs.getD k undef).oneCell'=true:=by
       intro k hk;have hck:cs[k]?=some cs[k]:=qp (by omega);have e1:cs.getD k undef=cs[k]:=by simp [ux,show k<cs.size by omega]
       rw [e1,jk];exact ⟨Akg q2 hck,q4 k _ hck⟩
      have fin: ∀y:T,y≠ .any→y.cells=l→some (T.ip s y j)=some x→LzOk ι F w H (.ptr id 0 j) x:=by
       intro y hy hyc he;simp only [j0] at he;subst he;refine keep rfl (by simp) fun u hu=> ?_;cases hu with
       |ptr _ _ _ _ ho=>
       unfold OwnPtr at ho;rw [hob] at ho;obtain ⟨b',hb',rfl⟩:=ho;rw [q1] at hb';obtain rfl:=ze hb';have:=TR.ip (F:=Lent ι F H) (w:=w) s y j b 0 (fun k=>cs.getD k undef) hlive hy cellc (by rw [hyc];exact hlen) (fun k t ht=>by rw [hyc] at ht;exact cell k t ht);simpa using this
      split at h
      ·exact fin _ (by simp) rfl h
      ·exact fin _ (by simp) rfl h
      ·rename_i hn1 hn2;split at h
       ·rename_i y;rcases Aqz h1 with ⟨vs,rfl,_⟩|⟨vs,rfl,_⟩|⟨hc,_,_⟩
        ·exact absurd rfl (hn1 vs)
        ·exact absurd rfl (hn2 vs)
        ·have hy:=(l2 0 v y (by rw [hc];rfl) rfl).1 h1;by_cases hag: ∃zs,y= .agg zs
         ·obtain ⟨zs,rfl⟩:=hag;have hs1:s=1:=by rw [←hlen];rfl
          have hck:=cell 0 _ rfl;have h1c:=(cellc 0 (by omega)).2;cases hk:cs.getD 0 undef with
          |agg zz=>rw [hk] at h1c;simp [Value.oneCell'] at h1c
          |_=>rw [hk] at hck;cases hck
         ·refine fin y hy ?_ h;cases y<;>first|rfl|exact absurd ⟨_,rfl⟩ hag
       ·contradiction
     ·contradiction
    ·contradiction
   |map id=>
    simp only [lz] at h;rw [Aae] at h;split at h
    ·rename_i ks xs ps hob;split at h
     ·rename_i ys hys;simp only [j0] at h;subst h;obtain ⟨y1,y2⟩:=ih3 _ _ _ hys;refine keep rfl (by simp) fun u hu=> ?_;cases hu with
      |map _ _ ho=>
      unfold OwnMap at ho;rw [hob] at ho;obtain ⟨b,hb,rfl⟩:=ho;obtain ⟨h0,hto,b',es,clock,fp,q1,q2,q3,q4,q5,q7,q6,q8⟩:=hg.obj id _ hob;rw [hb] at q1;obtain rfl:=ze q1;refine .mp ks ys b es clock (.inr ⟨id,_,hob,rfl,.inl hb⟩) q2 q3 (by rw [y1,h0]) q4 (fun i x e hx he=>(q5 i x e hx he).mono up (fun _ _=>rfl)) (fun i x e hx he=> ?_) (fun i x hx=> ?_)
      ·obtain ⟨v,hv,hk⟩:=y2 i x hx;refine hk.2 _ _ (q6 i v e hv he) fun b' hb'=> .inr ⟨id,_,hob,rfl,.inr ?_⟩;rw [q8];refine jv.2 ⟨i,?_,hb'⟩;have:=(zh.1 hx).1;simp;omega
      ·obtain ⟨v,hv,hk⟩:=y2 i x hx;exact hk.1 (q7 i v hv)
     ·contradiction
    ·contradiction
   |_=>simp [lz] at h
  ·cases vs with
   |nil=>simp only [lzs,j0] at h;subst h;exact ⟨rfl,by simp⟩
   |cons v r=>
    simp only [lzs] at h;split at h
    ·rename_i x l hx hl;simp only [j0] at h;subst h;obtain ⟨k1,k2⟩:=ih2 _ _ hl;refine ⟨by simp [k1],fun i v' x' hv' hx'=> ?_⟩;cases i with
     |zero=>simp at hv' hx';subst hv' hx';exact ih1 _ _ hx
     |succ i=>simp at hv' hx';exact k2 i v' x' hv' hx'
    ·contradiction
  ·cases ps with
   |nil=>
    simp only [lzP,j0] at h;subst h;refine ⟨by rw [AaE];simp,fun i x hx=> ?_⟩;rw [AaE,qb] at hx;obtain ⟨y,hy,rfl⟩:=qa.1 hx;refine ⟨.t y,by simp [memP,findP,hy],fun hne=>AfU fun e=>hne (by rw [e]),fun c fp hc hb=> ?_⟩;cases hc with
    |v _ _ hh=>exact (hh.t_inv.mono up (fun _ _=>rfl)).deep
    |t _ _ _ hh=>exact hh.deep up hb
   |cons p r=>
    obtain ⟨k,v⟩:=p;simp only [lzP] at h;split at h
    ·rename_i x0 zs hx0 hzs;simp only [j0] at h;subst h;obtain ⟨k1,k2⟩:=ih3 _ _ _ hzs;refine ⟨by simp [k1],fun i x hx=> ?_⟩;by_cases hik:i=k
     ·subst hik;rw [ue] at hx;simp only [if_true] at hx;split at hx
      ·simp only [j0] at hx;subst hx;exact ⟨v,by simp [memP,findP],ih1 _ _ hx0⟩
      ·contradiction
     ·rw [qy (by omega)] at hx;obtain ⟨v',hv',hk⟩:=k2 i x hx;exact ⟨v',by simp only [memP,findP];rw [if_neg hik];exact hv',hk⟩
    ·contradiction
variable {S:Task→(Res→Prop)→Prop}
theorem Alq (hg:Good ι F w H) {α:Type} {v:V} {u:Value} {k:T→Eva.Q α} {R:α→Prop} (hv:VR ι F w H v u) (h:wpQ S (lendT v H k) R): ∃x,TR (Lent ι F H) w x u∧wpQ S (k x) R:=by
 have up: ∀b,F b→Lent ι F H b:=fun b h=> .inl h;unfold lendT at h;split at h
 ·exact ⟨_,hv.t_inv.mono up (fun _ _=>rfl),h⟩
 ·cases hv with
  |fit s xs a hh=>exact ⟨_,hh.mono up (fun _ _=>rfl),h⟩
 ·split at h
  ·rename_i x hx;exact ⟨x,((lz_ok hg depth).1 _ _ hx).2 u [] (.v _ _ hv) (by simp),h⟩
  ·exact h.elim
theorem Aqi {F:Nat→Prop} {w:World} {x:T} {u:Value} (h:TR F w x u) (h1:oneT x=true):u.oneCell'=true:=by
 cases h<;>first|rfl|simp [oneT] at h1
theorem Ajs (hg:Good ι F w H) {α:Type}: ∀ {vs:List V} {us:List Value} {k:List V→List Value→Eva.Q α} {R:α→Prop},VRs ι F w H vs us→wpQ S (lendIn H vs k) R→
  ∃az,(∀ι' H',VRs ι' (Lent ι F H) w H' az us)∧wpQ S (k az us) R
 | [],us,k,R,hv,h=>by
  have:us= []:=qi (by simpa using hv.1.symm);subst this;exact ⟨[],fun _ _=>⟨rfl,by simp⟩,h⟩
 |v::r,us,k,R,hv,h=>by
  match us,hv with
  |u::us,hv=>
   unfold lendIn at h;obtain ⟨x,hx,h⟩:=Alq hg (hv.2 0 v u rfl rfl) h;split at h
   case h_2=>exact h.elim
   rename_i h1x;obtain ⟨az,h1,h2⟩:=Ajs hg (vs:=r) (us:=us) ⟨by simpa using hv.1,fun i v u h1 h2=>hv.2 (i+1) v u (by simpa using h1) (by simpa using h2)⟩ (h u);refine ⟨.also u x::az,fun ι' H'=>⟨by simpa using (h1 ι' H').1,fun i v' u' hv' hu'=> ?_⟩,h2⟩;cases i with
   |zero=>simp at hv' hu';subst hv' hu';exact .also _ _ (Aqi hx h1x) hx
   |succ i=>simp at hv' hu';exact (h1 ι' H').2 i v' u' hv' hu'
theorem AgD (hg:Good ι F w H) {α:Type}: ∀ {vs:List V} {us:List Value} {k:List T→Eva.Q α} {R:α→Prop},VRs ι F w H vs us→wpQ S (lendArgs H vs k) R→
  ∃xs:List T,xs.length=us.length∧(∀(i:Nat) x u,xs[i]?=some x→us[i]?=some u→TR (Lent ι F H) w x u)∧wpQ S (k xs) R
 | [],us,k,R,hv,h=>by
  have:us= []:=qi (by simpa using hv.1.symm);subst this;exact ⟨[],rfl,by simp,h⟩
 |v::r,us,k,R,hv,h=>by
  match us,hv with
  |u::us,hv=>
   unfold lendArgs at h;obtain ⟨x,hx,h⟩:=Alq hg (hv.2 0 v u rfl rfl) h;obtain ⟨xs,h0,h1,h2⟩:=AgD hg (vs:=r) (us:=us) ⟨by simpa using hv.1,fun i v u h1 h2=>hv.2 (i+1) v u (by simpa using h1) (by simpa using h2)⟩ h;refine ⟨x::xs,by simp [h0],fun i x' u' hx' hu'=> ?_,h2⟩;cases i with
   |zero=>simp at hx' hu';subst hx' hu';exact hx
   |succ i=>simp at hx' hu';exact h1 i x' u' hx' hu'
theorem AhC {α:Type}: ∀ {us vals:List Value} {vs:List V} {k:Eva.Q α} {R:α→Prop},VRs ι F w H vs vals→wpQ S (lendOut us vs k) R→vals=us∧wpQ S k R
 | [],vals,[],k,R,hv,h=>⟨qi (by simpa using hv.1.symm),h⟩
 |u::us,vals,v::vs,k,R,hv,h=>by
  match vals,hv with
  |val::vals,hv=>
   unfold lendOut at h;split at h
   ·rename_i u' x;obtain ⟨he,h⟩:=h;obtain ⟨h1,h2⟩:=AhC (us:=us) (vals:=vals) (vs:=vs) ⟨by simpa using hv.1,fun i v u h1 h2=>hv.2 (i+1) v u (by simpa using h1) (by simpa using h2)⟩ h;have:=hv.2 0 _ val rfl rfl;cases this;exact ⟨by rw [h1,he],h2⟩
   ·exact h.elim
 | [],_,_::_,k,R,_,h=>h.elim
 |_::_,_,[],k,R,_,h=>h.elim
theorem Afe: ∀ {ts:List T},flats ts=true→ ∀t∈ts,t.flat=true
 | [],_,t,ht=>by simp at ht
 |x::r,h,t,ht=>by
  simp only [flats,zf] at h;rcases qf.1 ht with rfl|ht
  ·exact h.1
  ·exact Afe h.2 t ht
theorem TR.flat2 {F F':Nat→Prop} {w w':World} {x:T} {v:Value} (h:TR F w x v) (hf:x.flat2=true):TR F' w' x v:=by
 cases h with
 |agg vs cs hl h1 hc=>
  refine .agg vs cs hl h1 fun i x c hx hcc=>(hc i x c hx hcc).flat (Afe hf x (jt hx))
 |int k n=>exact .int _ _
 |bool b=>exact .bool _
 |str s=>exact .str _
 |_=>simp [T.flat2,T.flat] at hf
theorem Ah4: ∀ {ts:List T},flat2s ts=true→ ∀t∈ts,t.flat2=true
 | [],_,t,ht=>by simp at ht
 |x::r,h,t,ht=>by
  simp only [flat2s,zf] at h;rcases qf.1 ht with rfl|ht
  ·exact h.1
  ·exact Ah4 h.2 t ht
theorem Ah5 {α:Type} {f:α→T} {l:List α} (h: ∀a,(f a).flat2=true):flat2s (l.map f)=true:=by
 induction l with
 |nil=>rfl
 |cons a l ih=>simp [flat2s,h a,ih]
theorem Akt {x t:T} {j:Nat} (h:x.flat2=true) (ht:x.cells[j]?=some t):t.flat=true:=by
 cases x with
 |agg vs=>exact Afe h t (jt ht)
 |int k n=>cases j<;>simp [T.cells] at ht;subst ht;rfl
 |bool b=>cases j<;>simp [T.cells] at ht;subst ht;rfl
 |str s=>cases j<;>simp [T.cells] at ht;subst ht;rfl
 |_=>simp [T.flat2,T.flat] at h
theorem Alf {α:Type}: ∀ {H:Heap} {k:Eva.Q α} {R:α→Prop},wpQ S (flatH H k) R→(∀(i:Nat) (o:Ob),H[i]?=some o→ ∃s xs sp,o=jy s xs sp false∧flat2s xs=true)∧wpQ S k R
 | [],k,R,h=>⟨by simp,h⟩
 |o::r,k,R,h=>by
  cases o with
  |arr s xs sp ro=>
   cases ro with
   |false=>
    obtain ⟨h0,h⟩:=h;obtain ⟨h1,h2⟩:=Alf (H:=r) h;refine ⟨fun i o ho=> ?_,h2⟩;cases i with
    |zero=>simp at ho;subst ho;exact ⟨_,_,_,rfl,h0⟩
    |succ i=>exact h1 i o (by simpa using ho)
   |true=>exact h.elim
  |_=>exact h.elim
theorem Anw {ι2:Io} {F1 F2:Nat→Prop} {w':World} {H2:Heap} (hf1: ∀b,F b→F1 b) (hf: ∀b,F b→b<w.heap.size) (hx:Ext 0 ι F1 [] w ι2 F2 H2 w') (hg:Good ι2 F2 w' H2)
  (hfl: ∀(i:Nat) (o:Ob),H2[i]?=some o→ ∃s xs sp,o=jy s xs sp false∧flat2s xs=true):Good ι2 F w' H2∧Ext 0 ι F [] w ι2 F H2 w':=by
 have hsub: ∀b,F b→F2 b:=fun b hb=>hx.fsub b (hf1 b hb);refine ⟨⟨fun b hb=>Nat.lt_of_lt_of_le (hf b hb) hx.size,fun id o ho=> ?_,hg.inj,fun b hb hF=>hg.sep b hb (hsub b hF),fun id o b ho hd hr _=> ?_,hg.nd⟩,?_⟩
 ·obtain ⟨s,xs,sp,rfl,hxs⟩:=hfl id o ho;obtain ⟨h0,h1,h2⟩:=hg.obj id _ ho;refine ⟨h0,h1,h2.imp (fun h=>h) ?_⟩;rintro ⟨b,cs,e,k1,k2,k3,k4,k5,k6,c,k7,k8,k9⟩;refine ⟨b,cs,e,k1,k2,k3,k4,k5,k6,c,k7,k8,fun i j x t hxx hn ht=> ?_⟩;exact (k9 i j x t hxx hn ht).flat (Akt (Ah4 hxs x (jt hxx)) ht)
 ·obtain ⟨s,xs,sp,rfl,_⟩:=hfl id o ho;simp [Ob.ro] at hr
 ·exact ⟨hx.os,hx.tape,hx.output,hx.size,hx.same,hx.own,fun b hb=>hb,fun b _ hb=> .inl hb,fun id o h=>absurd h (by simp),hx.live⟩
theorem AhJ: ∀ {vs:List V},ownish vs=true→ ∀(i:Nat) v,vs[i]?=some v→(∃x,v= .t x∧x.flat2=true)∨(∃id,v= .all id none)∨ ∃s,v= .fit s []
 | [],_,i,v,hv=>by simp at hv
 |v::r,h,i,u,hu=>by
  have hr:ownish r=true∧((∃x,v= .t x∧x.flat2=true)∨(∃id,v= .all id none)∨ ∃s,v= .fit s []):=by
   cases v with
   |t x=>simp [ownish] at h;exact ⟨h.2,.inl ⟨x,rfl,h.1⟩⟩
   |all id l=>cases l<;>simp [ownish] at h;exact ⟨h,.inr (.inl ⟨id,rfl⟩)⟩
   |fit s xs=>cases xs<;>simp [ownish] at h;exact ⟨h,.inr (.inr ⟨s,rfl⟩)⟩
   |_=>simp [ownish] at h
  cases i with
  |zero=>simp at hu;subst hu;exact hr.2
  |succ i=>exact AhJ hr.1 i u (by simpa using hu)
theorem AhD {α:Type} (hg:Good ι F w H) {ι1:Io} {F1 F2:Nat→Prop} {w':World} {H1:Heap} (hf1: ∀b,F b→F1 b) (hx:Ext 0 ι F1 [] w ι1 F2 H1 w') (hg1:Good ι1 F2 w' H1) {vs:List V} {k:List V→Heap→Eva.Q α} {R:α→Prop}
  (h:wpQ S (lendRes H.length vs H1 k) R): ∃ws H2 ιn,wpQ S (k ws H2) R∧Good ιn F w' (H++H2)∧Step ι F H w ιn F (H++H2) w'∧ws.length=vs.length∧
   ∀(i:Nat) v v',vs[i]?=some v→ws[i]?=some v'→ ∀u,VR ι1 F2 w' H1 v u→VR ιn F w' (H++H2) v' u:=by
 unfold lendRes at h;obtain ⟨hfl,h⟩:=Alf h;split at h
 ·rename_i hown;replace h:=AaQ (Aaa _ _ _ h);split at h
  ·rename_i ws H2 hw2 hH2;obtain ⟨hg3,hx3⟩:=Anw (F:=F) hf1 hg.fin hx hg1 hfl;have hm:nth (upto H.length H1.length)=nth ([]++upto H.length (H1.length-([]:List Nat).length)):=by simp
   rw [hm] at hw2 hH2;obtain ⟨ιn,k1,k2,k3⟩:=Akw (back:= []) (Hg:= []) (Ha:=H) hg cw rfl (by simp) hg3 hx3 hH2 (by simp [setAll]);simp only [xk,qr] at k1 k2 k3;obtain ⟨v1,v2⟩:=AgY hw2;refine ⟨ws,H2,ιn,h,k1,k2,v1,fun i v v' hv hv' u hu=> ?_⟩;obtain ⟨v0,q1,q2⟩:=v2 i v' hv';rw [hv] at q1;obtain rfl:=ze q1;refine k3 v v' u q2 ?_;rcases AhJ hown i v hv with ⟨x,rfl,hxf⟩|⟨id,rfl⟩|⟨s,rfl⟩
   ·exact .t _ _ (hu.t_inv.flat2 hxf)
   ·cases hu with
    |all _ _ _ hh=>exact .all _ _ _ hh
   ·cases hu with
    |fit _ _ a hh=>exact .fit _ _ _ (.slN _ _ _)
  ·exact h.elim
 ·exact h.elim
theorem AnE (hg:Good ι F w H): ∀b,Lent ι F H b→b<w.heap.size:=by
 rintro b (hb|⟨id,o,ho,hd,hb⟩)
 ·exact hg.fin b hb
 ·exact hg.ltB id o b ho hd hb
end
end Go.Eva
namespace Go.Eva
open Go.RowKit
theorem Aoi (n:Nat) (l:List Nat): ∀H:Heap,(roAll n l H).length=H.length:=by
 intro H;induction H generalizing n with
 |nil=>rfl
 |cons o r ih=>
  simp only [roAll];split<;>simp [ih]
theorem Aoj (H:Heap):roAll 0 [] H=H:=by
 apply List.ext_getElem?;intro i;rw [Acj];cases H[i]?<;>simp
section
variable {P:Program} {cx:Cx} {S:Task→(Res→Prop)→Prop} {w:World} {ι:Io} {F:Nat→Prop} {H:Heap} {R:V×Heap→Prop}
theorem Aog {ι':Io} {F':Nat→Prop} {w':World} {H':Heap} {m:Nat→Option Nat} {vs vs':List V} {u:Value} (hm: ∀v v' u,v.re m=some v'→VR ι F w H v u→VR ι' F' w' H' v' u) (h:vre m vs=some vs') (hr:ResR ι F w H vs u):ResR ι' F' w' H' vs' u:=by
 obtain ⟨h1,h2⟩:=AgY h;refine Ady h1 hr ?_;intro i v v' u hv hv' hvr;obtain ⟨v0,e1,e2⟩:=h2 i v' hv';rw [hv] at e1;obtain rfl:=ze e1;exact hm _ _ _ e2 hvr
theorem Anx: ∀ {vs:List V} {us:List Value} {F:Nat→Prop} {H:Heap} {R:List V×Heap→Prop},Good ι F w H→wpQ S (fzClos vs H) R→VRs ι F w H vs us→
  ∃vs' H' F',R (vs',H')∧Good ι F' w H'∧Step ι F H w ι F' H' w∧VRs ι F' w H' vs' us:=by
 intro vs;induction vs with
 |nil=>intro us F H R hg h hv;exact ⟨_,_,F,h,hg,.refl ι F H w,hv⟩
 |cons v vs ih=>
  intro us F H R hg h hv
  match us,hv with
  | [],hv=>exact absurd hv.1 (by simp)
  |u::us,hv=>
   have h0:=hv.2 0 v u rfl rfl;have ht:VRs ι F w H vs us:=⟨by simpa using hv.1,fun i x y hx hy=>hv.2 (i+1) x y (by simpa using hx) (by simpa using hy)⟩
   have cons: ∀ {F:Nat→Prop} {H:Heap} {v:V} {vs:List V},VR ι F w H v u→VRs ι F w H vs us→VRs ι F w H (v::vs) (u::us):=by
    intro F H v vs h k;refine ⟨by simp [k.1],fun i x y hx hy=> ?_⟩;cases i with
    |zero=>simp at hx hy;subst hx;subst hy;exact h
    |succ i=>exact k.2 i x y (by simpa using hx) (by simpa using hy)
   unfold fzClos at h;split at h
   ·split at h
    ·obtain ⟨x,H1,F1,h1,g1,s1,t1,_⟩:=Aia hg (Aaa _ _ _ h) h0;obtain ⟨vs',H2,F2,h2,g2,s2,r2⟩:=ih g1 (Aaa _ _ _ h1) ⟨ht.1,fun i x y hx hy=>s1.vr hg (ht.2 i x y hx hy)⟩;exact ⟨_,_,F2,h2,g2,s1.trans s2,cons (s2.vr g1 (.t _ _ t1)) r2⟩
    ·obtain ⟨vs',H2,F2,h2,g2,s2,r2⟩:=ih hg (Aaa _ _ _ h) ht;exact ⟨_,_,F2,h2,g2,s2,cons (s2.vr hg h0) r2⟩
   ·obtain ⟨vs',H2,F2,h2,g2,s2,r2⟩:=ih hg (Aaa _ _ _ h) ht;exact ⟨_,_,F2,h2,g2,s2,cons (s2.vr hg h0) r2⟩
theorem AiX (hS: ∀f az H R,S (.call f az H) R→CallS P f az H R) (hg:Good ι F w H) {f:Nat} {args:List V} {us:List Value} {ks:Option (List V)} (h:wpQ S (callIO ks f args H) R) (hv:VRs ι F w H args us):Calls P f us.toArray w (fun en w'=>CPost R ι F H w en w'):=by
 unfold callIO at h;obtain ⟨args1,H0,F1,h1,hg0,hs0,hv0⟩:=Anx hg (Aaa _ _ _ h) hv;clear h;obtain ⟨H1,ι1,h1,hg1,hs1⟩:=AoL hg0 (Aaa _ _ _ h1);have hv1:VRs ι1 F1 w H1 args1 us.toArray.toList:=⟨by simpa using hv0.1,fun i x y hx hy=>hs1.vr hg0 (hv0.2 i x y hx (by simpa using hy))⟩
 have hst:=hs0.trans hs1;clear hv;obtain ⟨g,ιg,h1,g1,g2,g3,g4,g5,g6⟩:=gc_ok hg1 (Aaa _ _ _ h1) hv1;obtain ⟨R',hSR,_,h4⟩:=h1;refine y3 (hS _ _ _ _ hSR w ιg _ _ g4 (by simpa using g5)) ?_;rintro en w' ⟨x,v,ι',F',rfl,hR',he,hgx,hrx,hx⟩;have hk:=h4 x hR';obtain ⟨xe,vs,H1⟩:=x;simp only at he hgx hrx hx hk;subst he;simp only at hk;replace hk:=AaQ (Aaa _ _ _ hk);split at hk
 ·rename_i vs' H1' hvs hH1;split at hk
  ·rename_i Ha hset;obtain ⟨ιn,k1,k2,k3⟩:=Akw hg1 g1 g2 g3 hgx hx hH1 hset;have hres:=Aog k3 hvs hrx;obtain ⟨r,hr1,hr2⟩:=Abi hk hres;exact ⟨v,r,_,ιn,F',rfl,hr1,k1,hst.trans k2,hr2⟩
  ·exact hk.elim
 ·exact hk.elim
theorem AgE (hS: ∀f az H R,S (.call f az H) R→CallS P f az H R) (hg:Good ι F w H) {f:Nat} {args:List V} {us:List Value} (h:wpQ S (lendCall f args H) R) (hv:VRs ι F w H args us):Calls P f us.toArray w (fun en w'=>CPost R ι F H w en w'∧OldSame w w'):=by
 unfold lendCall at h;obtain ⟨xs,hl,hx,h⟩:=AgD hg hv h;obtain ⟨R',hSR,_,h4⟩:=h;have hargs:VRs ι (Lent ι F H) w [] (xs.map .t) us.toArray.toList:=by
  refine ⟨by simp [hl],?_⟩;intro i v u hx' hu;simp only [qb] at hx' hu;obtain ⟨t,ht,rfl⟩:=qa.1 hx';exact .t _ _ (hx i t u ht hu)
 refine y3 (hS _ _ _ _ hSR w ι _ _ (Adu (AnE hg)) hargs) ?_;rintro en w' ⟨x,v,ι',F',rfl,hR',he,hgx,hrx,hxx⟩;have hk:=h4 x hR';obtain ⟨xe,vs,H1⟩:=x;simp only at he hgx hrx hxx hk;subst he;simp only at hk;obtain ⟨ws,H2,ιn,hk,k1,k2,v1,k3⟩:=AhD hg (fun b hb=> .inl hb) hxx hgx hk;have hres:ResR ιn F w' (H++H2) ws v:=Ady v1 hrx fun i v v' u hv hv' hu=>k3 i v v' hv hv' u hu;obtain ⟨r,hr1,hr2⟩:=Abi hk hres;exact ⟨⟨v,r,_,ιn,F,rfl,hr1,k1,k2,hr2⟩,hxx.size,fun b hb=>hxx.same b hb (fun h=>Adg h)⟩
theorem Aig (hS: ∀f az H R,S (.call f az H) R→CallS P f az H R) (hg:Good ι F w H) {f:Nat} {args:List V} {us:List Value} {ks:Option (List V)} (h:wpQ S (callF cx ks f args H) R) (hv:VRs ι F w H args us):Calls P f us.toArray w (fun en w'=>CPost R ι F H w en w'∧((∀fi,cx.fn.get f=some (some fi)→fi.mode≠ .inout∧fi.mode≠ .both)→OldSame w w')):=by
 unfold callF at h;split at h
 ·rename_i fi hfi;split at h
  ·split at h
   ·have:=Aeh (P:=P) (cvs:= []) hS hg h hv rfl (by simp);simp only [ye] at this;exact y3 this fun en w' h=>⟨h.1,fun _=>h.2⟩
   ·exact y3 (AgE hS hg h hv) fun en w' h=>⟨h.1,fun _=>h.2⟩
  ·
   split at h
   case h_2=>exact y3 (AgE hS hg h hv) fun en w' h=>⟨h.1,fun _=>h.2⟩
   replace h:=AaQ (Aaa _ _ _ h);generalize reach H 200 (idss args) []=l at h;obtain ⟨ts,h1,h2,h3⟩:=AeA hg l (Aaa _ _ _ h) hv;clear h;obtain ⟨R',hSR,_,h4⟩:=h1;obtain ⟨hg1,hst1⟩:=AlF hg l;have hfin1: ∀b,(F b∨Fl ι H l b)→b<w.heap.size:=fun b hb=>hb.elim (hg.fin b) (fl_lt hg);have hargs:VRs ι (fun b=>F b∨Fl ι H l b) w [] (ts.map .t) us.toArray.toList:=by
    refine ⟨by simp [h2],?_⟩;intro i v u hx hu;simp only [qb] at hx hu;obtain ⟨t,ht,rfl⟩:=qa.1 hx;exact .t _ _ (h3 i t u ht hu)
   refine y3 (hS _ _ _ _ hSR w ι _ _ (Adu hfin1) hargs) ?_;rintro en w' ⟨x,v,ι',F',rfl,hR',he,hgx,hrx,hx⟩;have hk:=h4 x hR';obtain ⟨xe,vs,H1⟩:=x;simp only at he hgx hrx hx hk;subst he;simp only at hk;replace hk:=AaQ (Aaa _ _ _ hk);split at hk
   ·rename_i vs' H1' hvs hH1;have hm:nth (upto H.length H1.length)=nth ([]++upto (roAll 0 l H).length (H1.length-([]:List Nat).length)):=by simp [Aoi]
    rw [hm] at hvs hH1;obtain ⟨ιn,k1,k2,k3⟩:=Akw (back:= []) (Hg:= []) (Ha:=roAll 0 l H) hg1 cw rfl (by simp) hgx hx hH1 (by simp [setAll]);simp only [xk,qr] at k1 k2 k3;have hres:=Aog k3 hvs hrx;split at hk
    ·rw [Aoj] at k1 k2 hres hst1;obtain ⟨r,hr1,hr2⟩:=Abi hk hres;exact ⟨⟨v,r,_,ιn,F',rfl,hr1,k1,hst1.trans k2,hr2⟩,fun _=>⟨hx.size,fun b hb=>hx.same b hb (fun h=>Adg h)⟩⟩
    ·obtain ⟨r,hr1,hr2⟩:=Abi hk hres;exact ⟨⟨v,r,_,ιn,F',rfl,hr1,k1,hst1.trans k2,hr2⟩,fun _=>⟨hx.size,fun b hb=>hx.same b hb (fun h=>Adg h)⟩⟩
   ·exact hk.elim
  ·
   rename_i hmode;exact y3 (AiX hS hg h hv) fun en w' k=>⟨k,fun h=>absurd hmode (h fi hfi).1⟩
  ·rename_i hmode;split at h
   ·have:=Aeh (P:=P) (cvs:= []) hS hg h hv rfl (by simp);simp only [ye] at this;exact y3 this fun en w' k=>⟨k.1,fun h=>absurd hmode (h fi hfi).2⟩
   ·exact y3 (AiX hS hg h hv) fun en w' k=>⟨k,fun h=>absurd hmode (h fi hfi).2⟩
 ·exact h.elim
end
end Go.Eva